/- For every input the law returns true, and the input reads as it did. No condition. -/
import Derived.Test.YtnhlcljjjbjfeaaGreatZe
import Derived.ChangeSlices
import Derived.ChangeSame
import Derived.JoinedOf
import Derived.JoinedAt
import Derived.Handed
import Derived.Below
import Derived.Carry
import Derived.OpenShut
import Derived.ChangeKeysEq
import Derived.Test.YtnhlcljjjbjfeaaGreatY
import Derived.Test.YtnhlcljjjbjfeaaGreatRows
set_option linter.all false
set_option linter.unusedSectionVars false
set_option linter.unusedVariables false
set_option linter.unusedSimpArgs false
namespace Go.TX.F
open Go Go.AE Go.TX
noncomputable def SW (t:List Atom) (b:Blk) (i:Nat):SS:=(b.ops.take i).foldl stp (s0 t)
structure At (t:List Atom) (b:Blk) (i:Nat) (ld inn:Int) (tb:List Atom) (V:List (List aj)) (ev:List Ev) (rg:List (List aj)):Prop where
  ld:ld=(SW t b i).ld
  inn:inn=(SW t b i).inn
  tb:tb=(SW t b i).t
  V:V=(SW t b i).vals++List.replicate (b.ops.length-i) []
  ev:ev=(SW t b i).evs
  rg:rg=(SW t b i).regs
theorem At.aqo {t:List Atom} {b:Blk} {i:Nat} {ld inn:Int} {tb:List Atom} {V:List (List aj)} {ev:List Ev} {rg:List (List aj)} (h:At t b i ld inn tb V ev rg) (hv:(SW t b i).vals.length=i) (hi:i≤b.ops.length):V.length=b.ops.length:=by
  rw [h.V,List.length_append,List.length_replicate,hv];omega
theorem Ul (t:List Atom):∀(l:List IOp) (s:SS),(l.foldl stp s).evs.length≤s.evs.length+l.length
  | [],s=>Nat.le_refl _
  | o::r,s=>by
    rw [List.foldl_cons,List.length_cons]
    have h1:=Ul t r (stp s o)
    have h2:(stp s o).evs.length≤s.evs.length+1:=by
      show(nE s o).length≤_
      unfold nE;split
      · rw [List.length_append];exact Nat.le_refl _
      · omega
    omega
theorem ag5 {t:List Atom} {b:Blk} (i:Nat) (hi:i≤b.ops.length):(SW t b i).evs.length≤i:=by
  have:=Ul t (b.ops.take i) (s0 t)
  rw [List.length_take,Nat.min_eq_left hi]at this
  show((b.ops.take i).foldl stp (s0 t)).evs.length≤i
  have e:(s0 t).evs.length=0:=rfl
  omega
theorem aby {t:List Atom} {b:Blk} {i:Nat} (hi:i<b.ops.length):SW t b (i+1)=stp (SW t b i) (b.ops.getD i default):=by
  unfold SW;rw [j6 _ _ hi,getD_lt hi]
theorem At.next {t:List Atom} {b:Blk} {i:Nat} {ld inn:Int} {tb:List Atom} {V:List (List aj)} {ev:List Ev} {rg:List (List aj)} (h:At t b i ld inn tb V ev rg) (hv:(SW t b i).vals.length=i) (hi:i<b.ops.length) {o:IOp} (ho:b.ops.getD i default=o)
    {ld' Y9:Int} {tb':List Atom} {V':List (List aj)} {ev':List Ev} {rg':List (List aj)} (h1:ld'=if o.kind=4 then ld+1 else ld) (h2:Y9=if o.kind=6 then inn+1 else inn) (h3:tb'=nT (SW t b i) o) (h4:V'=V.set i (nV (SW t b i) o)) (h5:ev'=nE (SW t b i) o) (h6:rg'=nR (SW t b i) o):At t b (i+1) ld' Y9 tb' V' ev' rg':=by
  have e:=aby (t:=t) hi
  rw [ho]at e
  refine⟨?_,?_,?_,?_,?_,?_⟩<;>rw [e]
  · rw [h1,h.ld];rfl
  · rw [h2,h.inn];rfl
  · exact h3
  · rw [h4,h.V]
    show _=((SW t b i).vals++ [nV (SW t b i) o])++_
    rw [List.set_append_right _ _ (by omega),hv,Nat.sub_self,show b.ops.length-i=(b.ops.length- (i+1))+1 by omega,List.replicate_succ,List.set_cons_zero,List.append_assoc];rfl
  · exact h5
  · exact h6
set_option maxHeartbeats 1000000 in
theorem anA {p1:Blk×Unit→Bool} {f1:Blk×Unit→Bool×Bool×Bool×Unit} (hp1:∀b,p1 (b,())=true) (hf1:∀b,f1 (b,())=(decide (b.fin≠1),decide (3≤b.fin),decide (b.fin≠2),()))
    {p2:Blk×Unit→Bool} {f2:Blk×Unit→Bool×Unit} (hp2:∀b,b.ops.length<1000000000→p2 (b,())=true) (hf2:∀b,b.ops.length<1000000000→f2 (b,())=(bp (bV b),()))
    {p3:IOp×Unit→Bool} {f3:IOp×Unit→Bool×Unit} (hp3:∀o,p3 (o,())=true) (hf3:∀o,f3 (o,())=(decide (evO o),()))
    {p4:IOp×Unit→Bool} {f4:IOp×Unit→Bool×Bool×Bool×Bool×Unit} (hp4:∀o,p4 (o,())=true) (hf4:∀o,f4 (o,())=(decide (hX o),decide (hY o),decide (hK o),decide (evO o),()))
    {p5:Int×Unit→Bool} {f5:Int×Unit→List aj×Unit} (hp5:∀n,p5 (n,())=true) (hf5:∀n,f5 (n,())=(aV n,()))
    {p6:Sym×Int×Unit→Bool} {f6:Sym×Int×Unit→Sym×Unit} (hp6:∀s n,ShY s→0≤s.fin→s.fin≤4→p6 (s,n,())=true) (hf6:∀s n,ShY s→0≤s.fin→s.fin≤4→f6 (s,n,())=(symEnd s n,()))
    {p7:List Atom×Unit→Bool} {f7:List Atom×Unit→Bool×Unit} (hp7:∀a,ShT a→p7 (a,())=true) (hf7:∀a,ShT a→f7 (a,())=(bp (aH a),()))
    {p8:List Atom×Unit→Bool} {f8:List Atom×Unit→List Atom×Unit} (hp8:∀a,ShT a→p8 (a,())=true) (hf8:∀a,ShT a→f8 (a,())=(a,()))
    {p9:List Atom×Int×List aj×List aj×Unit→Bool} {f9:List Atom×Int×List aj×List aj×Unit→List Atom×List aj×Bool×Unit} (hp9:∀(t:List Atom) op x y,t.length<1000000000→Sh x→Sh y→p9 (t,op,x,y,())=true)
    (hf9:∀(t:List Atom) op x y,t.length<1000000000→Sh x→Sh y→(f9 (t,op,x,y,())).1=(tDo t op x y).1∧(f9 (t,op,x,y,())).2.1=(tDo t op x y).2∧(f9 (t,op,x,y,())).2.2.1=tOk t op x y)
    {p10:Int×Int×List Atom×Bool×Unit→Bool} {f10:Int×Int×List Atom×Bool×Unit→List aj×List Atom×Bool×Unit} (anB:∀kd k (t:List Atom) fl,t.length<1000000000→p10 (kd,k,t,fl,())=true)
    (aqp:∀kd k (t:List Atom) fl,t.length<1000000000→f10 (kd,k,t,fl,())=if(bG t ⟨kd,k,[],[]⟩).2<0 then([],t,true,())else(ig (bG t ⟨kd,k,[],[]⟩).2,(bG t ⟨kd,k,[],[]⟩).1,fl,()))
    {p11:List Atom×Bool×Unit→Bool} {f11:List Atom×Bool×Unit→List Atom×Bool×List (List aj)×Unit} (aqr:∀(t:List Atom) fl,aH t→t.length≤196→p11 (t,fl,())=true) (aqs:∀(t:List Atom) fl,aH t→t.length≤196→f11 (t,fl,())=((rN t 4).1,fl,(rN t 4).2,()))
    {p12:List (List aj)×Unit→Bool} {f12:List (List aj)×Unit→List (List aj)×List (List aj)×Unit} (anC:∀a:List (List aj),0<a.length→a.length<1000000000→p12 (a,())=true) (anD:∀a:List (List aj),0<a.length→a.length<1000000000→f12 (a,())=(a,a,()))
    (t:List Atom) (b:Blk) (ht:ShT t) (hb:b.ops.length<1000000000):Ym (std 0) p1 f1 p2 f2 p3 f3 p4 f4 p5 f5 p6 f6 p7 f7 p8 f8 p9 f9 p10 f10 p11 f11 p12 f12 (t,b,()) (fun y=>y=((bH t b).1,(bH t b).2,())):=by
  have hlt:=ht.1
  dsimp only [Ym,Alg.cl,Alg.cg,Alg.rb,Alg.bd,Alg.l1,Tup.q,Tup.o]
  simp (disch:=omega) only [RR,RB,hp7 t ht,hf7 t ht,hp2 b hb,hf2 b hb]
  by_cases c:aH t∧t.length≤100∧bV b
  case neg=>
    refine⟨fun _=> ?_,fun h=> ?_⟩
    · unfold bH;rw [gZ c];rfl
    · exact absurd ⟨bS.1 h.1.1,by omega,bS.1 h.2⟩ c
  obtain⟨c1,c2,c3⟩:=c
  simp (disch:=omega) only [RR,dH c1,dH c3,aqr t false c1 (by omega),aqs t false c1 (by omega)]
  have sz:=c3.sz
  have hop:=c3.op
  have hk3:=c3.k3
  have i0:=ze c1 (by omega)
  have siw:∀j:Nat,j≤b.ops.length→SI (t.length+4) j (SW t b j):=fun j hj=>by
    have:=(uK (b.ops.take j) 0 (s0 t) i0 (fun o ho=>hk3 o (List.mem_of_mem_take ho)) (by rw [List.length_take];omega) (by rw [List.length_take];omega)).1
    rw [List.length_take,Nat.min_eq_left hj,Nat.zero_add]at this;exact this
  refine⟨fun h=>absurd h (by omega),fun _=>⟨by omega,by omega,?_⟩⟩
  refine ay (fun(y:Int×Int×List IOp×Int×Int×Blk×Int×Int×List Atom×Bool×Int×Int×List (List aj)×List Ev×List (List aj)×Unit)=>y.2.2.2.2.2.1=b∧y.2.2.1=b.ops∧y.2.2.2.1=b.ops.length∧y.2.2.2.2.2.2.2.2.2.1=false∧y.2.2.2.2.2.2.2.2.2.2.1=b.fin∧y.2.2.2.2.2.2.2.2.2.2.2.1=b.k∧
      0≤y.2.2.2.2.1∧y.2.2.2.2.1≤b.ops.length∧At t b y.2.2.2.2.1.toNat y.1 y.2.1 y.2.2.2.2.2.2.2.2.1 y.2.2.2.2.2.2.2.2.2.2.2.2.1 y.2.2.2.2.2.2.2.2.2.2.2.2.2.1 y.2.2.2.2.2.2.2.2.2.2.2.2.2.2.1) (fun y=>(b.ops.length-y.2.2.2.2.1).toNat)
    ⟨rfl,rfl,rfl,rfl,rfl,rfl,by simp,by simp,⟨rfl,rfl,rfl,rfl,rfl,rfl⟩⟩ ?_
  rintro⟨(ld:Int),(inn:Int),(ops:List IOp),(n:Int),(i:Int),(b':Blk),(z1:Int),(z2:Int),(tb:List Atom),(fl:Bool),(fin:Int),(kk:Int),(V:List (List aj)),(ev:List Ev),(rg:List (List aj)),⟨⟩⟩ hI
  dsimp only at hI ⊢
  obtain⟨e1,e2,e3,e4,e5,e6,h1,h2,hA⟩:=hI
  subst e1 e2 e3 e4 e5 e6
  have hl:V.length=b'.ops.length:=hA.aqo (siw i.toNat (by omega)).vl (by omega)
  have si:=siw i.toNat (by omega)
  obtain⟨a1,a2,a3,a4,a5,a6⟩:=hA
  have tl:tb.length<1000000000:=by rw [a3];have:=si.tl;omega
  have r4:rg.length=4:=by rw [a6];exact si.r4
  have evl:ev.length≤i.toNat:=by rw [a5];exact ag5 i.toNat (by omega)
  by_cases h7:i<b'.ops.length
  case neg=>
    have en:=c3.en
    have hf:=en.f
    have hpc:=c3.pc
    have hln:=c3.ln
    have ein:i.toNat=b'.ops.length:=by omega
    have eS:SW t b' i.toNat=eu t b':=by unfold SW eu;rw [ein,List.take_of_length_le (Nat.le_refl _)]
    rw [eS]at a1 a2 a3 a4 a5 a6 si
    have eV:V=(eu t b').vals:=by rw [a4,ein,Nat.sub_self];simp
    clear a4
    have pk:=JW (b:=b') si
    have eR:=jZ c1 c2 c3
    have sh:ShY (jK b' (eu t b')):=by
      have i0:=ze c1 (by omega)
      have hs:=Rp b'.ops 0 (s0 t) i0 hk3 (by omega) (by omega) ⟨by simp [s0],fun e he=>absurd he (by simp [s0])⟩
      exact⟨⟨by have:=hs.1;show(b'.ops.foldl stp (s0 t)).evs.length<_;omega,hs.2⟩,si.regs,pk.1.sh,pk.2.sh⟩
    have st:=si.tok.sh
    have q6:=hp6 (jK b' (eu t b')) (b'.pc+b'.len) sh (by show 0≤b'.fin;omega) hf.2
    have r6:=hf6 (jK b' (eu t b')) (b'.pc+b'.len) sh (by show 0≤b'.fin;omega) hf.2
    subst a1 a2 a3 a5 a6 eV
    have x1:=en.x1
    have y1:=en.y1
    have sl:=si.vl
    have E:jK b' (eu t b')=⟨(eu t b').evs,(eu t b').regs,b'.fin,if b'.fin=1 then []else(((eu t b').vals).getD (b'.x).toNat default),if 3≤b'.fin then(((eu t b').vals).getD (b'.y).toNat default)else [],b'.k⟩:=rfl
    rw [E]at q6 r6
    rcases(by omega:b'.fin=1∨b'.fin=2∨3≤b'.fin)with c | c | c
    · have n2:¬3≤b'.fin:=by omega
      rw [if_pos c,if_neg n2]at q6 r6
      simp (disch:=omega) only [RR,RB,h7,hp1,hf1,decide_eq_false n2,c,ne_eq,not_true_eq_false,decide_false,hp8 _ st,hf8 _ st]
      rw [c]at q6 r6
      rw [eR,E,if_pos c,if_neg n2,c]
      exact⟨fun h=>absurd h (by omega),fun _=>⟨q6,by rw [r6]⟩⟩
    · have n1:b'.fin≠1:=by omega
      have n2:¬3≤b'.fin:=by omega
      obtain⟨v1,v2,_⟩:=x1 n1
      rw [if_neg n1,if_neg n2]at q6 r6
      simp (disch:=omega) only [RR,RB,h7,hp1,hf1,decide_eq_true n1,decide_eq_false n2,hp8 _ st,hf8 _ st]
      rw [eR,E,if_neg n1,if_neg n2]
      exact⟨v1,by omega,v1,by omega,q6,by rw [r6]⟩
    · have n1:b'.fin≠1:=by omega
      obtain⟨v1,v2,_⟩:=x1 n1
      obtain⟨w1,w2,_⟩:=y1 c
      rw [if_neg n1,if_pos c]at q6 r6
      simp (disch:=omega) only [RR,RB,h7,hp1,hf1,decide_eq_true n1,decide_eq_true c,hp8 _ st,hf8 _ st]
      rw [eR,E,if_neg n1,if_pos c]
      exact⟨v1,by omega,v1,by omega,w1,by omega,w1,by omega,q6,by rw [r6]⟩
  have hok:=hop i h1 h7
  have nxt:=fun {ld' Y9:Int} {tb':List Atom} {V':List (List aj)} {ev':List Ev} {rg':List (List aj)}=>At.next (t:=t) (b:=b') (i:=i.toNat) (o:=((b'.ops).getD (i).toNat default)) ⟨a1,a2,a3,a4,a5,a6⟩ si.vl (by omega) rfl (ld':=ld') (Y9:=Y9) (tb':=tb') (V':=V') (ev':=ev') (rg':=rg')
  have ei:(i+1).toNat=i.toNat+1:=by omega
  have vx:∀j:Int,0≤j→j<i→((V).getD (j).toNat default)=(((SW t b' i.toNat).vals).getD (j).toNat default):=fun j j1 j2=>by
    have:=si.vl
    rw [a4,getD_lt (by rw [List.length_append];omega),getD_lt (by omega),List.getElem_append_left]
  have ex:hX ((b'.ops).getD (i).toNat default)→((V).getD ((((b'.ops).getD (i).toNat default)).x).toNat default)=xOf (SW t b' i.toNat) ((b'.ops).getD (i).toNat default):=fun h=>by
    unfold xOf;rw [if_pos h];exact vx _ (hok.x1 h).1 (hok.x1 h).2.1
  have ey:hY ((b'.ops).getD (i).toNat default)→((V).getD ((((b'.ops).getD (i).toNat default)).y).toNat default)=yOf (SW t b' i.toNat) ((b'.ops).getD (i).toNat default):=fun h=>by
    unfold yOf;rw [if_pos h];exact vx _ (hok.y1 h).1 (hok.y1 h).2.1
  have v0:V.set i.toNat []=V:=by
    have:=si.vl
    rw [a4,List.set_append_right _ _ (by omega),this,Nat.sub_self,show b'.ops.length-i.toNat=(b'.ops.length- (i.toNat+1))+1 by omega,List.replicate_succ,List.set_cons_zero]
  obtain⟨sn,so⟩:=JQ (o:=((b'.ops).getD (i).toNat default)) si hok.k3 (by omega) (by omega)
  have gl:=si.ld
  have gi:=si.inn
  have shx:=(si.x ((b'.ops).getD (i).toNat default)).1.sh
  have shy:=(si.y ((b'.ops).getD (i).toNat default)).1.sh
  generalize hs:SW t b' i.toNat=s at*
  generalize ho:((b'.ops).getD (i).toNat default)=o at*
  have kd:=hok.kd
  subst a1 a2 a3 a5 a6
  have L0:o.kind≠4→s.ld=if o.kind=4 then s.ld+1 else s.ld:=fun h=>by rw [if_neg h]
  have I0:o.kind≠6→s.inn=if o.kind=6 then s.inn+1 else s.inn:=fun h=>by rw [if_neg h]
  have T0:o.kind≠3→o.kind≠4→o.kind≠6→s.t=nT s o:=fun h3 h4 h6=>by unfold nT;rw [if_neg h3,if_neg (by omega)]
  have R0:o.kind≠8→s.regs=nR s o:=fun h=>by unfold nR;rw [if_neg h]
  have E0:¬evO o→s.evs=nE s o:=fun h=>by unfold nE;rw [if_neg h]
  have V0:o.kind=5∨o.kind=7∨o.kind=8→V=V.set i.toNat (nV s o):=fun h=>by
    rw [show nV s o=[] by unfold nV;rw [if_neg (by omega),if_neg (by omega),if_neg (by omega),if_neg (by omega)],v0]
  have P0:∀kd k,0≤(bG s.t ⟨kd,k,[],[]⟩).2→f10 (kd,k,s.t,false,())=(ig (bG s.t ⟨kd,k,[],[]⟩).2,(bG s.t ⟨kd,k,[],[]⟩).1,false,()):=fun kd k h=>by
    rw [aqp _ _ _ _ tl,if_neg (by omega)]
  have y0:¬hY o→yOf s o=[]:=fun h=>by unfold yOf;rw [if_neg h]
  have x0:¬hX o→xOf s o=[]:=fun h=>by unfold xOf;rw [if_neg h]
  rcases(by omega:o.kind=1∨o.kind=2∨o.kind=3∨o.kind=4∨o.kind=5∨o.kind=6∨o.kind=7∨o.kind=8)with c | c | c | c | c | c | c | c
  · have dX:decide (hX o)=false:=decide_eq_false (by unfold hX;omega)
    have dY:decide (hY o)=false:=decide_eq_false (by unfold hY;omega)
    have dE:decide (evO o)=false:=decide_eq_false (by unfold evO;omega)
    have N:At t b' (i.toNat+1) s.ld s.inn s.t (V.set i.toNat (aV o.k)) s.evs s.regs:=nxt (L0 (by omega)) (I0 (by omega)) (T0 (by omega) (by omega) (by omega)) (by unfold nV;rw [if_pos c]) (E0 (by unfold evO;omega)) (R0 (by omega))
    simp (disch:=omega) only [RR,RB,ho,h7,hp4,hf4,hp3,hf3,dX,dY,dE,c,Int.reduceEq,List.length_cons,List.length_nil,hp5,hf5]
    repeat' apply And.intro
    all_goals first | omega | (rw [ei];exact N)
  · have dX:decide (hX o)=false:=decide_eq_false (by unfold hX;omega)
    have dY:decide (hY o)=false:=decide_eq_false (by unfold hY;omega)
    have dE:decide (evO o)=false:=decide_eq_false (by unfold evO;omega)
    have k2:=hok.k2 (Or.inl c)
    have N:At t b' (i.toNat+1) s.ld s.inn s.t (V.set i.toNat ((s.regs).getD (o.k).toNat default)) s.evs s.regs:=nxt (L0 (by omega)) (I0 (by omega)) (T0 (by omega) (by omega) (by omega)) (by unfold nV;rw [if_neg (by omega),if_pos c]) (E0 (by unfold evO;omega)) (R0 (by omega))
    simp (disch:=omega) only [RR,RB,ho,h7,hp4,hf4,hp3,hf3,dX,dY,dE,c,Int.reduceEq,List.length_cons,List.length_nil,r4]
    repeat' apply And.intro
    all_goals first | omega | (rw [ei];exact N)
  · have dX:decide (hX o)=true:=decide_eq_true (by unfold hX;omega)
    have dY:decide (hY o)=true:=decide_eq_true (by unfold hY;omega)
    have dE:decide (evO o)=false:=decide_eq_false (by unfold evO;omega)
    have v1:=hok.x1 (by unfold hX;omega)
    have v2:=hok.y1 (by unfold hY;omega)
    have u1:=v1.2.1
    have u2:=v2.2.1
    have w1:=v1.1
    have w2:=v2.1
    obtain⟨d1,d2,d3⟩:=hf9 s.t o.k _ _ tl shx shy
    have d4:=(so.d c).ok
    have N:At t b' (i.toNat+1) s.ld s.inn (tDo s.t o.k (xOf s o) (yOf s o)).1 (V.set i.toNat (tDo s.t o.k (xOf s o) (yOf s o)).2) s.evs s.regs:=nxt (L0 (by omega)) (I0 (by omega)) (by unfold nT;rw [if_pos c]) (by unfold nV;rw [if_neg (by omega),if_neg (by omega),if_pos c]) (E0 (by unfold evO;omega)) (R0 (by omega))
    simp (disch:=omega) only [RR,RB,ho,h7,hp4,hf4,hp3,hf3,dX,dY,dE,c,Int.reduceEq,List.length_cons,List.length_nil,ex (by unfold hX;omega),ey (by unfold hY;omega),hp9 s.t o.k _ _ tl shx shy,d1,d2,d3,d4]
    repeat' apply And.intro
    all_goals first | omega | (rw [ei];exact N)
  · have dX:decide (hX o)=true:=decide_eq_true (by unfold hX;omega)
    have dY:decide (hY o)=false:=decide_eq_false (by unfold hY;omega)
    have dE:decide (evO o)=true:=decide_eq_true (by unfold evO;omega)
    have v1:=hok.x1 (by unfold hX;omega)
    have u1:=v1.2.1
    have w1:=v1.1
    have ea:aOf s o=⟨2,s.ld,[],[]⟩:=by unfold aOf;rw [if_pos c]
    have pp:=so.p (Or.inl c)
    rw [ea]at pp
    have N:At t b' (i.toNat+1) (s.ld+1) s.inn (bG s.t ⟨2,s.ld,[],[]⟩).1 (V.set i.toNat (ig (bG s.t ⟨2,s.ld,[],[]⟩).2)) (s.evs++ [⟨4,o.at_,xOf s o,[],s.regs⟩]) s.regs:=nxt (by rw [if_pos c]) (I0 (by omega)) (by unfold nT;rw [if_neg (by omega),if_pos (Or.inl c),ea]) (by unfold nV;rw [if_neg (by omega),if_neg (by omega),if_neg (by omega),if_pos (Or.inl c),ea]) (by unfold nE;rw [if_pos (by unfold evO;omega),if_pos (Or.inl c),c,y0 (by unfold hY;omega)]) (R0 (by omega))
    simp (disch:=omega) only [RR,RB,ho,h7,hp4,hf4,hp3,hf3,dX,dY,dE,c,Int.reduceEq,List.length_cons,List.length_nil,ex (by unfold hX;omega),anC s.regs (by omega) (by omega),anD s.regs (by omega) (by omega),anB 2 s.ld s.t false tl,P0 2 s.ld pp]
    repeat' apply And.intro
    all_goals first | omega | (rw [ei];exact N)
  · have dX:decide (hX o)=true:=decide_eq_true (by unfold hX;omega)
    have dY:decide (hY o)=true:=decide_eq_true (by unfold hY;omega)
    have dE:decide (evO o)=true:=decide_eq_true (by unfold evO;omega)
    have v1:=hok.x1 (by unfold hX;omega)
    have v2:=hok.y1 (by unfold hY;omega)
    have u1:=v1.2.1
    have u2:=v2.2.1
    have w1:=v1.1
    have w2:=v2.1
    have N:At t b' (i.toNat+1) s.ld s.inn s.t V (s.evs++ [⟨5,o.at_,xOf s o,yOf s o,s.regs⟩]) s.regs:=nxt (L0 (by omega)) (I0 (by omega)) (T0 (by omega) (by omega) (by omega)) (V0 (by omega)) (by unfold nE;rw [if_pos (by unfold evO;omega),if_pos (Or.inr c),c]) (R0 (by omega))
    simp (disch:=omega) only [RR,RB,ho,h7,hp4,hf4,hp3,hf3,dX,dY,dE,c,Int.reduceEq,List.length_cons,List.length_nil,ex (by unfold hX;omega),ey (by unfold hY;omega),anC s.regs (by omega) (by omega),anD s.regs (by omega) (by omega)]
    repeat' apply And.intro
    all_goals first | omega | (rw [ei];exact N)
  · have dX:decide (hX o)=false:=decide_eq_false (by unfold hX;omega)
    have dY:decide (hY o)=false:=decide_eq_false (by unfold hY;omega)
    have dE:decide (evO o)=true:=decide_eq_true (by unfold evO;omega)
    have ea:aOf s o=⟨3,s.inn,[],[]⟩:=by unfold aOf;rw [if_neg (by omega)]
    have pp:=so.p (Or.inr c)
    rw [ea]at pp
    have N:At t b' (i.toNat+1) s.ld (s.inn+1) (bG s.t ⟨3,s.inn,[],[]⟩).1 (V.set i.toNat (ig (bG s.t ⟨3,s.inn,[],[]⟩).2)) (s.evs++ [⟨6,o.at_,[],[],[]⟩]) s.regs:=nxt (L0 (by omega)) (by rw [if_pos c]) (by unfold nT;rw [if_neg (by omega),if_pos (Or.inr c),ea]) (by unfold nV;rw [if_neg (by omega),if_neg (by omega),if_neg (by omega),if_pos (Or.inr c),ea]) (by unfold nE;rw [if_pos (by unfold evO;omega),if_neg (by omega),c,x0 (by unfold hX;omega),y0 (by unfold hY;omega)]) (R0 (by omega))
    simp (disch:=omega) only [RR,RB,ho,h7,hp4,hf4,hp3,hf3,dX,dY,dE,c,Int.reduceEq,List.length_cons,List.length_nil,anB 3 s.inn s.t false tl,P0 3 s.inn pp]
    repeat' apply And.intro
    all_goals first | omega | (rw [ei];exact N)
  · have dX:decide (hX o)=true:=decide_eq_true (by unfold hX;omega)
    have dY:decide (hY o)=false:=decide_eq_false (by unfold hY;omega)
    have dE:decide (evO o)=true:=decide_eq_true (by unfold evO;omega)
    have v1:=hok.x1 (by unfold hX;omega)
    have u1:=v1.2.1
    have w1:=v1.1
    have N:At t b' (i.toNat+1) s.ld s.inn s.t V (s.evs++ [⟨7,o.at_,xOf s o,[],[]⟩]) s.regs:=nxt (L0 (by omega)) (I0 (by omega)) (T0 (by omega) (by omega) (by omega)) (V0 (by omega)) (by unfold nE;rw [if_pos (by unfold evO;omega),if_neg (by omega),c,y0 (by unfold hY;omega)]) (R0 (by omega))
    simp (disch:=omega) only [RR,RB,ho,h7,hp4,hf4,hp3,hf3,dX,dY,dE,c,Int.reduceEq,List.length_cons,List.length_nil,ex (by unfold hX;omega)]
    repeat' apply And.intro
    all_goals first | omega | (rw [ei];exact N)
  · have dX:decide (hX o)=true:=decide_eq_true (by unfold hX;omega)
    have dY:decide (hY o)=false:=decide_eq_false (by unfold hY;omega)
    have dE:decide (evO o)=false:=decide_eq_false (by unfold evO;omega)
    have v1:=hok.x1 (by unfold hX;omega)
    have u1:=v1.2.1
    have w1:=v1.1
    have k2:=hok.k2 (Or.inr c)
    have N:At t b' (i.toNat+1) s.ld s.inn s.t V s.evs (s.regs.set o.k.toNat (xOf s o)):=nxt (L0 (by omega)) (I0 (by omega)) (T0 (by omega) (by omega) (by omega)) (V0 (by omega)) (E0 (by unfold evO;omega)) (by unfold nR;rw [if_pos c])
    simp (disch:=omega) only [RR,RB,ho,h7,hp4,hf4,hp3,hf3,dX,dY,dE,c,Int.reduceEq,List.length_cons,List.length_nil,ex (by unfold hX;omega),r4]
    repeat' apply And.intro
    all_goals first | omega | (rw [ei];exact N)
end Go.TX.F
namespace Go.TX.F
open Go Go.AE Go.TX
theorem ag6 (i:Ins):Qo (std 0) (i,()) (fun _=>True):=by
  dsimp only [Qo,Alg.cl,Alg.cg,Alg.rb,Alg.bd,Alg.l1,Tup.q,Tup.o]
  simp (disch:=omega) only [RR]
theorem ag7 {p1:Int×Int×Int×Unit→Bool} {f1:Int×Int×Int×Unit→Bool×Unit} (hp1:∀a b c,p1 (a,b,c,())=true) (hf1:∀a b c,f1 (a,b,c,())=(inB a b c,())) {p2:Ins×Unit→Bool} {f2:Ins×Unit→Bool×Unit} (hp2:∀i,p2 (i,())=true) (i:Ins):Qp (std 0) p1 f1 p2 f2 (i,()) (fun _=>True):=by
  dsimp only [Qp,Alg.cl,Alg.cg,Alg.rb,Alg.bd,Alg.l1,Tup.q,Tup.o]
  simp (disch:=omega) only [RR,hp1,hp2]
theorem ag8 (i:Int):Qq (std 0) (i,()) (fun _=>True):=by
  dsimp only [Qq,Alg.cl,Alg.cg,Alg.rb,Alg.bd,Alg.l1,Tup.q,Tup.o]
theorem ag9 {p1:Int×Unit→Bool} {f1:Int×Unit→Bool×Unit} (hp1:∀i,p1 (i,())=true) {p2:Ins×Unit→Bool} {f2:Ins×Unit→Bool×Unit} (hp2:∀i,p2 (i,())=true) (i:Ins):Qr (std 0) p1 f1 p2 f2 (i,()) (fun _=>True):=by
  dsimp only [Qr,Alg.cl,Alg.cg,Alg.rb,Alg.bd,Alg.l1,Tup.q,Tup.o]
  simp (disch:=omega) only [RR,hp1,hp2]
theorem aha {p1:Int×Unit→Bool} {f1:Int×Unit→Bool×Unit} (hp1:∀i,p1 (i,())=true) {p2:Ins×Unit→Bool} {f2:Ins×Unit→Bool×Unit} (hp2:∀i,p2 (i,())=true) {p3:Int×Int×Int×Unit→Bool} {f3:Int×Int×Int×Unit→Bool×Unit} (hp3:∀a b c,p3 (a,b,c,())=true) (hf3:∀a b c,f3 (a,b,c,())=(inB a b c,())) {p4:Ins×Unit→Bool} {f4:Ins×Unit→Bool×Unit} (hp4:∀i,p4 (i,())=true) (pc:Int) (l:List Ins) (hl:(l.length:Int)<1000):QA (std 0) p1 f1 p2 f2 p3 f3 p4 f4 (pc,l,()) (fun _=>True):=by
  dsimp only [QA,Alg.cl,Alg.cg,Alg.rb,Alg.bd,Alg.l1,Tup.q,Tup.o]
  simp (disch:=omega) only [RR,hp1,hp2,hp3,hp4]
  refine fun _=> ?_
  refine ay (fun(y:List Ins×Int×Unit)=>y.1=l∧0≤y.2.1) (fun y=>((l.length:Int)-y.2.1).toNat) ⟨rfl,by simp⟩ ?_
  rintro⟨(l':List Ins),(j:Int),⟨⟩⟩ hI
  dsimp only at hI ⊢
  obtain⟨rfl,h1⟩:=hI
  simp (disch:=omega) only [RR,hp1,hp2,hp3,hp4,or_true]
  refine fun h=>⟨h1,h,by omega,by omega,by omega,by omega,fun _=> ?_⟩
  rw [w64 (by omega) (by omega)];constructor<;>omega
theorem Za (a1 a2 a3 a4 a5 a6:Int) (o:IOp) (ops:List IOp) (hl:(ops.length:Int)<1000000):QB (std 0) (a1,a2,a3,a4,a5,a6,o,ops,()) (fun y=>(y.2.2.2.2.2.2.2.1.length:Int)=ops.length+1):=by
  dsimp only [QB,Alg.cl,Alg.cg,Alg.rb,Alg.bd,Alg.l1,Tup.q,Tup.o]
  simp (disch:=omega) only [RR,List.length_append,List.length_cons,List.length_nil]
  omega
theorem Zb {p1:Int×Int×Int×Int×Int×Int×IOp×List IOp×Unit→Bool} {f1:Int×Int×Int×Int×Int×Int×IOp×List IOp×Unit→Int×Int×Int×Int×Int×Int×Int×List IOp×Unit} (hp1:∀a1 a2 a3 a4 a5 a6 o ops,(ops.length:Int)<1000000→p1 (a1,a2,a3,a4,a5,a6,o,ops,())=true) (hf1:∀a1 a2 a3 a4 a5 a6 o ops,(ops.length:Int)<1000000→((f1 (a1,a2,a3,a4,a5,a6,o,ops,())).2.2.2.2.2.2.2.1.length:Int)=ops.length+1) (a1 a2 a3 a4 a5 a6:Int) (k:Int) (ops:List IOp) (hl:(ops.length:Int)<1000000):QD (std 0) p1 f1 (a1,a2,a3,a4,a5,a6,k,ops,()) (fun y=>(y.2.2.2.2.2.2.2.1.length:Int)=ops.length+1):=by
  dsimp only [QD,Alg.cl,Alg.cg,Alg.rb,Alg.bd,Alg.l1,Tup.q,Tup.o]
  simp (disch:=omega) only [RR,hp1,hf1]
theorem Zc {p1:Int×Int×Int×Int×Int×Int×IOp×List IOp×Unit→Bool} {f1:Int×Int×Int×Int×Int×Int×IOp×List IOp×Unit→Int×Int×Int×Int×Int×Int×Int×List IOp×Unit} (hp1:∀a1 a2 a3 a4 a5 a6 o ops,(ops.length:Int)<1000000→p1 (a1,a2,a3,a4,a5,a6,o,ops,())=true) (hf1:∀a1 a2 a3 a4 a5 a6 o ops,(ops.length:Int)<1000000→((f1 (a1,a2,a3,a4,a5,a6,o,ops,())).2.2.2.2.2.2.2.1.length:Int)=ops.length+1) (a1 a2 a3 a4 a5 a6:Int) (k x:Int) (ops:List IOp) (hl:(ops.length:Int)<1000000):QC (std 0) p1 f1 (a1,a2,a3,a4,a5,a6,k,x,ops,()) (fun y=>(y.2.2.2.2.2.2.1.length:Int)=ops.length+1):=by
  dsimp only [QC,Alg.cl,Alg.cg,Alg.rb,Alg.bd,Alg.l1,Tup.q,Tup.o]
  simp (disch:=omega) only [RR,hp1,hf1]
theorem ahb {p1:Int×Int×Int×Int×Int×Int×Int×List IOp×Unit→Bool} {f1:Int×Int×Int×Int×Int×Int×Int×List IOp×Unit→Int×Int×Int×Int×Int×Int×Int×List IOp×Unit} (hp1:∀a1 a2 a3 a4 a5 a6 k ops,(ops.length:Int)<1000000→p1 (a1,a2,a3,a4,a5,a6,k,ops,())=true) (hf1:∀a1 a2 a3 a4 a5 a6 k ops,(ops.length:Int)<1000000→((f1 (a1,a2,a3,a4,a5,a6,k,ops,())).2.2.2.2.2.2.2.1.length:Int)=ops.length+1) {p2:Int×Int×Int×Int×Int×Int×IOp×List IOp×Unit→Bool} {f2:Int×Int×Int×Int×Int×Int×IOp×List IOp×Unit→Int×Int×Int×Int×Int×Int×Int×List IOp×Unit} (hp2:∀a1 a2 a3 a4 a5 a6 o ops,(ops.length:Int)<1000000→p2 (a1,a2,a3,a4,a5,a6,o,ops,())=true) (hf2:∀a1 a2 a3 a4 a5 a6 o ops,(ops.length:Int)<1000000→((f2 (a1,a2,a3,a4,a5,a6,o,ops,())).2.2.2.2.2.2.2.1.length:Int)=ops.length+1) (a1 a2 a3 a4 a5 a6:Int) (k a:Int) (o:IOp) (ops:List IOp) (hl:(ops.length:Int)<999000):QE (std 0) p1 f1 p2 f2 (a1,a2,a3,a4,a5,a6,k,a,o,ops,()) (fun y=>(y.2.2.2.2.2.2.2.1.length:Int)=ops.length+3):=by
  dsimp only [QE,Alg.cl,Alg.cg,Alg.rb,Alg.bd,Alg.l1,Tup.q,Tup.o]
  simp (disch:=(first | omega | (simp (disch:=(first | omega | (simp (disch:=(first | omega | (simp (disch:=omega) only [hf1,hf2];omega))) only [hf1,hf2];omega))) only [hf1,hf2];omega))) only [RR,hp1,hp2,hf1,hf2]
  omega
theorem ahc {p1:Int×Int×Int×Int×Int×Int×Int×List IOp×Unit→Bool} {f1:Int×Int×Int×Int×Int×Int×Int×List IOp×Unit→Int×Int×Int×Int×Int×Int×Int×List IOp×Unit} (hp1:∀a1 a2 a3 a4 a5 a6 k ops,(ops.length:Int)<1000000→p1 (a1,a2,a3,a4,a5,a6,k,ops,())=true) (hf1:∀a1 a2 a3 a4 a5 a6 k ops,(ops.length:Int)<1000000→((f1 (a1,a2,a3,a4,a5,a6,k,ops,())).2.2.2.2.2.2.2.1.length:Int)=ops.length+1) {p2:Int×Int×Int×Int×Int×Int×IOp×List IOp×Unit→Bool} {f2:Int×Int×Int×Int×Int×Int×IOp×List IOp×Unit→Int×Int×Int×Int×Int×Int×Int×List IOp×Unit} (hp2:∀a1 a2 a3 a4 a5 a6 o ops,(ops.length:Int)<1000000→p2 (a1,a2,a3,a4,a5,a6,o,ops,())=true) (hf2:∀a1 a2 a3 a4 a5 a6 o ops,(ops.length:Int)<1000000→((f2 (a1,a2,a3,a4,a5,a6,o,ops,())).2.2.2.2.2.2.2.1.length:Int)=ops.length+1) {p3:Int×Int×Int×Int×Int×Int×Int×Int×IOp×List IOp×Unit→Bool} {f3:Int×Int×Int×Int×Int×Int×Int×Int×IOp×List IOp×Unit→Int×Int×Int×Int×Int×Int×Int×List IOp×Unit} (hp3:∀a1 a2 a3 a4 a5 a6 k a o ops,(ops.length:Int)<999000→p3 (a1,a2,a3,a4,a5,a6,k,a,o,ops,())=true) (hf3:∀a1 a2 a3 a4 a5 a6 k a o ops,(ops.length:Int)<999000→((f3 (a1,a2,a3,a4,a5,a6,k,a,o,ops,())).2.2.2.2.2.2.2.1.length:Int)=ops.length+3) {p4:Int×Int×Int×Int×Int×Int×Int×Int×List IOp×Unit→Bool} {f4:Int×Int×Int×Int×Int×Int×Int×Int×List IOp×Unit→Int×Int×Int×Int×Int×Int×List IOp×Unit} (hp4:∀a1 a2 a3 a4 a5 a6 k x ops,(ops.length:Int)<1000000→p4 (a1,a2,a3,a4,a5,a6,k,x,ops,())=true) (hf4:∀a1 a2 a3 a4 a5 a6 k x ops,(ops.length:Int)<1000000→((f4 (a1,a2,a3,a4,a5,a6,k,x,ops,())).2.2.2.2.2.2.1.length:Int)=ops.length+1) (a1 a2 a3 a4 a5 a6:Int) (i:Ins) (k:Int) (ops:List IOp) (hl:(ops.length:Int)<998000):QG (std 0) p1 f1 p2 f2 p3 f3 p4 f4 (a1,a2,a3,a4,a5,a6,i,k,ops,()) (fun y=>(y.2.2.2.2.2.2.1.length:Int)=ops.length+5):=by
  dsimp only [QG,Alg.cl,Alg.cg,Alg.rb,Alg.bd,Alg.l1,Tup.q,Tup.o]
  simp (disch:=(first | omega | (simp (disch:=(first | omega | (simp (disch:=(first | omega | (simp (disch:=omega) only [hf1,hf2,hf3,hf4];omega))) only [hf1,hf2,hf3,hf4];omega))) only [hf1,hf2,hf3,hf4];omega))) only [RR,hp1,hp2,hp3,hp4,hf1,hf2,hf3,hf4]
  constructor<;>intro _<;>omega
theorem Zd {p1:Int×Int×Int×Int×Int×Int×Int×List IOp×Unit→Bool} {f1:Int×Int×Int×Int×Int×Int×Int×List IOp×Unit→Int×Int×Int×Int×Int×Int×Int×List IOp×Unit} (hp1:∀a1 a2 a3 a4 a5 a6 k ops,(ops.length:Int)<1000000→p1 (a1,a2,a3,a4,a5,a6,k,ops,())=true) (hf1:∀a1 a2 a3 a4 a5 a6 k ops,(ops.length:Int)<1000000→((f1 (a1,a2,a3,a4,a5,a6,k,ops,())).2.2.2.2.2.2.2.1.length:Int)=ops.length+1) (a1 a2 a3 a4 a5 a6:Int) (i:Ins) (ops:List IOp) (hl:(ops.length:Int)<999000):QH (std 0) p1 f1 (a1,a2,a3,a4,a5,a6,i,ops,()) (fun y=>(y.2.2.2.2.2.2.1.length:Int)≤ops.length+5):=by
  dsimp only [QH,Alg.cl,Alg.cg,Alg.rb,Alg.bd,Alg.l1,Tup.q,Tup.o]
  simp (disch:=(first | omega | (simp (disch:=(first | omega | (simp (disch:=(first | omega | (simp (disch:=omega) only [hf1];omega))) only [hf1];omega))) only [hf1];omega))) only [RR,hp1,hf1]
  refine⟨fun _=>by omega,fun _=>⟨fun _=>by omega,fun _=>by omega⟩⟩
theorem ahd (k:Int) (hk:k<1000):QF (std 0) (k,()) (fun _=>True):=by
  dsimp only [QF,Alg.cl,Alg.cg,Alg.rb,Alg.bd,Alg.l1,Tup.q,Tup.o]
  simp (disch:=omega) only [RR]
  refine ay (fun(y:Int×Int×Int×Unit)=>y.1=k∧0≤y.2.2.1) (fun y=>(k-y.2.2.1).toNat) ⟨rfl,by simp⟩ ?_
  rintro⟨(k':Int),(z:Int),(j:Int),⟨⟩⟩ hI
  dsimp only at hI ⊢
  obtain⟨rfl,h1⟩:=hI
  simp (disch:=omega) only [RR]
  refine fun h=> ?_
  rw [w64 (by omega) (by omega)];constructor<;>omega
theorem ahe {p1:Int×Int×Int×Int×Int×Int×Int×List IOp×Unit→Bool} {f1:Int×Int×Int×Int×Int×Int×Int×List IOp×Unit→Int×Int×Int×Int×Int×Int×Int×List IOp×Unit} (hp1:∀a1 a2 a3 a4 a5 a6 k ops,(ops.length:Int)<1000000→p1 (a1,a2,a3,a4,a5,a6,k,ops,())=true) (hf1:∀a1 a2 a3 a4 a5 a6 k ops,(ops.length:Int)<1000000→((f1 (a1,a2,a3,a4,a5,a6,k,ops,())).2.2.2.2.2.2.2.1.length:Int)=ops.length+1) {p2:Int×Int×Int×Int×Int×Int×Ins×List IOp×Unit→Bool} {f2:Int×Int×Int×Int×Int×Int×Ins×List IOp×Unit→Int×Int×Int×Int×Int×Int×List IOp×Unit} (hp2:∀a1 a2 a3 a4 a5 a6 i ops,(ops.length:Int)<999000→p2 (a1,a2,a3,a4,a5,a6,i,ops,())=true) (hf2:∀a1 a2 a3 a4 a5 a6 i ops,(ops.length:Int)<999000→((f2 (a1,a2,a3,a4,a5,a6,i,ops,())).2.2.2.2.2.2.1.length:Int)≤ops.length+5) {p3:Int×Int×Int×Int×Int×Int×IOp×List IOp×Unit→Bool} {f3:Int×Int×Int×Int×Int×Int×IOp×List IOp×Unit→Int×Int×Int×Int×Int×Int×Int×List IOp×Unit} (hp3:∀a1 a2 a3 a4 a5 a6 o ops,(ops.length:Int)<1000000→p3 (a1,a2,a3,a4,a5,a6,o,ops,())=true) (hf3:∀a1 a2 a3 a4 a5 a6 o ops,(ops.length:Int)<1000000→((f3 (a1,a2,a3,a4,a5,a6,o,ops,())).2.2.2.2.2.2.2.1.length:Int)=ops.length+1) {p4:Int×Int×Int×Int×Int×Int×Ins×Int×List IOp×Unit→Bool} {f4:Int×Int×Int×Int×Int×Int×Ins×Int×List IOp×Unit→Int×Int×Int×Int×Int×Int×List IOp×Unit} (hp4:∀a1 a2 a3 a4 a5 a6 i k ops,(ops.length:Int)<998000→p4 (a1,a2,a3,a4,a5,a6,i,k,ops,())=true) (hf4:∀a1 a2 a3 a4 a5 a6 i k ops,(ops.length:Int)<998000→((f4 (a1,a2,a3,a4,a5,a6,i,k,ops,())).2.2.2.2.2.2.1.length:Int)=ops.length+5) {p5:Int×Int×Int×Int×Int×Int×Int×Int×IOp×List IOp×Unit→Bool} {f5:Int×Int×Int×Int×Int×Int×Int×Int×IOp×List IOp×Unit→Int×Int×Int×Int×Int×Int×Int×List IOp×Unit} (hp5:∀a1 a2 a3 a4 a5 a6 k a o ops,(ops.length:Int)<999000→p5 (a1,a2,a3,a4,a5,a6,k,a,o,ops,())=true) (hf5:∀a1 a2 a3 a4 a5 a6 k a o ops,(ops.length:Int)<999000→((f5 (a1,a2,a3,a4,a5,a6,k,a,o,ops,())).2.2.2.2.2.2.2.1.length:Int)=ops.length+3) {p6:Int×Int×Int×Int×Int×Int×Int×Int×List IOp×Unit→Bool} {f6:Int×Int×Int×Int×Int×Int×Int×Int×List IOp×Unit→Int×Int×Int×Int×Int×Int×List IOp×Unit} (hp6:∀a1 a2 a3 a4 a5 a6 k x ops,(ops.length:Int)<1000000→p6 (a1,a2,a3,a4,a5,a6,k,x,ops,())=true) (hf6:∀a1 a2 a3 a4 a5 a6 k x ops,(ops.length:Int)<1000000→((f6 (a1,a2,a3,a4,a5,a6,k,x,ops,())).2.2.2.2.2.2.1.length:Int)=ops.length+1) {p7:Int×Unit→Bool} {f7:Int×Unit→Int×Unit} (hp7:∀k,k<1000→p7 (k,())=true) (a1 a2 a3 a4 a5 a6:Int) (i:Ins) (k:Int) (ops:List IOp) (hk:i.k<1000) (hl:(ops.length:Int)<997000):QI (std 0) p1 f1 p2 f2 p3 f3 p4 f4 p5 f5 p6 f6 p7 f7 (a1,a2,a3,a4,a5,a6,i,k,ops,()) (fun y=>(y.2.2.2.2.2.2.1.length:Int)≤ops.length+5):=by
  have e4:=fun i k=>hf4 a1 a2 a3 a4 a5 a6 i k ops (by omega)
  have e2:=fun i=>hf2 a1 a2 a3 a4 a5 a6 i ops (by omega)
  dsimp only [QI,Alg.cl,Alg.cg,Alg.rb,Alg.bd,Alg.l1,Tup.q,Tup.o]
  simp (disch:=(first | omega | (simp (disch:=(first | omega | (simp (disch:=(first | omega | (simp (disch:=omega) only [hf1,hf3,hf5,RB];omega))) only [hf1,hf3,hf5,RB];omega))) only [hf1,hf3,hf5,RB];omega))) only [RR,RB,hp1,hp2,hp3,hp4,hp5,hp6,hp7,hf1,hf3,hf4,hf5,hf6]
  have:=e2 i
  repeat' (first | (refine⟨?_,?_⟩) | intro _)
  all_goals omega
def KB (l:List Ins):Prop:=∀i∈l,i.k<1000
theorem KB.at {l:List Ins} (h:KB l) (n:Nat):(l.getD n default).k<1000:=by
  by_cases h1:n<l.length
  · rw [getD_lt h1];exact h _ (List.getElem_mem _)
  · simp only [List.getD,List.getElem?_eq_none (by omega:l.length≤n)];decide
theorem ahf {p1:Int×List Ins×Unit→Bool} {f1:Int×List Ins×Unit→Bool×Unit} (hp1:∀pc l,(l.length:Int)<1000→p1 (pc,l,())=true) {p2:Int×Int×Int×Int×Int×Int×Ins×Int×List IOp×Unit→Bool} {f2:Int×Int×Int×Int×Int×Int×Ins×Int×List IOp×Unit→Int×Int×Int×Int×Int×Int×List IOp×Unit} (hp2:∀a1 a2 a3 a4 a5 a6 i k ops,i.k<1000→(ops.length:Int)<997000→p2 (a1,a2,a3,a4,a5,a6,i,k,ops,())=true) (hf2:∀a1 a2 a3 a4 a5 a6 i k ops,i.k<1000→(ops.length:Int)<997000→((f2 (a1,a2,a3,a4,a5,a6,i,k,ops,())).2.2.2.2.2.2.1.length:Int)≤ops.length+5) (pc:Int) (l:List Ins) (hl:(l.length:Int)<1000) (hk:KB l):QJ (std 0) p1 f1 p2 f2 (pc,l,()) (fun y=>(y.2.2.2.2.2.2.1.length:Int)≤5000):=by
  dsimp only [QJ,Alg.cl,Alg.cg,Alg.rb,Alg.bd,Alg.l1,Tup.q,Tup.o]
  simp (disch:=omega) only [RR,hp1,List.length_nil]
  refine⟨fun _=>by omega,fun _=> ?_⟩
  refine ay (fun(y:List Ins×Int×Int×Int×Int×Int×Int×Int×Int×Int×Int×Int×Int×Int×List IOp×Unit)=>y.1=l∧0≤y.2.1∧y.2.1≤l.length∧(y.2.2.2.2.2.2.2.2.2.2.2.2.2.2.1.length:Int)≤5*y.2.1) (fun y=>((l.length:Int)-y.2.1).toNat) ⟨rfl,by simp,by simp,by simp⟩ ?_
  rintro⟨(l':List Ins),(j:Int),u1,u2,u3,u4,u5,u6,b1,b2,b3,b4,b5,b6,(ops:List IOp),⟨⟩⟩ hI
  dsimp only at hI ⊢
  obtain⟨rfl,h1,h2,h3⟩:=hI
  have hk':=hk.at j.toNat
  simp (disch:=omega) only [RR,hp2]
  refine⟨fun h=> ?_,fun h=>by omega⟩
  have:=hf2 b1 b2 b3 b4 b5 b6 ((l').getD (j).toNat default) j ops hk' (by omega)
  exact⟨h1,h,⟨by omega,by omega,by omega⟩,by omega⟩
end Go.TX.F
namespace Go.TX.F
open Go Go.AE Go.TX
structure InD (m:Int) (b:List Int) (p:Int) (y:Int×Int×Int×Int×List Int×Int×Unit):Prop where
  b:y.2.2.2.2.1=b
  lo:p≤y.2.2.2.2.2.1
  hi:y.2.2.2.2.2.1≤p+m
  k:0≤y.2.2.2.1∧y.2.2.2.1≤255
@[reducible] def ahg : List Int → Prop
  | []=>True
  | x::l=>(0≤x∧x≤255)∧ahg l
theorem N9:∀(l:List Int) (n:Nat),ahg l→0≤l.getD n default∧l.getD n default≤255
  | [],n,_=>by simp only [List.getD_nil];decide
  | x::l,0,h=>h.1
  | x::l,n+1,h=>N9 l n h.2
theorem pkR {f1:Int×List Int×Int×Unit→Int×List Int×Int×Unit} {b:List Int} (hb:Bt b) (hf1:∀n b p,Bt b→0≤p→p<1000000000→Pk n b p (f1 (n,b,p,()))):
    (∀n p,0≤p→p<1000000000→(f1 (n,b,p,())).2.1=b)∧(∀n p,0≤p→p<1000000000→(f1 (n,b,p,())).2.2.1=p+1)∧
    (∀n p,0≤p→p<1000000000→(0≤(f1 (n,b,p,())).1)=True)∧(∀n p k,0≤p→p<1000000000→n≤k→0<k→((f1 (n,b,p,())).1<k)=True)∧
    (∀n p k,0≤p→p<1000000000→n≤k+1→0≤k→((f1 (n,b,p,())).1≤k)=True):=
  ⟨fun n p h1 h2=>(hf1 n b p hb h1 h2).1,fun n p h1 h2=>(hf1 n b p hb h1 h2).2.1,fun n p h1 h2=>eq_true (hf1 n b p hb h1 h2).2.2.1,
    fun n p k h1 h2 h3 h4=>eq_true (by have:=(hf1 n b p hb h1 h2).2.2;omega),fun n p k h1 h2 h3 h4=>eq_true (by have:=(hf1 n b p hb h1 h2).2.2;omega)⟩
theorem ahh {p1:Int×List Int×Int×Unit→Bool} {f1:Int×List Int×Int×Unit→Int×List Int×Int×Unit} (hp1:∀n b p,Bt b→0≤p→p<1000000000→p1 (n,b,p,())=true) (hf1:∀n b p,Bt b→0≤p→p<1000000000→Pk n b p (f1 (n,b,p,()))) (b:List Int) (p:Int) (hb:Bt b) (h1:0≤p) (h2:p<900000000):Qn (std 0) p1 f1 (b,p,()) (fun y=>InD 20 b p y):=by
  have R:=pkR hb hf1
  have P:=fun n p h1 h2=>hp1 n b p hb h1 h2
  dsimp only [Qn,Alg.cl,Alg.cg,Alg.rb,Alg.bd,Alg.l1,Tup.q,Tup.o]
  simp (disch:=omega) only [RR,R,P,List.length_cons,List.length_nil]
  repeat' (first | (refine⟨?_,?_⟩) | intro _)
  all_goals try omega
  all_goals refine⟨rfl,by dsimp only;omega,by dsimp only;omega,?_⟩
  all_goals dsimp only
  all_goals first | omega | (refine N9 _ _ ?_;simp (disch:=omega) only [ahg,R,Int.reduceLE,and_self,true_and,and_true]) | (simp (disch:=omega) only [R,Int.reduceLE,and_self,true_and,and_true])
theorem ahi {p1:List Int×Int×Unit→Bool} {f1:List Int×Int×Unit→Int×Int×Int×Int×List Int×Int×Unit} (hp1:∀b p,Bt b→0≤p→p<900000000→p1 (b,p,())=true) (hf1:∀b p,Bt b→0≤p→p<900000000→InD 20 b p (f1 (b,p,()))) {p2:Int×List Int×Int×Unit→Bool} {f2:Int×List Int×Int×Unit→Int×List Int×Int×Unit} (hp2:∀n b p,Bt b→0≤p→p<1000000000→p2 (n,b,p,())=true) (hf2:∀n b p,Bt b→0≤p→p<1000000000→Pk n b p (f2 (n,b,p,()))) {p3:Ins×Unit→Bool} {f3:Ins×Unit→Bool×Unit} (hp3:∀i,p3 (i,())=true) (b:List Int) (p:Int) (hb:Bt b) (h1:0≤p) (h2:p<800000000):Qw (std 0) p1 f1 p2 f2 p3 f3 (b,p,()) (fun y=>InD 30 b p y):=by
  obtain⟨a1,a2,a3,a4⟩:=hf1 b p hb h1 (by omega)
  have R:=pkR hb hf2
  have P:=fun n p h1 h2=>hp2 n b p hb h1 h2
  dsimp only [Qw,Alg.cl,Alg.cg,Alg.rb,Alg.bd,Alg.l1,Tup.q,Tup.o]
  simp (disch:=omega) only [RR,hp1 b p hb h1 (by omega),hp3,a1,R,P]
  refine⟨fun _=>⟨rfl,by dsimp only;omega,by dsimp only;omega,?_⟩,fun _=>⟨rfl,a2,by dsimp only;omega,a4⟩⟩
  dsimp only
  simp (disch:=omega) only [R,Int.reduceLE,and_self]
structure LiD (b:List Int) (p:Int) (y:List Int×Int×List Ins×Unit):Prop where
  b:y.1=b
  lo:p≤y.2.1
  hi:y.2.1≤p+1000
  len:(y.2.2.1.length:Int)≤20
  k:KB y.2.2.1
theorem KB.app {l:List Ins} {i:Ins} (h:KB l) (h2:i.k≤255):KB (l++ [i]):=fun x hx=>by
  rw [List.mem_append,List.mem_singleton]at hx
  rcases hx with hx | rfl
  · exact h x hx
  · omega
theorem ahj {p1:List Int×Int×Unit→Bool} {f1:List Int×Int×Unit→Int×Int×Int×Int×List Int×Int×Unit} (hp1:∀b p,Bt b→0≤p→p<800000000→p1 (b,p,())=true) (hf1:∀b p,Bt b→0≤p→p<800000000→InD 30 b p (f1 (b,p,()))) {p2:Int×List Int×Int×Unit→Bool} {f2:Int×List Int×Int×Unit→Int×List Int×Int×Unit} (hp2:∀n b p,Bt b→0≤p→p<1000000000→p2 (n,b,p,())=true) (hf2:∀n b p,Bt b→0≤p→p<1000000000→Pk n b p (f2 (n,b,p,()))) (b:List Int) (p:Int) (hb:Bt b) (h1:0≤p) (h2:p<700000000):Qz (std 0) p1 f1 p2 f2 (b,p,()) (fun y=>LiD b p y):=by
  obtain⟨e1,e2,e3,e4⟩:=hf2 8 b p hb h1 (by omega)
  dsimp only [Qz,Alg.cl,Alg.cg,Alg.rb,Alg.bd,Alg.l1,Tup.q,Tup.o]
  simp (disch:=omega) only [RR,hp2 8 b p hb h1 (by omega),e1,e2]
  refine ay (fun(y:Int×List Int×Int×List Ins×Unit)=>0≤y.1∧y.1≤8∧y.2.1=b∧p≤y.2.2.1∧y.2.2.1+40*y.1≤p+400∧(y.2.2.2.1.length:Int)+y.1≤8∧KB y.2.2.2.1) (fun y=>y.1.toNat)
    ⟨e3,by dsimp only;omega,rfl,by dsimp only;omega,by dsimp only;omega,by dsimp only [List.length_nil];omega,fun x hx=>by cases hx⟩ ?_
  rintro⟨(k:Int),(b':List Int),(q:Int),(l:List Ins),⟨⟩⟩ hI
  dsimp only at hI ⊢
  obtain⟨k1,k2,rfl,k3,k4,k5,k6⟩:=hI
  have R:=pkR hb hf2
  have P:=fun n p h1 h2=>hp2 n b' p hb h1 h2
  obtain⟨a1,a2,a3,a4⟩:=hf1 b' q hb (by omega) (by omega)
  obtain⟨b1,b2,b3,b4⟩:=hf1 b' (q+1) hb (by omega) (by omega)
  simp (disch:=omega) only [RR,RB,hp1 b' q hb (by omega) (by omega),hp1 b' (q+1) hb (by omega) (by omega),a1,b1,R,P,List.length_cons,List.length_nil,List.length_append]
  refine⟨fun c=>⟨by omega,⟨by omega,by omega,by omega,by omega,by omega,k6.app a4.2⟩,by omega⟩,fun c=>⟨fun _=>⟨by omega,rfl,by dsimp only;omega,by dsimp only;omega,?_,?_⟩,fun _=>⟨fun _=>⟨by omega,rfl,by dsimp only;omega,by dsimp only;omega,?_,?_⟩,fun _=>⟨by omega,rfl,by dsimp only;omega,by dsimp only;omega,?_,?_⟩⟩⟩⟩
  · dsimp only;rw [List.length_append];simp only [List.length_cons,List.length_nil];omega
  · refine k6.app ?_
    dsimp only
    simp (disch:=omega) only [R]
  · dsimp only;rw [List.length_append];simp only [List.length_cons,List.length_nil];omega
  · exact k6.app (by dsimp only;omega)
  · dsimp only;rw [List.length_append];simp only [List.length_cons,List.length_nil];omega
  · exact k6.app b4.2
end Go.TX.F
namespace Go.TX.F
open Go Go.AE Go.TX
theorem Ze (b:Blk) (hb:b.ops.length<1000000):PU (std 0) (b,()) (fun y=>y=(b.pc,b.len,b.fin,b.x,b.y,b.k,b.ops,())):=by
  dsimp only [PU,Alg.cl,Alg.cg,Alg.rb,Alg.bd,Alg.l1,Tup.q,Tup.o]
  simp (disch:=omega) only [RR,RB,List.nil_append,List.length_nil]
  omega
def kn (ops:List IOp) (k:Int):Int×Bool:=if 0≤k∧k<ops.length∧(((ops).getD (k).toNat default)).kind=1 then((((ops).getD (k).toNat default)).k,true)else(0,false)
@[reducible] def bk7 (b : Blk) : Int × Int × Int × Int × Int × Int × List IOp × Unit := (b.pc, b.len, b.fin, b.x, b.y, b.k, b.ops, ())
structure FE (b:Blk):Prop where
  f:1≤b.fin∧b.fin≤4
  x:b.fin≠1→0≤b.x∧b.x<b.ops.length
  y:3≤b.fin→0≤b.y∧b.y<b.ops.length
  y0:b.fin≤2→b.y=0
  p:0≤b.pc∧b.pc≤100∧0≤b.len∧b.len≤100
theorem Zf (ops:List IOp) (k:Int):P5 (std 0) (ops,k,()) (fun y=>y=((kn ops k).1,(kn ops k).2,())):=by
  dsimp only [P5,Alg.cl,Alg.cg,Alg.rb,Alg.bd,Alg.l1,Tup.q,Tup.o]
  simp (disch:=omega) only [RR,RB]
  unfold kn
  refine⟨by omega,by omega,fun h=> ?_,fun h=>⟨by omega,by omega,?_⟩⟩
  · rw [if_neg (by omega)]
  · rw [if_pos (by omega)]
theorem Zg (b:Blk) (k:Int):P6 (std 0) (b,k,()) (fun y=>y=(b.pc,b.len,b.ops,1,0,0,k,())):=by
  dsimp only [P6,Alg.cl,Alg.cg,Alg.rb,Alg.bd,Alg.l1,Tup.q,Tup.o]
  simp (disch:=omega) only [RR,RB]
theorem ahk {p1:Blk×Int×Unit→Bool} {f1:Blk×Int×Unit→Int×Int×List IOp×Int×Int×Int×Int×Unit} (hp1:∀b k,p1 (b,k,())=true) (hf1:∀b k,f1 (b,k,())=(b.pc,b.len,b.ops,1,0,0,k,())) {p2:List IOp×Int×Unit→Bool} {f2:List IOp×Int×Unit→Int×Bool×Unit} (hp2:∀ops k,p2 (ops,k,())=true) (hf2:∀ops k,f2 (ops,k,())=((kn ops k).1,(kn ops k).2,())) (b:Blk) (h:FE b):P7 (std 0) p1 f1 p2 f2 (b,()) (fun y=>y=(fcB b b.ops,())):=by
  have hp:=h.p
  have hf:=h.f
  have k1:b.fin≠1→kn b.ops b.x=if(((b.ops).getD (b.x).toNat default)).kind=1 then((((b.ops).getD (b.x).toNat default)).k,true)else(0,false):=fun c=>by
    have:=h.x c
    unfold kn;simp only [this,true_and]
  have k2:3≤b.fin→kn b.ops b.y=if(((b.ops).getD (b.y).toNat default)).kind=1 then((((b.ops).getD (b.y).toNat default)).k,true)else(0,false):=fun c=>by
    have:=h.y c
    unfold kn;simp only [this,true_and]
  have y0:=h.y0
  have mkE:∀p l o f x y k,Co.mk .blk (p,l,o,f,x,y,k,())=Blk.mk p l o f x y k:=fun _ _ _ _ _ _ _=>rfl
  dsimp only [P7,Alg.cl,Alg.cg,Alg.rb,Alg.bd,Alg.l1,Tup.q,Tup.o]
  simp (disch:=omega) only [RR,RB,hp1,hf1,hp2,hf2,mkE,Bool.and_eq_false_iff]
  by_cases c1:b.fin=1
  · have e:fcB b b.ops=b:=by unfold fcB;rw [if_neg (by omega),if_neg (by omega)]
    rw [e]
    refine⟨fun h=>absurd h.1 (by omega),fun _=>⟨fun h=>absurd h.1.1.1 (by omega),fun _=>⟨fun h=>absurd h.1.1.1 (by omega),fun _=>⟨fun h=>absurd h.1.1 (by omega),fun _=>rfl⟩⟩⟩⟩
  · rw [k1 c1]
    by_cases c2:b.fin=2
    · by_cases d:(((b.ops).getD (b.x).toNat default)).kind=1
      · have e:fcB b b.ops=⟨b.pc,b.len,b.ops,1,0,0,(((b.ops).getD (b.x).toNat default)).k⟩:=by unfold fcB;rw [if_pos ⟨c2,d⟩,y0 (by omega)]
        rw [if_pos d,e]
        refine⟨fun _=>rfl,fun h=> ?_⟩
        rcases h with h | h
        · exact absurd c2 h
        · cases h
      · have e:fcB b b.ops=b:=by unfold fcB;rw [if_neg (fun g=>d g.2),if_neg (by omega)]
        rw [if_neg d,e]
        refine⟨fun h=>absurd h.2 (by decide),fun _=>⟨fun h=>absurd h.1.1.1 (by omega),fun _=>⟨fun h=>absurd h.1.1.1 (by omega),fun _=>⟨fun h=>absurd h.1.1 (by omega),fun _=>rfl⟩⟩⟩⟩
    · rw [k2 (by omega)]
      refine⟨fun h=>absurd h.1 c2,fun _=> ?_⟩
      by_cases d:(((b.ops).getD (b.x).toNat default)).kind=1∧(((b.ops).getD (b.y).toNat default)).kind=1
      · have e:fcB b b.ops=⟨b.pc,b.len,b.ops,1,0,0,if b.fin=3∧(((b.ops).getD (b.x).toNat default)).k=(((b.ops).getD (b.y).toNat default)).k∨b.fin=4∧(((b.ops).getD (b.x).toNat default)).k< (((b.ops).getD (b.y).toNat default)).k then b.k else b.pc+b.len⟩:=by
          unfold fcB;rw [if_neg (by omega),if_pos ⟨by omega,d⟩]
        rw [if_pos d.1,if_pos d.2,e]
        dsimp only
        simp only [and_true,Bool.true_eq_false,or_false,Prod.mk.injEq,Blk.mk.injEq,true_and]
        refine⟨fun h=>⟨fun _=>by rw [if_pos (Or.inl h)],fun g=>by omega⟩,fun h=>⟨fun g=>by rw [if_pos (Or.inr g)],fun g=>⟨fun _=>by rw [if_neg (by omega)],fun q=>by omega⟩⟩⟩
      · have e:fcB b b.ops=b:=by unfold fcB;rw [if_neg (by omega),if_neg (fun g=>d g.2)]
        rw [e]
        have n:¬((if(((b.ops).getD (b.x).toNat default)).kind=1 then((((b.ops).getD (b.x).toNat default)).k,true)else((0:Int),false)).2=true∧(if(((b.ops).getD (b.y).toNat default)).kind=1 then((((b.ops).getD (b.y).toNat default)).k,true)else((0:Int),false)).2=true):=fun⟨g1,g2⟩=>by
          split at g1
          · split at g2
            · exact d ⟨by assumption,by assumption⟩
            · cases g2
          · cases g1
        exact⟨fun h=>absurd ⟨h.1.1.2,h.1.2⟩ n,fun _=>⟨fun h=>absurd ⟨h.1.1.2,h.1.2⟩ n,fun _=>⟨fun h=>absurd ⟨h.1.2,h.2⟩ n,fun _=>rfl⟩⟩⟩
theorem Zh {p1:Int×Int×Int×Unit→Bool} {f1:Int×Int×Int×Unit→Bool×Unit} (hp1:∀a b c,p1 (a,b,c,())=true) (hf1:∀a b c,f1 (a,b,c,())=(inB a b c,())) (o:IOp) (al:List Int) (hk:1≤o.kind∧o.kind≤8) (hx:hX o→0≤o.x∧o.x< (al.length:Int)) (hy:hY o→0≤o.y∧o.y< (al.length:Int)):PW (std 0) p1 f1 (o,al,()) (fun y=>y=(ren al o,())):=by
  dsimp only [PW,Alg.cl,Alg.cg,Alg.rb,Alg.bd,Alg.l1,Tup.q,Tup.o]
  simp (disch:=omega) only [RR,RB,hp1,hf1,fC,rO]
  have X:((3≤o.kind∧o.kind≤5)∨o.kind=7)∨o.kind=8→hX o:=fun c=>by unfold hX;omega
  have Xn:(¬(3≤o.kind∧o.kind≤5)∧¬o.kind=7)∧¬o.kind=8→¬hX o:=fun c g=>by unfold hX at g;omega
  unfold ren
  refine⟨fun c=>⟨(hx (X c)).1,(hx (X c)).2,fun d=>⟨(hy d).1,(hy d).2,?_⟩,fun d=> ?_⟩,fun c=>⟨fun d=>⟨(hy d).1,(hy d).2,?_⟩,fun d=> ?_⟩⟩
  · rw [if_pos (X c),if_pos (show hY o from d)]
  · rw [if_pos (X c),if_neg (show¬hY o from fun g=>g.elim d.1 d.2)]
  · rw [if_neg (Xn c),if_pos (show hY o from d)]
  · rw [if_neg (Xn c),if_neg (show¬hY o from fun g=>g.elim d.1 d.2)]
theorem Zi (ops:List IOp) (k:Int) (h0:0≤k) (h1:k<ops.length) (h2:(ops.length:Int)<1000000):Qb (std 0) (ops,k,()) (fun y=>y=(fD (ops.drop (k.toNat+1)) (((ops).getD (k).toNat default)).k,())):=by
  dsimp only [Qb,Alg.cl,Alg.cg,Alg.rb,Alg.bd,Alg.l1,Tup.q,Tup.o]
  simp (disch:=omega) only [RR,RB]
  refine ay (fun(y:List IOp×Int×Int×Unit)=>y.1=ops∧y.2.1=k∧0≤y.2.2.1∧y.2.2.1≤ops.length∧fD (ops.drop (k.toNat+1)) (((ops).getD (k).toNat default)).k=fD (ops.drop y.2.2.1.toNat) (((ops).getD (k).toNat default)).k) (fun y=>((ops.length:Int)-y.2.2.1).toNat) ⟨rfl,rfl,by dsimp only;omega,by dsimp only;omega,by dsimp only;rw [show(k+1).toNat=k.toNat+1 by omega]⟩ ?_
  rintro⟨(l:List IOp),(k':Int),(j:Int),⟨⟩⟩ hI
  dsimp only at hI ⊢
  obtain⟨rfl,rfl,h3,h4,h5⟩:=hI
  rw [h5]
  simp (disch:=omega) only [RR,RB,Bool.and_eq_false_iff]
  have st:j<l.length→fD (l.drop j.toNat) (((l).getD (k').toNat default)).k=if(((l).getD (j).toNat default)).kind=4∨(((l).getD (j).toNat default)).kind=5∨(((l).getD (j).toNat default)).kind=2∧(((l).getD (j).toNat default)).k=(((l).getD (k').toNat default)).k then false else if(((l).getD (j).toNat default)).kind=8∧(((l).getD (j).toNat default)).k=(((l).getD (k').toNat default)).k then true else fD (l.drop (j+1).toNat) (((l).getD (k').toNat default)).k:=fun h=>by
    rw [List.drop_eq_getElem_cons (show j.toNat<l.length by omega),nG,←getD_lt (d:=default) (show j.toNat<l.length by omega),show(j+1).toNat=j.toNat+1 by omega]
  refine⟨fun h=>⟨h3,h,by omega,by omega,by omega,by omega,by omega,by omega,by omega,by omega,fun c=> ?_,fun c=>⟨h3,h,by omega,by omega,by omega,by omega,fun d=> ?_,fun d=>⟨⟨by omega,by omega,?_⟩,by omega⟩⟩⟩,fun h=> ?_⟩
  · rw [st h,if_pos (by omega)]
  · rw [st h,if_neg (by omega),if_pos (by omega)]
  · rw [st h,if_neg (by omega),if_neg (by omega)]
  · rw [List.drop_of_length_le (by omega)];rfl
theorem ahl {p1:Blk×Unit→Bool} {f1:Blk×Unit→Blk×Unit} (hp1:∀b,b.ops.length<1000000→p1 (b,())=true) (hf1:∀b,b.ops.length<1000000→f1 (b,())=(dN b,())) {p2:Blk×Unit→Bool} {f2:Blk×Unit→Int×Int×Int×Int×Int×Int×List IOp×Unit} (hp2:∀b,b.ops.length<1000000→p2 (b,())=true) (hf2:∀b,b.ops.length<1000000→f2 (b,())=bk7 (dI b)) {p3:Blk×Unit→Bool} {f3:Blk×Unit→Int×Int×Int×Int×Int×Int×List IOp×Unit} (hp3:∀b,b.ops.length<1000000→p3 (b,())=true) (hf3:∀b,b.ops.length<1000000→f3 (b,())=bk7 (kE b)) {p4:Blk×Unit→Bool} {f4:Blk×Unit→Int×Int×Int×Int×Int×Int×List IOp×Unit} (hp4:∀b,b.ops.length<1000000→p4 (b,())=true) (hf4:∀b,b.ops.length<1000000→f4 (b,())=bk7 (cB b)) (b:Blk) (hb:b.ops.length<1000000):Qi (std 0) p1 f1 p2 f2 p3 f3 p4 f4 (b,()) (fun y=>y=bk7 (Rz b)):=by
  have m1:(dI b).ops.length<1000000:=Nat.lt_of_le_of_lt (xY b) hb
  have m2:=Nat.lt_of_le_of_lt (Bo (dI b)) m1
  have m3:=Nat.lt_of_le_of_lt (xX (dN (dI b))) m2
  have m4:=Nat.lt_of_le_of_lt (xW (kE (dN (dI b)))) m3
  have mkE:∀c:Blk,Co.mk .blk (c.pc,c.len,c.ops,c.fin,c.x,c.y,c.k,())=c:=fun _=>rfl
  dsimp only [Qi,Alg.cl,Alg.cg,Alg.rb,Alg.bd,Alg.l1,Tup.q,Tup.o]
  simp (disch:=omega) only [RR,hp2 b hb,hf2 b hb,mkE,hp1 _ m1,hf1 _ m1,hp3 _ m2,hf3 _ m2,hp4 _ m3,hf4 _ m3,hp3 _ m4,hf3 _ m4]
  rfl
theorem RF {α:Type} {d:α} {f l:List α} {k:Nat} (hf:f.length=k) (h:k<l.length):(f++l.drop k).getD k d=l.getD k d:=by
  rw [getD_lt (by rw [List.length_append,List.length_drop];omega),getD_lt h,List.getElem_append_right (by omega),List.getElem_drop]
  simp only [hf,Nat.sub_self,Nat.add_zero]
theorem ahm {α:Type} {d:α} {f l:List α} {k j:Nat} (hf:f.length=k) (h:j<k):(f++l.drop k).getD j d=f.getD j d:=by
  rw [getD_lt (by rw [List.length_append];omega),getD_lt (by omega),List.getElem_append_left]
theorem BQ {α:Type} {x:α} {f l:List α} {k:Nat} (hf:f.length=k) (h:k<l.length):(f++l.drop k).set k x=(f++ [x])++l.drop (k+1):=by
  rw [List.set_append_right _ _ (by omega),hf,Nat.sub_self,List.drop_eq_getElem_cons h,List.set_cons_zero,List.append_assoc];rfl
theorem Oa {α:Type} {d:α} {f l:List α} {k:Nat} (h:k<l.length):f++l.drop k=(f++ [l.getD k d])++l.drop (k+1):=by
  rw [List.drop_eq_getElem_cons h,getD_lt h,List.append_assoc];rfl
theorem BR {α:Type} {f l:List α} {k:Nat} (hf:f.length=k) (h:k≤l.length):(f++l.drop k).length=l.length:=by
  rw [List.length_append,hf,List.length_drop];omega
theorem bV.fe {b:Blk} (ok:bV b) {f:List IOp} (h:f.length=b.ops.length):FE ⟨b.pc,b.len,f,b.fin,b.x,b.y,b.k⟩:=by
  have en:=ok.en
  have hp:=ok.pc
  have hl:=ok.ln
  exact⟨en.f,fun c=>⟨(en.x1 c).1,by dsimp only;rw [h];exact(en.x1 c).2.1⟩,fun c=>⟨(en.y1 c).1,by dsimp only;rw [h];exact(en.y1 c).2.1⟩,en.y0,by dsimp only;omega⟩
theorem ahn {p1:Blk×Unit→Bool} {f1:Blk×Unit→Bool×Unit} (hp1:∀b,b.ops.length<1000000000→p1 (b,())=true) (hf1:∀b,b.ops.length<1000000000→f1 (b,())=(bp (bV b),())) {p2:Int×Int×Int×Unit→Bool} {f2:Int×Int×Int×Unit→Int×Unit} (hp2:∀op a b,p2 (op,a,b,())=true) (hf2:∀op a b,f2 (op,a,b,())=(wdo op a b,())) {p3:Blk×Unit→Bool} {f3:Blk×Unit→Blk×Unit} (hp3:∀b,FE b→p3 (b,())=true) (hf3:∀b,FE b→f3 (b,())=(fcB b b.ops,())) {p4:List IOp×Int×Unit→Bool} {f4:List IOp×Int×Unit→Int×Bool×Unit} (hp4:∀ops k,p4 (ops,k,())=true) (hf4:∀ops k,f4 (ops,k,())=((kn ops k).1,(kn ops k).2,())) {p5:Blk×Unit→Bool} {f5:Blk×Unit→Int×Int×Int×Int×Int×Int×List IOp×Unit} (hp5:∀b,b.ops.length<1000000→p5 (b,())=true) (hf5:∀b,b.ops.length<1000000→f5 (b,())=(b.pc,b.len,b.fin,b.x,b.y,b.k,b.ops,())) (b:Blk) (hb:b.ops.length<1000000):Qa (std 0) p1 f1 p2 f2 p3 f3 p4 f4 p5 f5 (b,()) (fun y=>y=(dN b,())):=by
  have mkE:∀p l o f x y k,Co.mk .blk (p,l,o,f,x,y,k,())=Blk.mk p l o f x y k:=fun _ _ _ _ _ _ _=>rfl
  dsimp only [Qa,Alg.cl,Alg.cg,Alg.rb,Alg.bd,Alg.l1,Tup.q,Tup.o]
  simp (disch:=omega) only [RR,RB,hp1 b (by omega),hf1 b (by omega),hp5 b hb,hf5 b hb,mkE]
  refine⟨fun h=>by unfold dN;rw [h,if_neg (by decide)];rfl,fun h=> ?_⟩
  have ok:=bS.1 h
  rw [J6 ok]
  refine ay (fun(y:Int×Int×Int×Int×Int×Int×Int×Int×Int×Int×Int×Int×Int×List IOp×Unit)=>0≤y.1∧y.1≤b.ops.length∧y.2.2.2.2.2.2.2=(b.pc,b.len,b.fin,b.x,b.y,b.k,fc b.ops y.1.toNat++b.ops.drop y.1.toNat,())) (fun y=>((b.ops.length:Int)-y.1).toNat) ⟨by dsimp only;omega,by dsimp only;omega,rfl⟩ ?_
  rintro⟨(k:Int),u1,u2,u3,u4,u5,u6,b1,b2,b3,b4,b5,b6,(ops:List IOp),⟨⟩⟩ hI
  dsimp only at hI ⊢
  simp only [Prod.mk.injEq,and_true]at hI
  obtain⟨h1,h2,rfl,rfl,rfl,rfl,rfl,rfl,rfl⟩:=hI
  have fl:=pG b.ops k.toNat
  have ln:=BR (l:=b.ops) fl (by omega)
  simp (disch:=omega) only [RR,RB,hp4,hf4,hp2,hf2,ln,mkE]
  refine⟨fun h=> ?_,fun h=> ?_⟩
  · have o:=ok.op k h1 h
    have ek:=RF (d:=default) (l:=b.ops) fl (by omega)
    have kv:∀x:Int,Vl b.ops x k→kn (fc b.ops k.toNat++b.ops.drop k.toNat) x=if((((fc b.ops k.toNat)).getD (x).toNat default)).kind=1 then(((((fc b.ops k.toNat)).getD (x).toNat default)).k,true)else(0,false):=fun x v=>by
      have v0:=v.1
      have v1:=v.2.1
      unfold kn
      rw [ahm fl (by omega)]
      simp only [show 0≤x∧x< ((fc b.ops k.toNat++b.ops.drop k.toNat).length:Int)from⟨v0,by omega⟩,true_and]
    have nx:fc b.ops (k+1).toNat=fc b.ops k.toNat++ [fcO (fc b.ops k.toNat) ((b.ops).getD (k).toNat default)]:=by rw [show(k+1).toNat=k.toNat+1 by omega];rfl
    rw [ek]
    have hk:=Oa (d:=default) (f:=fc b.ops k.toNat) (l:=b.ops) (k:=k.toNat) (by omega)
    have hs:=fun x=>BQ (x:=x) (l:=b.ops) fl (by omega)
    rw [nx,show(k+1).toNat=k.toNat+1 by omega]
    generalize ((b.ops).getD (k).toNat default)=q at o hk ⊢
    have vx:=fun c=>o.x1 c
    have vy:=fun c=>o.y1 c
    refine⟨h1,h,h1,h,fun c=>⟨h1,h,h1,h,⟨by omega,by omega,?_⟩,by omega⟩,fun c=>⟨⟨by omega,by omega,?_⟩,by omega⟩⟩
    · have k1:=kv _ (o.x1 (by unfold hX;omega))
      have k2:=kv _ (o.y1 (Or.inl c.1.1))
      rw [k1,k2]at c ⊢
      by_cases d1:((((fc b.ops k.toNat)).getD (q.x).toNat default)).kind=1
      · by_cases d2:((((fc b.ops k.toNat)).getD (q.y).toNat default)).kind=1
        · rw [if_pos d1,if_pos d2,hs]
          have e:fcO (fc b.ops k.toNat) q=⟨1,0,0,wdo q.k ((((fc b.ops k.toNat)).getD (q.x).toNat default)).k ((((fc b.ops k.toNat)).getD (q.y).toNat default)).k,0⟩:=by unfold fcO;rw [if_pos ⟨c.1.1,d1,d2⟩]
          rw [e]
        · rw [if_neg d2]at c;exact absurd c.2 (by decide)
      · rw [if_neg d1]at c;exact absurd c.1.2 (by decide)
    · have e:fcO (fc b.ops k.toNat) q=q:=by
        unfold fcO
        refine if_neg ?_
        rintro⟨d0,d1,d2⟩
        rw [kv _ (o.x1 (by unfold hX;omega)),kv _ (o.y1 (Or.inl d0)),if_pos d1,if_pos d2,decide_eq_true d0]at c
        cases c
      rw [e,hk]
  · have e:fc b.ops k.toNat++b.ops.drop k.toNat=fc b.ops b.ops.length:=by rw [List.drop_of_length_le (by omega),List.append_nil,show k.toNat=b.ops.length by omega]
    rw [e]
    have fe:=ok.fe (pG b.ops b.ops.length)
    rw [hf3 _ fe]
    exact⟨hp3 _ fe,rfl⟩
theorem Zj {a b:List Bool} (h:a.length=b.length) (g:∀t:Nat,t<a.length→(a.getD t default=true↔b.getD t default=true)):a=b:=by
  refine List.ext_getElem h fun i h1 h2=> ?_
  have:=g i h1
  rw [getD_lt h1,getD_lt h2]at this
  exact Bool.eq_iff_iff.2 this
theorem aho {p1:Blk×Unit→Bool} {f1:Blk×Unit→Bool×Unit} (hp1:∀b,b.ops.length<1000000000→p1 (b,())=true) (hf1:∀b,b.ops.length<1000000000→f1 (b,())=(bp (bV b),())) {p2:Int×Int×Int×Unit→Bool} {f2:Int×Int×Int×Unit→Bool×Unit} (hp2:∀a b c,p2 (a,b,c,())=true) (hf2:∀a b c,f2 (a,b,c,())=(inB a b c,())) (b:Blk) (hb:b.ops.length<1000000):Qg (std 0) p1 f1 p2 f2 (b,()) (fun y=>y=(BP b,())):=by
  dsimp only [Qg,Alg.cl,Alg.cg,Alg.rb,Alg.bd,Alg.l1,Tup.q,Tup.o]
  simp (disch:=omega) only [RR,RB,hp1 b (by omega),hf1 b (by omega)]
  unfold BP
  refine⟨fun h=>by rw [h,if_neg (by decide)],fun h=> ?_⟩
  rw [if_pos h]
  have ok:=bS.1 h
  have n48:=ok.sz
  have en:=ok.en
  refine ay (fun(y:Int×Blk×List Bool×Unit)=>0≤y.1∧y.1≤b.ops.length∧y.2.1=b∧(y.2.2.1.length:Int)=y.1∧∀t:Nat,t<y.2.2.1.length→(y.2.2.1.getD t default=true↔4≤(b.ops.getD t default).kind)) (fun y=>((b.ops.length:Int)-y.1).toNat) ⟨by dsimp only;omega,by dsimp only;omega,rfl,rfl,fun t h=>absurd h (by simp)⟩ ?_
  rintro⟨(k:Int),(b':Blk),(kp:List Bool),⟨⟩⟩ hI
  dsimp only at hI ⊢
  obtain⟨h1,h2,rfl,h3,h4⟩:=hI
  simp (disch:=omega) only [RR,RB,List.length_append,List.length_cons,List.length_nil]
  refine⟨fun h=>⟨h1,h,by omega,⟨by omega,by omega,by omega,fun t ht=> ?_⟩,by omega⟩,fun h=> ?_⟩
  · rw [eH]
    rcases(by omega:t<kp.length∨t=kp.length)with c | c
    · rw [if_pos c];exact h4 t c
    · rw [if_neg (by omega),if_pos c,decide_eq_true_eq,c,show k.toNat=kp.length by omega]
  have ex:¬b'.fin=1→0≤b'.x∧b'.x<kp.length:=fun c=>by have:=ok.en.x1 c;exact⟨this.1,by have:=this.2.1;omega⟩
  have ey:b'.fin=3∨b'.fin=4→0≤b'.y∧b'.y<kp.length:=fun c=>by have:=ok.en.y1 (by omega);exact⟨this.1,by have:=this.2.1;omega⟩
  have ff:=en.f
  have u0:=Uh ok
  have kl:kp.length=b'.ops.length:=by omega
  rw [kl]at h4
  refine⟨fun c=>⟨(ex c).1,(ex c).2,(ex c).1,(ex c).2,fun c2=>⟨(ey c2).1,by rw [List.length_set];exact(ey c2).2,(ey c2).1,by rw [List.length_set];exact(ey c2).2,?_⟩,fun c2=> ?_⟩,fun c=>⟨fun c2=>absurd c2 (by omega),fun c2=> ?_⟩⟩
  all_goals
    refine ay (fun(y:Int×Blk×List Bool×Unit)=> -1≤y.1∧y.1<b'.ops.length∧y.2.1=b'∧y.2.2.1.length=b'.ops.length∧∀t:Nat,t<b'.ops.length→(y.2.2.1.getD t default=true↔(us b' (b'.ops.length-1-y.1).toNat).getD t default=true∨4≤(b'.ops.getD t default).kind)) (fun y=>(y.1+1).toNat) ⟨by dsimp only;omega,by dsimp only;omega,rfl,by simp only [List.length_set];omega,fun t ht=> ?_⟩ ?_
    · dsimp only
      rw [show(b'.ops.length-1- ((b'.ops.length:Int)-1)).toNat=0 by omega]
      show _↔(us0 b').getD t default=true∨_
      have q:=h4 t ht
      have r:=u0 t
      first
        | (rw [Ry (by rw [List.length_set];have:=ey c2;omega),Ry (by have:=ex c;omega),q,r];grind)
        | (rw [Ry (by have:=ex c;omega),q,r];grind)
        | (rw [q,r];grind)
    rintro⟨(j:Int),(b2:Blk),(ms:List Bool),⟨⟩⟩ hI
    dsimp only at hI ⊢
    obtain⟨j0,j1,rfl,j3,j4⟩:=hI
    simp (disch:=omega) only [RR,RB,hp2,hf2,fC,rO,List.length_set]
    have ul:=Ak b2 (b2.ops.length-1-j).toNat
    have us1:0≤j→∀t:Nat,((us b2 (b2.ops.length-1- (j-1)).toNat).getD t default=true↔(us b2 (b2.ops.length-1-j).toNat).getD t default=true∨((us b2 (b2.ops.length-1-j).toNat).getD j.toNat default=true∨4≤(((b2.ops).getD (j).toNat default)).kind)∧(t=j.toNat∨hX (((b2.ops).getD (j).toNat default))∧t=(((b2.ops).getD (j).toNat default)).x.toNat∨hY (((b2.ops).getD (j).toNat default))∧t=(((b2.ops).getD (j).toNat default)).y.toNat)):=fun g t=>by
      have o:=ok.op j g j1
      rw [show(b2.ops.length-1- (j-1)).toNat=(b2.ops.length-1-j).toNat+1 by omega]
      show(usO (b2.ops.getD (b2.ops.length-1- (b2.ops.length-1-j).toNat) default) (b2.ops.length-1- (b2.ops.length-1-j).toNat) _).getD t default=true↔_
      rw [show b2.ops.length-1- (b2.ops.length-1-j).toNat=j.toNat by omega]
      exact Ug (by omega) (fun c=>by have:=o.x1 c;have g0:=this.1;have g1:=this.2.1;omega) (fun c=>by have:=o.y1 c;have g0:=this.1;have g1:=this.2.1;omega)
    have ue:¬0≤j→(us b2 (b2.ops.length-1-j).toNat)=us b2 b2.ops.length:=fun g=>by rw [show(b2.ops.length-1-j).toNat=b2.ops.length by omega]
    generalize us b2 (b2.ops.length-1-j).toNat=U at us1 j4 ue
    refine⟨fun g=> ?_,fun g=>congrArg (fun m:List Bool=>(m,())) (Zj (b:=us b2 b2.ops.length) (by rw [Ak];exact j3) fun t ht=> ?_)⟩
    · have o:=ok.op j g j1
      have X:hX (((b2.ops).getD (j).toNat default))→0≤(((b2.ops).getD (j).toNat default)).x∧(((b2.ops).getD (j).toNat default)).x<ms.length:=fun c=>by have:=o.x1 c;have g0:=this.1;have g1:=this.2.1;omega
      have Y:hY (((b2.ops).getD (j).toNat default))→0≤(((b2.ops).getD (j).toNat default)).y∧(((b2.ops).getD (j).toNat default)).y<ms.length:=fun c=>by have:=o.y1 c;have g0:=this.1;have g1:=this.2.1;omega
      have us1:=us1 g
      have qj:=j4 j.toNat (by omega)
      have kd:=o.kd
      generalize ((b2.ops).getD (j).toNat default)=q at*
      have cx:((3≤q.kind∧q.kind≤5)∨q.kind=7)∨q.kind=8↔hX q:=by unfold hX;omega
      have cn:(¬(3≤q.kind∧q.kind≤5)∧¬q.kind=7)∧¬q.kind=8↔¬hX q:=by unfold hX;omega
      have cy:q.kind=3∨q.kind=5↔hY q:=Iff.rfl
      have dn:¬q.kind=3∧¬q.kind=5↔¬hY q:=by unfold hY;omega
      rw [cx,cn,cy,dn]
      generalize hX q=HX at*
      generalize hY q=HY at*
      refine⟨g,j1,g,by omega,g,by omega,fun c=>⟨⟨by omega,by omega,j3,fun t ht=> ?_⟩,by omega⟩,fun c=>⟨fun d=>⟨(X d).1,(X d).2,(X d).1,(X d).2,fun e=>⟨(Y e).1,(Y e).2,(Y e).1,(Y e).2,⟨by omega,by omega,j3,fun t ht=> ?_⟩,by omega⟩,fun e=>⟨⟨by omega,by omega,j3,fun t ht=> ?_⟩,by omega⟩⟩,fun d=>⟨fun e=>⟨(Y e).1,(Y e).2,(Y e).1,(Y e).2,⟨by omega,by omega,j3,fun t ht=> ?_⟩,by omega⟩,fun e=>⟨⟨by omega,by omega,j3,fun t ht=> ?_⟩,by omega⟩⟩⟩⟩
      · rw [us1,j4 t ht];rw [c]at qj;grind
      · rw [Ry (by rw [List.length_set];have:=Y e;omega),Ry (by have:=X d;omega),us1,j4 t ht];grind
      · rw [Ry (by have:=X d;omega),us1,j4 t ht];grind
      · rw [Ry (by have:=Y e;omega),us1,j4 t ht];grind
      · rw [us1,j4 t ht];grind
    · rw [j4 t (by omega),ue g]
      exact⟨fun h=>h.elim id ((anh ok).k t (Nat.zero_le _) (by omega)),Or.inl⟩
end Go.TX.F
namespace Go.TX.F
open Go Go.AE Go.TX
theorem abz {ops:List IOp} {kp:List Bool} {len:Int} {k n:Nat} {o:IOp} (ho:Ah ops len k o) (h:k<n):ren (kpS ops kp (k+1)).1 o=ren (kpS ops kp n).1 o:=by
  have p:=(J2 ops kp (show k+1≤n by omega)).2
  have l:=(kD ops kp (k+1)).1
  have e:∀x:Int,Vl ops x k→(((kpS ops kp (k+1)).1).getD (x).toNat default)=(((kpS ops kp n).1).getD (x).toNat default):=fun x v=>by
    have g0:=v.1
    have g1:=v.2.1
    exact(JO p (by omega)).symm
  have ox:=ho.x1
  have oy:=ho.y1
  unfold ren
  congr 1
  · split
    · rename_i c;exact e _ (ox c)
    · rfl
  · split
    · rename_i c;exact e _ (oy c)
    · rfl
theorem ahp {p1:IOp×List Int×Unit→Bool} {f1:IOp×List Int×Unit→IOp×Unit} (hp1:∀o al,(1≤o.kind∧o.kind≤8)→(hX o→0≤o.x∧o.x< (al.length:Int))→(hY o→0≤o.y∧o.y< (al.length:Int))→p1 (o,al,())=true) (hf1:∀o al,(1≤o.kind∧o.kind≤8)→(hX o→0≤o.x∧o.x< (al.length:Int))→(hY o→0≤o.y∧o.y< (al.length:Int))→f1 (o,al,())=(ren al o,())) (b:Blk) (kp:List Bool) (ok:bV b) (hk:kp.length=b.ops.length):Qc (std 0) p1 f1 (b,kp,()) (fun y=>y=bk7 (eO b kp)):=by
  have n48:=ok.sz
  dsimp only [Qc,Alg.cl,Alg.cg,Alg.rb,Alg.bd,Alg.l1,Tup.q,Tup.o]
  simp (disch:=omega) only [RR,RB]
  refine ay (fun(y:List Bool×Int×Blk×Int×Int×Int×Int×Int×Int×List IOp×List Int×Unit)=>y.1=kp∧0≤y.2.1∧y.2.1≤b.ops.length∧y.2.2.1=b∧y.2.2.2.2.2.2.2.2.2.1=(kpS b.ops kp y.2.1.toNat).2.map (ren (kpS b.ops kp b.ops.length).1)∧y.2.2.2.2.2.2.2.2.2.2.1=(kpS b.ops kp y.2.1.toNat).1) (fun y=>((b.ops.length:Int)-y.2.1).toNat) ⟨rfl,by dsimp only;omega,by dsimp only;omega,rfl,rfl,rfl⟩ ?_
  rintro⟨(kp':List Bool),(k:Int),(b':Blk),u1,u2,u3,u4,u5,u6,(out:List IOp),(to:List Int),⟨⟩⟩ hI
  dsimp only at hI ⊢
  obtain⟨rfl,h1,h2,rfl,rfl,rfl⟩:=hI
  obtain⟨l1,l2⟩:=kD b'.ops kp' k.toNat
  have l3:=(kD b'.ops kp' (k+1).toNat).1
  have nx:(kpS b'.ops kp' (k+1).toNat).1=(kpS b'.ops kp' k.toNat).1++ [((kpS b'.ops kp' k.toNat).2.length:Int)]:=by rw [show(k+1).toNat=k.toNat+1 by omega];rfl
  have r:k<b'.ops.length→ren (kpS b'.ops kp' (k+1).toNat).1 ((b'.ops).getD (k).toNat default)=ren (kpS b'.ops kp' b'.ops.length).1 ((b'.ops).getD (k).toNat default):=fun h=>by
    rw [show(k+1).toNat=k.toNat+1 by omega]
    exact abz (by rw [show((k.toNat:Nat):Int)=k by omega];exact ok.op k h1 h) (by omega)
  have s:(kpS b'.ops kp' (k+1).toNat).2=if kp'.getD k.toNat default=true then(kpS b'.ops kp' k.toNat).2++ [((b'.ops).getD (k).toNat default)]else(kpS b'.ops kp' k.toNat).2:=by rw [show(k+1).toNat=k.toNat+1 by omega];rfl
  have fin:¬k<b'.ops.length→kpS b'.ops kp' k.toNat=kpS b'.ops kp' b'.ops.length:=fun h=>by rw [show k.toNat=b'.ops.length by omega]
  have kb:eO b' kp'=JZ (kpS b'.ops kp' b'.ops.length).1 b' (kpS b'.ops kp' b'.ops.length).2:=rfl
  rw [kb]
  generalize kpS b'.ops kp' b'.ops.length=N at r fin ⊢
  generalize hT:kpS b'.ops kp' (k+1).toNat=T at l3 nx r s ⊢
  generalize kpS b'.ops kp' k.toNat=S at l1 l2 nx s fin ⊢
  have en:=ok.en
  have ex:¬k<b'.ops.length→¬b'.fin=1→0≤b'.x∧b'.x< (S.1.length:Int):=fun h c=>by have:=en.x1 c;exact⟨this.1,by have:=this.2.1;omega⟩
  have ey:¬k<b'.ops.length→b'.fin=3∨b'.fin=4→0≤b'.y∧b'.y< (S.1.length:Int):=fun h c=>by have:=en.y1 (by omega);exact⟨this.1,by have:=this.2.1;omega⟩
  simp (disch:=omega) only [RR,RB,List.length_append,List.length_cons,List.length_nil,List.length_map,Gj,←nx]
  refine⟨fun h=> ?_,fun h=> ?_⟩
  · have op:=ok.op k h1 h
    have a2:hX (((b'.ops).getD (k).toNat default))→0≤(((b'.ops).getD (k).toNat default)).x∧(((b'.ops).getD (k).toNat default)).x< (T.1.length:Int):=fun c=>⟨(op.x1 c).1,by have:=(op.x1 c).2.1;omega⟩
    have a3:hY (((b'.ops).getD (k).toNat default))→0≤(((b'.ops).getD (k).toNat default)).y∧(((b'.ops).getD (k).toNat default)).y< (T.1.length:Int):=fun c=>⟨(op.y1 c).1,by have:=(op.y1 c).2.1;omega⟩
    have P:=hp1 _ T.1 op.kd a2 a3
    rw [hf1 _ T.1 op.kd a2 a3,hT,s,r h]
    refine⟨by omega,h1,by omega,fun c=>⟨h1,h,P,by omega,⟨by omega,by omega,?_⟩,by omega⟩,fun c=>⟨⟨by omega,by omega,?_⟩,by omega⟩⟩
    · rw [if_pos c,List.map_append];exact⟨rfl,rfl⟩
    · rw [c,if_neg (by decide)];exact⟨rfl,rfl⟩
  · have ex:=ex h
    have ey:=ey h
    rw [fin h]at ex ey ⊢
    unfold bk7 JZ
    refine⟨fun c=>⟨(ex c).1,(ex c).2,(ex c).1,(ex c).2,fun c2=>⟨(ey c2).1,(ey c2).2,(ey c2).1,(ey c2).2,?_⟩,fun c2=> ?_⟩,fun c=>⟨fun c2=>⟨(ey c2).1,(ey c2).2,(ey c2).1,(ey c2).2,?_⟩,fun c2=> ?_⟩⟩
    · rw [if_neg c,if_pos (by omega)]
    · rw [if_neg c,if_neg (by have:=en.f;omega)]
    · exact absurd c2 (by omega)
    · rw [if_pos c,if_neg (by omega)]
theorem ahq {p1:Blk×Unit→Bool} {f1:Blk×Unit→Bool×Unit} (hp1:∀b,b.ops.length<1000000000→p1 (b,())=true) (hf1:∀b,b.ops.length<1000000000→f1 (b,())=(bp (bV b),())) {p2:Blk×Unit→Bool} {f2:Blk×Unit→List Bool×Unit} (hp2:∀b,b.ops.length<1000000→p2 (b,())=true) (hf2:∀b,b.ops.length<1000000→f2 (b,())=(BP b,())) {p3:Blk×List Bool×Unit→Bool} {f3:Blk×List Bool×Unit→Int×Int×Int×Int×Int×Int×List IOp×Unit} (hp3:∀b kp,bV b→kp.length=b.ops.length→p3 (b,kp,())=true) (hf3:∀b kp,bV b→kp.length=b.ops.length→f3 (b,kp,())=bk7 (eO b kp)) (b:Blk) (hb:b.ops.length<1000000):Qh (std 0) p1 f1 p2 f2 p3 f3 (b,()) (fun y=>y=bk7 (kE b)):=by
  dsimp only [Qh,Alg.cl,Alg.cg,Alg.rb,Alg.bd,Alg.l1,Tup.q,Tup.o]
  simp (disch:=omega) only [RR,RB,hp1 b (by omega),hf1 b (by omega),hp2 b hb,hf2 b hb]
  unfold kE BP
  refine⟨fun h=>by rw [h,if_neg (by decide)];rfl,fun h=> ?_⟩
  have ok:=bS.1 h
  rw [if_pos h,if_pos h,hf3 _ _ ok (Ak b _)]
  exact⟨hp3 _ _ ok (Ak b _),rfl⟩
theorem ahr {p1:Blk×Unit→Bool} {f1:Blk×Unit→Bool×Unit} (hp1:∀b,b.ops.length<1000000000→p1 (b,())=true) (hf1:∀b,b.ops.length<1000000000→f1 (b,())=(bp (bV b),())) {p2:Blk×List Bool×Unit→Bool} {f2:Blk×List Bool×Unit→Int×Int×Int×Int×Int×Int×List IOp×Unit} (hp2:∀b kp,bV b→kp.length=b.ops.length→p2 (b,kp,())=true) (hf2:∀b kp,bV b→kp.length=b.ops.length→f2 (b,kp,())=bk7 (eO b kp)) {p3:List IOp×Int×Unit→Bool} {f3:List IOp×Int×Unit→Bool×Unit} (hp3:∀ops k,0≤k→k<ops.length→(ops.length:Int)<1000000→p3 (ops,k,())=true) (hf3:∀ops k,0≤k→k<ops.length→(ops.length:Int)<1000000→f3 (ops,k,())=(fD (ops.drop (k.toNat+1)) (((ops).getD (k).toNat default)).k,())) (b:Blk) (hb:b.ops.length<1000000):Qd (std 0) p1 f1 p2 f2 p3 f3 (b,()) (fun y=>y=bk7 (cB b)):=by
  dsimp only [Qd,Alg.cl,Alg.cg,Alg.rb,Alg.bd,Alg.l1,Tup.q,Tup.o]
  simp (disch:=omega) only [RR,RB,hp1 b (by omega),hf1 b (by omega)]
  unfold cB
  refine⟨fun h=>by rw [h,if_neg (by decide)];rfl,fun h=> ?_⟩
  have ok:=bS.1 h
  rw [if_pos h]
  have kl:(bK b.ops).length=b.ops.length:=by unfold bK;rw [List.length_map,List.length_range]
  refine ay (fun(y:Int×Blk×Int×Int×Int×Int×Int×Int×List Bool×Unit)=>0≤y.1∧y.1≤b.ops.length∧y.2.1=b∧y.2.2.2.2.2.2.2.2.1=(bK b.ops).take y.1.toNat) (fun y=>((b.ops.length:Int)-y.1).toNat) ⟨by dsimp only;omega,by dsimp only;omega,rfl,rfl⟩ ?_
  rintro⟨(k:Int),(b':Blk),u1,u2,u3,u4,u5,u6,(kp:List Bool),⟨⟩⟩ hI
  dsimp only at hI ⊢
  obtain⟨h1,h2,rfl,rfl⟩:=hI
  have tl:((bK b'.ops).take k.toNat).length=k.toNat:=by rw [List.length_take];omega
  simp (disch:=omega) only [RR,RB,List.length_append,List.length_cons,List.length_nil,tl]
  refine⟨fun h=>⟨h1,h,Or.inr (hp3 _ _ h1 h (by omega)),by omega,⟨by omega,by omega,?_⟩,by omega⟩,fun h=> ?_⟩
  · rw [hf3 _ _ h1 h (by omega),show(k+1).toNat=k.toNat+1 by omega,List.take_succ_eq_append_getElem (by omega),←getD_lt (d:=default) (show k.toNat< (bK b'.ops).length by omega),kg (by omega)]
    refine congrArg (fun x=>(bK b'.ops).take k.toNat++ [x]) ?_
    rw [Bool.not_and]
  · rw [List.take_of_length_le (by omega),hf2 _ _ ok kl]
    exact⟨hp2 _ _ ok kl,rfl⟩
theorem ahs {ops:List IOp} {len:Int} {k n:Nat} {o:IOp} (ho:Ah ops len k o) (h:k≤n):ren (cpS ops k).1 o=ren (cpS ops n).1 o:=by
  have l:=(zf ops k).1
  have e:∀x:Int,Vl ops x k→(((cpS ops k).1).getD (x).toNat default)=(((cpS ops n).1).getD (x).toNat default):=fun x v=>by
    have g0:=v.1
    have g1:=v.2.1
    exact(Rq ops (by omega) h).symm
  have ox:=ho.x1
  have oy:=ho.y1
  unfold ren
  congr 1
  · split
    · rename_i c;exact e _ (ox c)
    · rfl
  · split
    · rename_i c;exact e _ (oy c)
    · rfl
theorem aht {p1:Blk×Unit→Bool} {f1:Blk×Unit→Bool×Unit} (hp1:∀b,b.ops.length<1000000000→p1 (b,())=true) (hf1:∀b,b.ops.length<1000000000→f1 (b,())=(bp (bV b),())) {p2:IOp×List Int×Unit→Bool} {f2:IOp×List Int×Unit→IOp×Unit} (hp2:∀o al,(1≤o.kind∧o.kind≤8)→(hX o→0≤o.x∧o.x< (al.length:Int))→(hY o→0≤o.y∧o.y< (al.length:Int))→p2 (o,al,())=true) (hf2:∀o al,(1≤o.kind∧o.kind≤8)→(hX o→0≤o.x∧o.x< (al.length:Int))→(hY o→0≤o.y∧o.y< (al.length:Int))→f2 (o,al,())=(ren al o,())) {p3:Blk×Unit→Bool} {f3:Blk×Unit→Int×Int×Int×Int×Int×Int×List IOp×Unit} (hp3:∀b,b.ops.length<1000000→p3 (b,())=true) (hf3:∀b,b.ops.length<1000000→f3 (b,())=(b.pc,b.len,b.fin,b.x,b.y,b.k,b.ops,())) (b:Blk) (hb:b.ops.length<1000000):PX (std 0) p1 f1 p2 f2 p3 f3 (b,()) (fun y=>y=bk7 (dI b)):=by
  dsimp only [PX,Alg.cl,Alg.cg,Alg.rb,Alg.bd,Alg.l1,Tup.q,Tup.o]
  simp (disch:=omega) only [RR,RB,hp1 b (by omega),hf1 b (by omega),hp3 b hb,hf3 b hb,Gj]
  unfold dI
  refine⟨fun h=>by rw [h,if_neg (by decide)];rfl,fun h=> ?_⟩
  have ok:=bS.1 h
  rw [if_pos h]
  have n48:=ok.sz
  refine ay (fun(y:Int×Int×Int×Int×Int×Int×Int×Int×Int×Int×Int×Int×Int×List Int×List Int×List IOp×Unit)=>0≤y.1∧y.1≤b.ops.length∧y.2.2.2.2.2.2.2=(b.pc,b.len,b.fin,b.x,b.y,b.k,(cpS b.ops y.1.toNat).1,(cpS b.ops y.1.toNat).2,(b.ops.take y.1.toNat).map (ren (cpS b.ops b.ops.length).1)++b.ops.drop y.1.toNat,())) (fun y=>((b.ops.length:Int)-y.1).toNat) ⟨by dsimp only;omega,by dsimp only;omega,rfl⟩ ?_
  rintro⟨(k:Int),u1,u2,u3,u4,u5,u6,b1,b2,b3,b4,b5,b6,(al:List Int),(la:List Int),(ops:List IOp),⟨⟩⟩ hI
  dsimp only at hI ⊢
  simp only [Prod.mk.injEq,and_true]at hI
  obtain⟨h1,h2,rfl,rfl,rfl,rfl,rfl,rfl,rfl,rfl,rfl⟩:=hI
  obtain⟨l1,l2⟩:=zf b.ops k.toNat
  have r:=fun h:k<b.ops.length=>ahs (ops:=b.ops) (k:=k.toNat) (n:=b.ops.length) (by rw [show((k.toNat:Nat):Int)=k by omega];exact ok.op k h1 h) (by omega)
  have fl:((b.ops.take k.toNat).map (ren (cpS b.ops b.ops.length).1)).length=k.toNat:=by rw [List.length_map,List.length_take];omega
  have ln:=BR (l:=b.ops) fl (by omega)
  have ek:=fun h:k<b.ops.length=>RF (d:=default) (l:=b.ops) fl (by omega)
  have ms:=fun x (h:k<b.ops.length)=>BQ (x:=x) (l:=b.ops) fl (by omega)
  have tk:=fun h:k<b.ops.length=>(iK (d:=default) (l:=b.ops) h1 h rfl)
  have nx:k<b.ops.length→cpS b.ops (k+1).toNat=((cpS b.ops k.toNat).1++ [cpN (cpS b.ops k.toNat) k ((b.ops).getD (k).toNat default)],cpL (cpS b.ops k.toNat) k ((b.ops).getD (k).toNat default)):=fun h=>by
    rw [show(k+1).toNat=k.toNat+1 by omega,show k=((k.toNat:Nat):Int) by omega];rfl
  have fin:¬k<b.ops.length→cpS b.ops k.toNat=cpS b.ops b.ops.length:=fun h=>by rw [show k.toNat=b.ops.length by omega]
  have en:=ok.en
  by_cases h:k<b.ops.length
  · have o:=ok.op k h1 h
    have r:=r h
    have ek:=ek h
    have nx:=nx h
    have ms:=fun x=>ms x h
    have tk:=tk h
    have a2:hX (((b.ops).getD (k).toNat default))→0≤(((b.ops).getD (k).toNat default)).x∧(((b.ops).getD (k).toNat default)).x< ((cpS b.ops k.toNat).1.length:Int):=fun c=>⟨(o.x1 c).1,by have:=(o.x1 c).2.1;omega⟩
    have a3:hY (((b.ops).getD (k).toNat default))→0≤(((b.ops).getD (k).toNat default)).y∧(((b.ops).getD (k).toNat default)).y< ((cpS b.ops k.toNat).1.length:Int):=fun c=>⟨(o.y1 c).1,by have:=(o.y1 c).2.1;omega⟩
    have P:=hp2 _ _ o.kd a2 a3
    have F:=hf2 _ _ o.kd a2 a3
    have kd:=o.k2
    have rx:(((b.ops).getD (k).toNat default)).kind=8→(ren (cpS b.ops b.ops.length).1 ((b.ops).getD (k).toNat default)).x=(((cpS b.ops k.toNat).1).getD ((((b.ops).getD (k).toNat default)).x).toNat default):=fun c=>by rw [←r];exact if_pos (by unfold hX;omega)
    rw [r]at F
    generalize hN:(cpS b.ops b.ops.length).1=N at*
    generalize hT:cpS b.ops (k+1).toNat=T at nx ⊢
    generalize cpS b.ops k.toNat=S at*
    simp (disch:=omega) only [RR,RB,ln,ek,P,F,ms,List.length_append,List.length_cons,List.length_nil,List.length_set,Gj,h]
    generalize hq:((b.ops).getD (k).toNat default)=q at*
    have rk:(ren N q).kind=q.kind:=rfl
    have rkk:(ren N q).k=q.k:=rfl
    generalize hR:ren N q=R at*
    have G:∀v w,v=cpN S k q→w=cpL S k q→(b.pc,b.len,b.fin,b.x,b.y,b.k,S.1++ [v],w,((b.ops.take k.toNat).map (ren N)++ [R])++b.ops.drop (k.toNat+1),())=(b.pc,b.len,b.fin,b.x,b.y,b.k,T.1,T.2,(b.ops.take (k+1).toNat).map (ren N)++b.ops.drop (k+1).toNat,()):=fun v w e1 e2=>by
      rw [nx,e1,e2,←tk,List.map_append,show(k+1).toNat=k.toNat+1 by omega,←hR];rfl
    have ss:∀i:Int,0≤i→i<S.2.length→S.2.set i.toNat ((S.2).getD (i).toNat default)=S.2:=fun i i0 i1=>by rw [getD_lt (show i.toNat<S.2.length by omega),List.set_getElem_self]
    by_cases c2:R.kind=2
    · have kk:=kd (Or.inl (rk▸c2))
      by_cases c3:0≤((S.2).getD (R.k).toNat default)
      · have g:=G (((S.2).getD (R.k).toNat default)) (S.2.set R.k.toNat ((S.2).getD (R.k).toNat default)) (by unfold cpN;rw [←rk,←rkk];rw [if_pos ⟨c2,c3⟩]) (by unfold cpL;rw [←rk,←rkk];rw [if_pos c2,if_pos c3,ss _ (by omega) (by omega)])
        simp only [c2,c3,show¬((2:Int)=8) by decide,true_and,and_true,true_implies,false_implies,not_true_eq_false,not_false_eq_true,false_or,decide_true,Bool.and_self,Bool.true_eq_false,hT,g]
        omega
      · have g:=G k (S.2.set R.k.toNat k) (by unfold cpN;rw [←rk,←rkk];rw [if_neg (fun q=>c3 q.2)]) (by unfold cpL;rw [←rk,←rkk];rw [if_pos c2,if_neg c3])
        simp only [c2,c3,show¬((2:Int)=8) by decide,true_and,and_true,and_false,true_implies,false_implies,not_true_eq_false,not_false_eq_true,false_or,decide_true,decide_false,Bool.and_false,hT,g]
        omega
    · by_cases c8:R.kind=8
      · have kk:=kd (Or.inr (rk▸c8))
        have g:=G k (S.2.set R.k.toNat ((S.1).getD (q.x).toNat default)) (by unfold cpN;rw [←rk,←rkk];rw [if_neg (fun q=>c2 q.1)]) (by unfold cpL;rw [←rk,←rkk];rw [if_neg c2,if_pos c8])
        rw [←rx (rk▸c8)]at g
        simp only [c8,show¬((8:Int)=2) by decide,false_and,true_and,and_true,and_false,true_implies,false_implies,not_true_eq_false,not_false_eq_true,true_or,decide_false,Bool.false_and,hT,g]
        omega
      · have g:=G k S.2 (by unfold cpN;rw [←rk,←rkk];rw [if_neg (fun q=>c2 q.1)]) (by unfold cpL;rw [←rk,←rkk];rw [if_neg c2,if_neg c8])
        simp only [c2,c8,false_and,true_and,and_true,and_false,true_implies,false_implies,not_true_eq_false,not_false_eq_true,true_or,decide_false,Bool.false_and,hT,g]
        omega
  · have e:=fin h
    have ex:¬b.fin=1→0≤b.x∧b.x< ((cpS b.ops k.toNat).1.length:Int):=fun c=>by have:=en.x1 c;exact⟨this.1,by have:=this.2.1;omega⟩
    have ey:b.fin=3∨b.fin=4→0≤b.y∧b.y< ((cpS b.ops k.toNat).1.length:Int):=fun c=>by have:=en.y1 (by omega);exact⟨this.1,by have:=this.2.1;omega⟩
    have ff:=en.f
    have z:(b.ops.take k.toNat).map (ren (cpS b.ops b.ops.length).1)++b.ops.drop k.toNat=b.ops.map (ren (cpS b.ops b.ops.length).1):=by rw [List.take_of_length_le (by omega),List.drop_of_length_le (by omega),List.append_nil]
    have ln:(b.ops.map (ren (cpS b.ops b.ops.length).1)).length=b.ops.length:=List.length_map _
    rw [z]
    rw [e]at ex ey ⊢
    unfold bk7 JZ
    generalize (cpS b.ops b.ops.length).1=N at*
    simp (disch:=omega) only [RR,RB,ln,h]
    refine⟨fun c=>⟨(ex c).1,(ex c).2,(ex c).1,(ex c).2,fun c2=>⟨(ey c2).1,(ey c2).2,(ey c2).1,(ey c2).2,?_⟩,fun c2=> ?_⟩,fun c=>⟨fun c2=>absurd c2 (by omega),fun c2=> ?_⟩⟩
    · rw [if_neg c,if_pos (by omega)]
    · rw [if_neg c,if_neg (by omega)]
    · rw [if_pos c,if_neg (by omega)]
end Go.TX.F
namespace Go.TX.F
open Go Go.AE Go.TX
structure BkD (m:Int) (n:Nat) (b:List Int) (p:Int) (y:Int×Int×Int×Int×Int×Int×List Int×Int×List IOp×Unit):Prop where
  b:y.2.2.2.2.2.2.1=b
  lo:p≤y.2.2.2.2.2.2.2.1
  hi:y.2.2.2.2.2.2.2.1≤p+m
  len:y.2.2.2.2.2.2.2.2.1.length≤n
theorem ahu {p1:Int×List Ins×Unit→Bool} {f1:Int×List Ins×Unit→Int×Int×Int×Int×Int×Int×List IOp×Unit} (hp1:∀pc l,(l.length:Int)<1000→KB l→p1 (pc,l,())=true) (hf1:∀pc l,(l.length:Int)<1000→KB l→((f1 (pc,l,())).2.2.2.2.2.2.1.length:Int)≤5000) {p2:Blk×Unit→Bool} {f2:Blk×Unit→Int×Int×Int×Int×Int×Int×List IOp×Unit} (hp2:∀b,b.ops.length<1000000→p2 (b,())=true) (hf2:∀b,b.ops.length<1000000→f2 (b,())=bk7 (Rz b)) {p3:Blk×Unit→Bool} {f3:Blk×Unit→Int×Int×Int×Int×Int×Int×List IOp×Unit} (hp3:∀b,b.ops.length<1000000→p3 (b,())=true) (hf3:∀b,b.ops.length<1000000→f3 (b,())=bk7 (dI b)) {p4:Int×List Int×Int×Unit→Bool} {f4:Int×List Int×Int×Unit→Int×List Int×Int×Unit} (hp4:∀n b p,Bt b→0≤p→p<1000000000→p4 (n,b,p,())=true) (hf4:∀n b p,Bt b→0≤p→p<1000000000→Pk n b p (f4 (n,b,p,()))) {p5:List Int×Int×Unit→Bool} {f5:List Int×Int×Unit→List Int×Int×List Ins×Unit} (hp5:∀b p,Bt b→0≤p→p<700000000→p5 (b,p,())=true) (hf5:∀b p,Bt b→0≤p→p<700000000→LiD b p (f5 (b,p,()))) (b:List Int) (p:Int) (hb:Bt b) (h1:0≤p) (h2:p<600000000):QK (std 0) p1 f1 p2 f2 p3 f3 p4 f4 p5 f5 (b,p,()) (fun y=>BkD 2000 5000 b p y):=by
  replace hf2:=fun c h=>show(f2 (c,())).2.2.2.2.2.2.1.length≤c.ops.length by rw [hf2 c h];exact Vx c
  replace hf3:=fun c h=>show(f3 (c,())).2.2.2.2.2.2.1.length≤c.ops.length by rw [hf3 c h];exact xY c
  obtain⟨a1,a2,a3,a4,a5⟩:=hf5 b p hb h1 (by omega)
  have R:=pkR hb hf4
  have P:=fun n p h1 h2=>hp4 n b p hb h1 h2
  have L:=fun pc=>hf1 pc _ (show((f5 (b,p,())).2.2.1.length:Int)<1000 by omega) a5
  have O1:=fun c (h:c.ops.length≤5000)=>hp2 c (by omega)
  have O2:=fun c (h:c.ops.length≤5000)=>hf2 c (by omega)
  have O3:=fun c (h:c.ops.length≤5000)=>hp3 c (by omega)
  have O4:=fun c (h:c.ops.length≤5000)=>hf3 c (by omega)
  dsimp only [QK,Alg.cl,Alg.cg,Alg.rb,Alg.bd,Alg.l1,Tup.q,Tup.o]
  simp (disch:=omega) only [RR,hp5 b p hb h1 (by omega),a1,R,P,hp1 _ _ (show((f5 (b,p,())).2.2.1.length:Int)<1000 by omega) a5,List.length_cons,List.length_nil]
  have L':∀pc,(f1 (pc,(f5 (b,p,())).2.2.1,())).2.2.2.2.2.2.1.length≤5000:=fun pc=>by have:=L pc;omega
  refine⟨fun _=>⟨O1 _ (L' _),rfl,by dsimp only;omega,by dsimp only;omega,Nat.le_trans (O2 _ (L' _)) (L' _)⟩,fun _=>⟨fun _=>⟨O3 _ (L' _),rfl,by dsimp only;omega,by dsimp only;omega,Nat.le_trans (O4 _ (L' _)) (L' _)⟩,fun _=>⟨rfl,by dsimp only;omega,by dsimp only;omega,L' _⟩⟩⟩
end Go.TX.F
namespace Go.TX.F
open Go Go.AE Go.TX
theorem ahv {p1:Int×List Int×Int×Unit→Bool} {f1:Int×List Int×Int×Unit→Int×List Int×Int×Unit} (hp1:∀n b p,Bt b→0≤p→p<1000000000→p1 (n,b,p,())=true) (hf1:∀n b p,Bt b→0≤p→p<1000000000→Pk n b p (f1 (n,b,p,()))) {p2:Blk×Unit→Bool} {f2:Blk×Unit→Int×Int×Int×Int×Int×Int×List IOp×Unit} (hp2:∀b,b.ops.length<1000000→p2 (b,())=true) (hf2:∀b,b.ops.length<1000000→f2 (b,())=(b.pc,b.len,b.fin,b.x,b.y,b.k,b.ops,())) (c:Blk) (b:List Int) (p:Int) (hc:c.ops.length<1000000) (hb:Bt b) (h1:0≤p) (h2:p<900000000):JH (std 0) p1 f1 p2 f2 (c,b,p,()) (fun y=>BkD 20 c.ops.length b p y):=by
  have R:=pkR hb hf1
  have P:=fun n p h1 h2=>hp1 n b p hb h1 h2
  by_cases z:(c.ops.length:Int)=0
  · dsimp only [JH,Alg.cl,Alg.cg,Alg.rb,Alg.bd,Alg.l1,Tup.q,Tup.o]
    simp (disch:=omega) only [RR,RB,hp2 c hc,hf2 c hc,z]
    exact⟨rfl,by dsimp only;omega,by dsimp only;omega,Nat.le_refl _⟩
  have B:=(hf1 c.ops.length b p hb h1 (by omega)).2.2
  have W:IntKind.i64.wrap ((f1 (c.ops.length,b,p,())).1-1)=(f1 (c.ops.length,b,p,())).1-1:=w64 (by omega) (by omega)
  dsimp only [JH,Alg.cl,Alg.cg,Alg.rb,Alg.bd,Alg.l1,Tup.q,Tup.o]
  simp (disch:=omega) only [RR,RB,hp2 c hc,hf2 c hc,R,P,z,List.length_set,W]
  repeat' (first | (refine And.intro ?_ ?_) | intro _)
  all_goals first | omega | exact⟨rfl,by dsimp only;omega,by dsimp only;omega,by dsimp only [YG];simp only [List.length_set,List.length_take,List.length_drop];omega⟩ | exact⟨rfl,by dsimp only;omega,by dsimp only;omega,by simp only [List.length_drop,List.length_take];omega⟩ | exact⟨rfl,by dsimp only;omega,by dsimp only;omega,Nat.le_refl _⟩
structure BoD (b:List Int) (p:Int) (y:Blk×List Int×Int×Unit):Prop where
  len:y.1.ops.length<100000
  b:y.2.1=b
  lo:p≤y.2.2.1
  hi:y.2.2.1≤p+5000
theorem ahw {p1:Int×List Int×Int×Unit→Bool} {f1:Int×List Int×Int×Unit→Bool×List Int×Int×Unit} (hp1:∀n b p,Bt b→0≤p→p<1000000000→p1 (n,b,p,())=true) (hf1:∀n b p,Bt b→0≤p→p<1000000000→(f1 (n,b,p,())).2.1=b∧(f1 (n,b,p,())).2.2.1=p+1) {p2:Int×List Int×Int×Unit→Bool} {f2:Int×List Int×Int×Unit→Int×List Int×Int×Unit} (hp2:∀n b p,Bt b→0≤p→p<1000000000→p2 (n,b,p,())=true) (hf2:∀n b p,Bt b→0≤p→p<1000000000→Pk n b p (f2 (n,b,p,()))) {p3:Blk×List Int×Int×Unit→Bool} {f3:Blk×List Int×Int×Unit→Int×Int×Int×Int×Int×Int×List Int×Int×List IOp×Unit} (hp3:∀c b p,c.ops.length<1000000→Bt b→0≤p→p<900000000→p3 (c,b,p,())=true) (hf3:∀c b p,c.ops.length<1000000→Bt b→0≤p→p<900000000→BkD 20 c.ops.length b p (f3 (c,b,p,()))) {p4:List Int×Int×Unit→Bool} {f4:List Int×Int×Unit→Int×Int×Int×Int×Int×Int×List Int×Int×List IOp×Unit} (hp4:∀b p,Bt b→0≤p→p<600000000→p4 (b,p,())=true) (hf4:∀b p,Bt b→0≤p→p<600000000→BkD 2000 5000 b p (f4 (b,p,()))) (n:Int) (b:List Int) (p:Int) (hb:Bt b) (h1:0≤p) (h2:p<500000000):QT (std 0) p1 f1 p2 f2 p3 f3 p4 f4 (n,b,p,()) (fun y=>BoD b p y):=by
  obtain⟨a1,a2,a3,a4⟩:=hf4 b p hb h1 (by omega)
  have H4:=hp4 b p hb h1 (by omega)
  have R:=pkR hb hf2
  have P:=fun n p h1 h2=>hp2 n b p hb h1 h2
  have R1:=fun n p h1 h2=>(hf1 n b p hb h1 h2).1
  have R2:=fun n p h1 h2=>(hf1 n b p hb h1 h2).2
  have P1:=fun n p h1 h2=>hp1 n b p hb h1 h2
  dsimp only [QT,Alg.cl,Alg.cg,Alg.rb,Alg.bd,Alg.l1,Tup.q,Tup.o]
  simp (disch:=omega) only [RR,RB,H4,a1,R,P,R1,R2,P1,List.length_cons,List.length_nil,List.length_append]
  repeat' (first | (refine And.intro ?_ ?_) | intro _)
  all_goals try omega
  all_goals try exact BoD.mk (show(f4 (b,p,())).2.2.2.2.2.2.2.2.1.length<100000 by omega) rfl (by dsimp only;omega) (by dsimp only;omega)
  all_goals try exact hp3 _ _ _ (show(f4 (b,p,())).2.2.2.2.2.2.2.2.1.length<1000000 by omega) hb (by omega) (by omega)
  all_goals try exact BoD.mk (show(_++ [_]).length<100000 by rw [List.length_append,List.length_singleton];omega) rfl (by dsimp only;omega) (by dsimp only;omega)
  all_goals try exact(fun h=>BoD.mk (Nat.lt_of_le_of_lt h.len (show(f4 (b,p,())).2.2.2.2.2.2.2.2.1.length<100000 by omega)) h.b (by have:=h.lo;dsimp only;omega) (by have:=h.hi;dsimp only;omega)) (hf3 _ _ _ (show(f4 (b,p,())).2.2.2.2.2.2.2.2.1.length<1000000 by omega) hb (by omega) (by omega))
  all_goals
    refine ay (fun(y:List Int×Int×Int×Int×Int×Int×Int×Int×Int×Int×Int×Int×Int×Int×List IOp×Unit)=>y.1=b∧p≤y.2.1∧y.2.1≤p+5000∧y.2.2.2.2.2.2.2.2.2.2.2.2.2.2.1.length<50000) (fun y=>50-y.2.2.2.2.2.2.2.2.2.2.2.2.2.2.1.length) ⟨rfl,by dsimp only;omega,by dsimp only;omega,by dsimp only;omega⟩ ?_
    rintro⟨(b':List Int),(q:Int),u1,u2,u3,u4,u5,u6,b1,b2,b3,b4,b5,b6,(ops:List IOp),⟨⟩⟩ hI
    dsimp only at hI ⊢
    obtain⟨rfl,h3,h4,h5⟩:=hI
    simp (disch:=omega) only [RR,List.length_append,List.length_cons,List.length_nil]
    refine⟨fun h=>⟨by omega,⟨by omega,by omega,by omega⟩,by omega⟩,fun h=>⟨show ops.length<100000 by omega,rfl,by dsimp only;omega,by dsimp only;omega⟩⟩
end Go.TX.F
namespace Go.TX.F
open Go Go.AE Go.TX
end Go.TX.F
namespace Go.TX.F
open Go Go.AE Go.TX
end Go.TX.F
namespace Go.TX.F
open Go Go.AE Go.TX
end Go.TX.F
namespace Go.TX.F
open Go Go.AE Go.TX
theorem acn (x y:IOp):ajB .iop x y=decide (x=y):=rfl
theorem RG {P:Prop} [Decidable P]:decide P=bp P:=by unfold bp;congr
theorem Zk (a b:List IOp) (ha:a.length<1000000000):Rb (std 0) (a,b,()) (fun y=>y=(bp (a=b),())):=by
  dsimp only [Rb,Alg.cl,Alg.cg,Alg.rb,Alg.bd,Alg.l1,Tup.q,Tup.o]
  simp (disch:=omega) only [RR]
  refine⟨fun h=> ?_,fun h=> ?_⟩
  · rw [gZ (fun e=>h (by rw [e]))]
  have hl:a.length=b.length:=by omega
  refine ay (fun(y:List IOp×List IOp×Int×Int×Unit)=>y.1=a∧y.2.1=b∧y.2.2.1=a.length∧0≤y.2.2.2.1∧y.2.2.2.1≤a.length∧All y.2.2.2.1 (fun i=>a.getD i.toNat default=b.getD i.toNat default)) (fun y=>(a.length-y.2.2.2.1).toNat) ⟨rfl,rfl,rfl,by simp,by simp,All.zero⟩ ?_
  rintro⟨(l1:List IOp),(l2:List IOp),(n:Int),(i:Int),⟨⟩⟩ hI
  dsimp only at hI ⊢
  obtain⟨rfl,rfl,rfl,h1,h2,h3⟩:=hI
  simp (disch:=omega) only [RR,acn]
  refine⟨fun h4=>⟨by omega,by omega,by omega,by omega,fun h5=> ?_,fun h5=>⟨⟨by omega,by omega,h3.snoc h5⟩,by omega⟩⟩,fun h4=> ?_⟩
  · rw [gZ]
    intro e;rw [e]at h5;exact h5 rfl
  · rw [dH (yZ hl (h3.le (by omega)))]
theorem anE {p1:List IOp×List IOp×Unit→Bool} {f1:List IOp×List IOp×Unit→Bool×Unit} (hp1:∀a b,a.length<1000000000→p1 (a,b,())=true) (hf1:∀a b,a.length<1000000000→f1 (a,b,())=(bp (a=b),())) (a b:Blk) (ha:a.ops.length<1000000000):Yr (std 0) p1 f1 (a,b,()) (fun y=>y=(bp (a=b),())):=by
  dsimp only [Yr,Alg.cl,Alg.cg,Alg.rb,Alg.bd,Alg.l1,Tup.q,Tup.o]
  simp (disch:=omega) only [RR,RB,hp1 _ _ ha,hf1 _ _ ha]
  simp only [RG,←uD]
  refine Prod.ext (uE ?_) rfl
  cases a;cases b;simp only [Blk.mk.injEq]
  constructor<;>(intro h;simp only [h,and_self])
theorem anF {p1:List aj×List aj×Unit→Bool} {f1:List aj×List aj×Unit→Bool×Unit} (hp1:∀a b,Sh a→p1 (a,b,())=true) (hf1:∀a b,Sh a→f1 (a,b,())=(decide (iQ a b=0),())) (a b:List aj) (ha:Sh a):Yu (std 0) p1 f1 (a,b,()) (fun y=>y=(decide (iQ a b=0),())):=by
  dsimp only [Yu,Alg.cl,Alg.cg,Alg.rb,Alg.bd,Alg.l1,Tup.q,Tup.o]
  simp (disch:=omega) only [RR,hp1 _ _ ha,hf1 _ _ ha]
theorem ahx {p1:List aj×List aj×Unit→Bool} {f1:List aj×List aj×Unit→Bool×Unit} (hp1:∀a b,Sh a→p1 (a,b,())=true) (hf1:∀a b,Sh a→f1 (a,b,())=(decide (iQ a b=0),())) (a b:List (List aj)) (ha:ShP a):Rc (std 0) p1 f1 (a,b,()) (fun y=>y=(bp (a=b),())):=by
  have hlen:=ha.1
  dsimp only [Rc,Alg.cl,Alg.cg,Alg.rb,Alg.bd,Alg.l1,Tup.q,Tup.o]
  simp (disch:=omega) only [RR]
  refine⟨fun h=> ?_,fun h=> ?_⟩
  · rw [gZ (fun e=>h (by rw [e]))]
  have hl:a.length=b.length:=by omega
  refine ay (fun(y:List (List aj)×List (List aj)×Int×Int×Unit)=>y.1=b∧y.2.1=a∧y.2.2.1=a.length∧0≤y.2.2.2.1∧y.2.2.2.1≤a.length∧All y.2.2.2.1 (fun i=>a.getD i.toNat default=b.getD i.toNat default)) (fun y=>(a.length-y.2.2.2.1).toNat) ⟨rfl,rfl,rfl,by simp,by simp,All.zero⟩ ?_
  rintro⟨(l1:List (List aj)),(l2:List (List aj)),(n:Int),(i:Int),⟨⟩⟩ hI
  dsimp only at hI ⊢
  obtain⟨rfl,rfl,rfl,h1,h2,h3⟩:=hI
  simp (disch:=omega) only [RR,hp1 _ _ (ha.at _),hf1 _ _ (ha.at _),lZ]
  refine⟨fun h4=>⟨by omega,by omega,by omega,by omega,fun h5=> ?_,fun h5=>⟨⟨by omega,by omega,h3.snoc h5⟩,by omega⟩⟩,fun h4=> ?_⟩
  · rw [gZ]
    intro e;rw [e]at h5;exact h5 rfl
  · rw [dH (yZ hl (h3.le (by omega)))]
theorem anG {p1:List (List aj)×List (List aj)×Unit→Bool} {f1:List (List aj)×List (List aj)×Unit→Bool×Unit} (hp1:∀a b,ShP a→p1 (a,b,())=true) (hf1:∀a b,ShP a→f1 (a,b,())=(bp (a=b),())) (a b:List (List aj)) (ha:ShP a):Yv (std 0) p1 f1 (a,b,()) (fun y=>y=(bp (a=b),())):=by
  dsimp only [Yv,Alg.cl,Alg.cg,Alg.rb,Alg.bd,Alg.l1,Tup.q,Tup.o]
  simp (disch:=omega) only [RR,hp1 _ _ ha,hf1 _ _ ha]
theorem anH {p1:List aj×List aj×Unit→Bool} {f1:List aj×List aj×Unit→Bool×Unit} (hp1:∀a b,Sh a→p1 (a,b,())=true) (hf1:∀a b,Sh a→f1 (a,b,())=(decide (iQ a b=0),())) {p2:List (List aj)×List (List aj)×Unit→Bool} {f2:List (List aj)×List (List aj)×Unit→Bool×Unit} (hp2:∀a b,ShP a→p2 (a,b,())=true) (hf2:∀a b,ShP a→f2 (a,b,())=(bp (a=b),())) (a b:Ev) (ha:ShE a):Yw (std 0) p1 f1 p2 f2 (a,b,()) (fun y=>y=(bp (a=b),())):=by
  dsimp only [Yw,Alg.cl,Alg.cg,Alg.rb,Alg.bd,Alg.l1,Tup.q,Tup.o]
  simp (disch:=omega) only [RR,RB,hp1 _ _ ha.1,hf1 _ _ ha.1,hp1 _ _ ha.2.1,hf1 _ _ ha.2.1,hp2 _ _ ha.2.2,hf2 _ _ ha.2.2,lZ]
  simp only [RG,←uD]
  refine Prod.ext (uE ?_) rfl
  cases a;cases b;simp only [Ev.mk.injEq]
  constructor<;>(intro h;simp only [h,and_self])
theorem ahy {p1:Ev×Ev×Unit→Bool} {f1:Ev×Ev×Unit→Bool×Unit} (hp1:∀a b,ShE a→p1 (a,b,())=true) (hf1:∀a b,ShE a→f1 (a,b,())=(bp (a=b),())) (a b:List Ev) (ha:Vt a):Rf (std 0) p1 f1 (a,b,()) (fun y=>y=(bp (a=b),())):=by
  have hlen:=ha.1
  dsimp only [Rf,Alg.cl,Alg.cg,Alg.rb,Alg.bd,Alg.l1,Tup.q,Tup.o]
  simp (disch:=omega) only [RR]
  refine⟨fun h=> ?_,fun h=> ?_⟩
  · rw [gZ (fun e=>h (by rw [e]))]
  have hl:a.length=b.length:=by omega
  refine ay (fun(y:List Ev×List Ev×Int×Int×Unit)=>y.1=b∧y.2.1=a∧y.2.2.1=a.length∧0≤y.2.2.2.1∧y.2.2.2.1≤a.length∧All y.2.2.2.1 (fun i=>a.getD i.toNat default=b.getD i.toNat default)) (fun y=>(a.length-y.2.2.2.1).toNat) ⟨rfl,rfl,rfl,by simp,by simp,All.zero⟩ ?_
  rintro⟨(l1:List Ev),(l2:List Ev),(n:Int),(i:Int),⟨⟩⟩ hI
  dsimp only at hI ⊢
  obtain⟨rfl,rfl,rfl,h1,h2,h3⟩:=hI
  simp (disch:=omega) only [RR,hp1 _ _ (ha.at _),hf1 _ _ (ha.at _),bS,rM]
  refine⟨fun h4=>⟨by omega,by omega,by omega,by omega,fun h5=> ?_,fun h5=>⟨⟨by omega,by omega,h3.snoc h5⟩,by omega⟩⟩,fun h4=> ?_⟩
  · rw [gZ]
    intro e;rw [e]at h5;exact h5 rfl
  · rw [dH (yZ hl (h3.le (by omega)))]
theorem anI {p1:List aj×List aj×Unit→Bool} {f1:List aj×List aj×Unit→Bool×Unit} (hp1:∀a b,Sh a→p1 (a,b,())=true) (hf1:∀a b,Sh a→f1 (a,b,())=(decide (iQ a b=0),())) {p2:List (List aj)×List (List aj)×Unit→Bool} {f2:List (List aj)×List (List aj)×Unit→Bool×Unit} (hp2:∀a b,ShP a→p2 (a,b,())=true) (hf2:∀a b,ShP a→f2 (a,b,())=(bp (a=b),())) {p3:List Ev×List Ev×Unit→Bool} {f3:List Ev×List Ev×Unit→Bool×Unit} (hp3:∀b a,Vt b→p3 (b,a,())=true) (hf3:∀b a,Vt b→f3 (b,a,())=(bp (b=a),())) (a b:Sym) (ha:ShY a):Yz (std 0) p1 f1 p2 f2 p3 f3 (a,b,()) (fun y=>y=(bp (a=b),())):=by
  dsimp only [Yz,Alg.cl,Alg.cg,Alg.rb,Alg.bd,Alg.l1,Tup.q,Tup.o]
  simp (disch:=omega) only [RR,RB,hp1 _ _ ha.x,hf1 _ _ ha.x,hp1 _ _ ha.y,hf1 _ _ ha.y,hp2 _ _ ha.r,hf2 _ _ ha.r,hp3 _ _ ha.e,hf3 _ _ ha.e,lZ]
  simp only [RG,←uD]
  refine Prod.ext (uE ?_) rfl
  cases a;cases b;simp only [Sym.mk.injEq]
  constructor<;>(intro h;simp only [h,and_self])
theorem aqt {p1:Blk×Unit→Bool} {f1:Blk×Unit→Bool×Unit} (hp1:∀b,b.ops.length<1000000000→p1 (b,())=true) (hf1:∀b,b.ops.length<1000000000→f1 (b,())=(bp (bV b),())) {p2:Blk×Blk×Unit→Bool} {f2:Blk×Blk×Unit→Bool×Unit} (hp2:∀a b,a.ops.length<1000000000→p2 (a,b,())=true) (hf2:∀a b,a.ops.length<1000000000→f2 (a,b,())=(bp (a=b),())) {p3:Unit→Bool} {f3:Unit→List Atom×List (List aj)×Unit} (hp3:p3 ()=true) (hf3:(f3 ()).1=t4) {p4:List Atom×Blk×Unit→Bool} {f4:List Atom×Blk×Unit→List Atom×Sym×Unit} (hp4:∀t b,ShT t→b.ops.length<1000000000→p4 (t,b,())=true) (hf4:∀t b,ShT t→b.ops.length<1000000000→f4 (t,b,())=((bH t b).1,(bH t b).2,())) {p5:Sym×Sym×Unit→Bool} {f5:Sym×Sym×Unit→Bool×Unit} (hp5:∀a b,ShY a→p5 (a,b,())=true) (hf5:∀a b,ShY a→f5 (a,b,())=(bp (a=b),())) (b c:Blk) (hb:b.ops.length<1000000000) (hc:c.ops.length<1000000000):afe (std 0) p1 f1 p2 f2 p3 f3 p4 f4 p5 f5 (b,c,()) (fun y=>y=(chk b c,())):=by
  have s4:ShT t4:=Y6.1.sh
  have y1:=JY t4 b
  dsimp only [afe,Alg.cl,Alg.cg,Alg.rb,Alg.bd,Alg.l1,Tup.q,Tup.o]
  simp (disch:=omega) only [RR,RB,hp1 b hb,hf1 b hb,hp1 c hc,hf1 c hc,hp2 b c hb,hf2 b c hb,hp3,hf3,hp4 t4 b s4 hb,hf4 t4 b s4 hb,hp4 _ c y1.2 hc,hf4 _ c y1.2 hc,hp5 _ _ y1.1,hf5 _ _ y1.1,bS,rM]
  unfold chk
  refine⟨fun h=> ?_,fun h=>⟨fun e=> ?_,fun e=> ?_⟩⟩
  · rw [gZ];rintro⟨h1,h2,h3,h4,_⟩;simp_all
  · rw [dH];exact⟨h.1.1.1,h.1.1.2,h.1.2,h.2,Or.inl e⟩
  · refine Prod.ext (uE ?_) rfl
    exact⟨fun g=>⟨h.1.1.1,h.1.1.2,h.1.2,h.2,Or.inr g⟩,fun g=>g.2.2.2.2.resolve_left e⟩
end Go.TX.F
namespace Go.TX.F
open Go Go.AE Go.TX
theorem mkB (p l o f x y k):Co.mk .blk (p,l,o,f,x,y,k,())=Blk.mk p l o f x y k:=rfl
structure abA (nm:List Int) (fin x y:Int) (ops:List IOp):Prop where
  op:∀i:Int,0≤i→i<ops.length→(hX ((ops).getD (i).toNat default)→0≤(((ops).getD (i).toNat default)).x∧(((ops).getD (i).toNat default)).x<nm.length)∧(hY ((ops).getD (i).toNat default)→0≤(((ops).getD (i).toNat default)).y∧(((ops).getD (i).toNat default)).y<nm.length)
  x:fin≠1→0≤x∧x<nm.length
  y:3≤fin→0≤y∧y<nm.length
  l:ops.length<1000000000
theorem anJ {p1:Blk×Unit→Bool} {f1:Blk×Unit→Bool×Bool×Bool×Unit} (hp1:∀b,p1 (b,())=true) (hf1:∀b,f1 (b,())=(decide (b.fin≠1),decide (3≤b.fin),decide (b.fin≠2),())) {p2:IOp×Unit→Bool} {f2:IOp×Unit→Bool×Bool×Bool×Bool×Unit} (hp2:∀o,p2 (o,())=true) (hf2:∀o,f2 (o,())=(decide (hX o),decide (hY o),decide (hK o),decide (evO o),())) (nm:List Int) (pc len fin x y k:Int) (ops:List IOp) (h:abA nm fin x y ops):YB (std 0) p1 f1 p2 f2 (nm,pc,len,fin,x,y,k,ops,()) (fun z=>z=(pc,len,fin,(if fin=1 then x else((nm).getD (x).toNat default)),(if 3≤fin then((nm).getD (y).toNat default)else y),k,ops.map (ren nm),())):=by
  have hl:=h.l
  dsimp only [YB,Alg.cl,Alg.cg,Alg.rb,Alg.bd,Alg.l1,Tup.q,Tup.o]
  simp (disch:=omega) only [RR,RB]
  refine ay (fun(z:List Int×Int×Int×Int×Int×Int×Int×Int×Int×List IOp×Unit)=>z.1=nm∧z.2.1=ops.length∧0≤z.2.2.1∧z.2.2.1≤ops.length∧z.2.2.2=(pc,len,fin,x,y,k,(ops.take z.2.2.1.toNat).map (ren nm)++ops.drop z.2.2.1.toNat,())) (fun z=>((ops.length:Int)-z.2.2.1).toNat) ⟨rfl,rfl,by dsimp only;omega,by dsimp only;omega,rfl⟩ ?_
  rintro⟨(nm':List Int),(n:Int),(i:Int),(pc':Int),(len':Int),(fin':Int),(x':Int),(y':Int),(k':Int),(ops':List IOp),⟨⟩⟩ hI
  dsimp only at hI ⊢
  simp only [Prod.mk.injEq,and_true]at hI
  obtain⟨rfl,rfl,h1,h2,rfl,rfl,rfl,rfl,rfl,rfl,rfl⟩:=hI
  have fl:((ops.take i.toNat).map (ren nm')).length=i.toNat:=by rw [List.length_map,List.length_take];omega
  have ln:=BR (l:=ops) fl (by omega)
  by_cases c:i<ops.length
  · obtain⟨ox,oy⟩:=h.op i h1 c
    have ek:=RF (d:=default) (l:=ops) fl (by omega)
    have ms:=fun q=>BQ (x:=q) (l:=ops) fl (by omega)
    have mk:=Oa (d:=default) (f:=(ops.take i.toNat).map (ren nm')) (l:=ops) (k:=i.toNat) (by omega)
    have tk:=iK (d:=default) (l:=ops) h1 c rfl
    have m2:∀q:IOp,(((ops.take i.toNat).map (ren nm')++ [q])++ops.drop (i.toNat+1)).getD i.toNat default=q:=fun q=>by
      rw [getD_lt (by rw [List.length_append,List.length_append,fl];simp only [List.length_cons,List.length_nil];omega),List.getElem_append_left (by rw [List.length_append,fl];simp),List.getElem_append_right (by omega)];simp only [fl,Nat.sub_self,List.getElem_cons_zero]
    have m3:∀q r:IOp,(((ops.take i.toNat).map (ren nm')++ [q])++ops.drop (i.toNat+1)).set i.toNat r=((ops.take i.toNat).map (ren nm')++ [r])++ops.drop (i.toNat+1):=fun q r=>by
      rw [List.set_append_left _ _ (by rw [List.length_append,fl];simp),List.set_append_right _ _ (by omega),fl,Nat.sub_self];rfl
    have m4:∀q:IOp,(((ops.take i.toNat).map (ren nm')++ [q])++ops.drop (i.toNat+1)).length=ops.length:=fun q=>by
      rw [List.length_append,List.length_append,fl,List.length_drop];simp only [List.length_cons,List.length_nil];omega
    rw [mk]at ek ln ms ⊢
    generalize ((ops).getD (i).toNat default)=o at*
    simp (disch:=omega) only [RR,RB,hp2,hf2,m2,m3,m4,c]
    have G:∀q:IOp,q=ren nm' o→(pc',len',fin',x',y',k',(ops.take i.toNat).map (ren nm')++ [q]++ops.drop (i.toNat+1),())=(pc',len',fin',x',y',k',(ops.take (i+1).toNat).map (ren nm')++ops.drop (i+1).toNat,()):=fun q e=>by
      rw [e,←tk,List.map_append,show(i+1).toNat=i.toNat+1 by omega];rfl
    refine⟨h1,h1,fun d=>⟨(ox d).1,(ox d).2,h1,h1,fun e=>⟨(oy e).1,(oy e).2,h1,h1,⟨by omega,by omega,G _ ?_⟩,by omega⟩,fun e=>⟨⟨by omega,by omega,G _ ?_⟩,by omega⟩⟩,fun d=>⟨fun e=>⟨(oy e).1,(oy e).2,h1,h1,⟨by omega,by omega,G _ ?_⟩,by omega⟩,fun e=>⟨⟨by omega,by omega,G _ ?_⟩,by omega⟩⟩⟩
    all_goals unfold ren
    · rw [if_pos d,if_pos e]
    · rw [if_pos d,if_neg e]
    · rw [if_neg d,if_pos e]
    · rw [if_neg d,if_neg e]
  · have hx:=h.x
    have hy:=h.y
    have z:(ops.take i.toNat).map (ren nm')++ops.drop i.toNat=ops.map (ren nm'):=by rw [List.take_of_length_le (by omega),List.drop_of_length_le (by omega),List.append_nil]
    rw [z]
    simp (disch:=omega) only [RR,RB,hp1,hf1,c,mkB]
    refine⟨fun d=>⟨(hx d).1,(hx d).2,fun e=>⟨(hy e).1,(hy e).2,?_⟩,fun e=> ?_⟩,fun d=>⟨fun e=>⟨(hy e).1,(hy e).2,?_⟩,fun e=> ?_⟩⟩
    · rw [if_neg (show¬fin'=1 from d),if_pos (show 3≤fin' from e)]
    · rw [if_neg (show¬fin'=1 from d),if_neg (show¬3≤fin' from e)]
    · rw [if_pos (show fin'=1 from Classical.byContradiction d),if_pos (show 3≤fin' from e)]
    · rw [if_pos (show fin'=1 from Classical.byContradiction d),if_neg (show¬3≤fin' from e)]
theorem anK {p1:List Int×Int×Int×Int×Int×Int×Int×List IOp×Unit→Bool} {f1:List Int×Int×Int×Int×Int×Int×Int×List IOp×Unit→Int×Int×Int×Int×Int×Int×List IOp×Unit} (hp1:∀(nm:List Int) pc len fin x y k ops,abA nm fin x y ops→p1 (nm,pc,len,fin,x,y,k,ops,())=true) (hf1:∀(nm:List Int) pc len fin x y k ops,abA nm fin x y ops→f1 (nm,pc,len,fin,x,y,k,ops,())=(pc,len,fin,(if fin=1 then x else((nm).getD (x).toNat default)),(if 3≤fin then((nm).getD (y).toNat default)else y),k,ops.map (ren nm),())) (b:Blk) (kp:List Bool) (ok:bV b) (hk:kp.length=b.ops.length):YC (std 0) p1 f1 (b,kp,()) (fun y=>y=bk7 (eO b kp)):=by
  have n48:=ok.sz
  dsimp only [YC,Alg.cl,Alg.cg,Alg.rb,Alg.bd,Alg.l1,Tup.q,Tup.o]
  simp (disch:=omega) only [RR,RB]
  refine⟨by omega,by omega,ay (fun(y:List Bool×List IOp×Int×Int×Int×Int×Int×Int×Int×Int×List Int×Int×Int×Int×Int×Int×Int×List IOp×Unit)=>y.1=kp∧y.2.1=b.ops∧y.2.2.1=b.ops.length∧0≤y.2.2.2.1∧y.2.2.2.1≤b.ops.length∧y.2.2.2.2.2.2.2.2.2.2=((kpS b.ops kp y.2.2.2.1.toNat).1++(List.replicate b.ops.length (0:Int)).drop y.2.2.2.1.toNat,b.pc,b.len,b.fin,b.x,b.y,b.k,(kpS b.ops kp y.2.2.2.1.toNat).2,())) (fun y=>((b.ops.length:Int)-y.2.2.2.1).toNat) ⟨rfl,rfl,rfl,by dsimp only;omega,by dsimp only;omega,?_⟩ ?_⟩
  · rfl
  rintro⟨(kp':List Bool),(ops:List IOp),(n:Int),(i:Int),u1,u2,u3,u4,u5,u6,(nm:List Int),(pc:Int),(len:Int),(fin:Int),(x:Int),(y:Int),(k:Int),(out:List IOp),⟨⟩⟩ hI
  dsimp only at hI ⊢
  simp only [Prod.mk.injEq,and_true]at hI
  obtain⟨rfl,rfl,rfl,h1,h2,rfl,rfl,rfl,rfl,rfl,rfl,rfl,rfl⟩:=hI
  obtain⟨l1,l2⟩:=kD b.ops kp' i.toNat
  have rl:(List.replicate b.ops.length (0:Int)).length=b.ops.length:=List.length_replicate
  have ln:=BR (l:=List.replicate b.ops.length (0:Int)) l1 (by omega)
  have ms:=fun(q:Int) (h:i<b.ops.length)=>BQ (x:=q) (l:=List.replicate b.ops.length (0:Int)) l1 (by omega)
  have fin:¬i<b.ops.length→kpS b.ops kp' i.toNat=kpS b.ops kp' b.ops.length:=fun h=>by rw [show i.toNat=b.ops.length by omega]
  have nx:kpS b.ops kp' (i+1).toNat=((kpS b.ops kp' i.toNat).1++ [((kpS b.ops kp' i.toNat).2.length:Int)],if kp'.getD i.toNat default=true then(kpS b.ops kp' i.toNat).2++ [((b.ops).getD (i).toNat default)]else(kpS b.ops kp' i.toNat).2):=by rw [show(i+1).toNat=i.toNat+1 by omega];rfl
  have kb:eO b kp'=JZ (kpS b.ops kp' b.ops.length).1 b (kpS b.ops kp' b.ops.length).2:=rfl
  have en:=ok.en
  by_cases c:i<b.ops.length
  · have ms:=fun q=>ms q c
    generalize hT:kpS b.ops kp' (i+1).toNat=T at*
    generalize kpS b.ops kp' i.toNat=S at*
    simp (disch:=omega) only [RR,RB,ln,ms,c,List.length_append,List.length_cons,List.length_nil,Gj]
    rw [hT,nx,rl,show(i+1).toNat=i.toNat+1 by omega]
    refine⟨h1,h1,c,h1,c,h1,by omega,fun d=>⟨by omega,⟨by omega,by omega,?_⟩,by omega⟩,fun d=>⟨⟨by omega,by omega,?_⟩,by omega⟩⟩
    · rw [if_pos d]
    · rw [d,if_neg (by decide)]
  · have e:=fin c
    have z:(kpS b.ops kp' i.toNat).1++(List.replicate b.ops.length (0:Int)).drop i.toNat=(kpS b.ops kp' b.ops.length).1:=by
      rw [List.drop_of_length_le (by rw [rl];omega),List.append_nil,e]
    have R:abA (kpS b.ops kp' b.ops.length).1 b.fin b.x b.y (kpS b.ops kp' b.ops.length).2:=by
      obtain⟨q1,q2⟩:=kD b.ops kp' b.ops.length
      refine⟨fun m m0 m1=> ?_,fun d=> ?_,fun d=> ?_,by omega⟩
      · obtain⟨j,j1,j2,j3⟩:=J4 b.ops kp' (n:=b.ops.length) (m:=m.toNat) (by omega)
        have a:=(Aj b.ops kp' j1 j2).2
        rw [j3]at a
        rw [a,q1]
        have o:=ok.op j (by omega) (by omega)
        rw [show(j:Int).toNat=j from rfl]at o
        exact⟨fun d=>⟨(o.x1 d).1,by have:=(o.x1 d).2.1;omega⟩,fun d=>⟨(o.y1 d).1,by have:=(o.y1 d).2.1;omega⟩⟩
      · rw [q1];exact⟨(en.x1 d).1,(en.x1 d).2.1⟩
      · rw [q1];exact⟨(en.y1 d).1,(en.y1 d).2.1⟩
    rw [z,e,kb]
    generalize kpS b.ops kp' b.ops.length=N at*
    simp (disch:=omega) only [RR,RB,c,hp1 N.1 b.pc b.len b.fin b.x b.y b.k N.2 R,hf1 N.1 b.pc b.len b.fin b.x b.y b.k N.2 R]
    rfl
end Go.TX.F
namespace Go.TX.F
open Go Go.AE Go.TX
end Go.TX.F
namespace Go.TX.F
open Go Go.AE Go.TX
theorem abB (j:Nat) (D:List Bool) (v:Bool):(List.replicate (j+1) false++D).set j v=List.replicate j false++v::D:=by
  rw [List.replicate_succ',List.append_assoc,List.set_append_right _ _ (by rw [List.length_replicate];exact Nat.le_refl _),List.length_replicate,Nat.sub_self];rfl
theorem Zl (j:Nat) (D:List Bool) (u v:Bool):(List.replicate j false++u::D).set j v=List.replicate j false++v::D:=by
  rw [List.set_append_right _ _ (by rw [List.length_replicate];exact Nat.le_refl _),List.length_replicate,Nat.sub_self];rfl
theorem anL {p1:Blk×List Bool×Unit→Bool} {f1:Blk×List Bool×Unit→Int×Int×Int×Int×Int×Int×List IOp×Unit} (hp1:∀b kp,bV b→kp.length=b.ops.length→p1 (b,kp,())=true) (hf1:∀b kp,bV b→kp.length=b.ops.length→f1 (b,kp,())=bk7 (eO b kp)) {p2:Blk×Unit→Bool} {f2:Blk×Unit→Bool×Unit} (hp2:∀b,b.ops.length<1000000000→p2 (b,())=true) (hf2:∀b,b.ops.length<1000000000→f2 (b,())=(bp (bV b),())) (b:Blk) (hb:b.ops.length<1000000):YD (std 0) p1 f1 p2 f2 (b,()) (fun y=>y=(cB b,())):=by
  dsimp only [YD,Alg.cl,Alg.cg,Alg.rb,Alg.bd,Alg.l1,Tup.q,Tup.o]
  simp (disch:=omega) only [RR,RB,hp2 b (by omega),hf2 b (by omega),Int.toNat_natCast]
  refine⟨fun h=>by unfold cB;rw [h,if_neg (by decide)];rfl,fun h=> ?_⟩
  have ok:=bS.1 h
  rw [nZ ok]
  have n48:=ok.sz
  have kl:(bK b.ops).length=b.ops.length:=by unfold bK;rw [List.length_map,List.length_range]
  refine⟨by omega,by omega,by omega,by omega,ay (fun(y:Int×Blk×Int×Int×Int×Int×Int×Int×List Bool×List Bool×Unit)=> -1≤y.1∧y.1<b.ops.length∧y.2.1=b∧y.2.2.2.2.2.2.2.2.1=List.replicate (y.1+1).toNat false++(bK b.ops).drop (y.1+1).toNat∧y.2.2.2.2.2.2.2.2.2.1.length=4∧∀r:Int,0≤r→r≤3→((y.2.2.2.2.2.2.2.2.2.1).getD (r).toNat default)=fD (b.ops.drop (y.1+1).toNat) r) (fun y=>(y.1+1).toNat) ⟨by dsimp only;omega,by dsimp only;omega,rfl,?_,rfl,fun r r0 r3=> ?_⟩ ?_⟩
  · dsimp only
    rw [show((b.ops.length:Int)-1+1).toNat=b.ops.length by omega,List.drop_of_length_le (by omega),List.append_nil]
  · dsimp only
    rw [show((b.ops.length:Int)-1+1).toNat=b.ops.length by omega,List.drop_of_length_le (by omega)]
    rcases(by omega:r=0∨r=1∨r=2∨r=3)with h | h | h | h<;>subst h<;>rfl
  rintro⟨(j:Int),(b':Blk),u1,u2,u3,u4,u5,u6,(kp:List Bool),(ag:List Bool),⟨⟩⟩ hI
  dsimp only at hI ⊢
  obtain⟨h1,h2,rfl,rfl,h4,h5⟩:=hI
  by_cases c:0≤j
  · have o:=ok.op j c h2
    have e1:(j+1).toNat=j.toNat+1:=by omega
    have kd:bK b'.ops=bK b'.ops:=rfl
    have dk:(bK b'.ops).drop j.toNat=(!(decide ((((b'.ops).getD (j).toNat default)).kind=8)&&fD (b'.ops.drop (j.toNat+1)) (((b'.ops).getD (j).toNat default)).k))::(bK b'.ops).drop (j.toNat+1):=by
      rw [List.drop_eq_getElem_cons (show j.toNat< (bK b'.ops).length by omega),←getD_lt (d:=default) (show j.toNat< (bK b'.ops).length by omega),kg (by omega)]
    have dl:∀r,fD (b'.ops.drop j.toNat) r=if(((b'.ops).getD (j).toNat default)).kind=4∨(((b'.ops).getD (j).toNat default)).kind=5∨(((b'.ops).getD (j).toNat default)).kind=2∧(((b'.ops).getD (j).toNat default)).k=r then false else if(((b'.ops).getD (j).toNat default)).kind=8∧(((b'.ops).getD (j).toNat default)).k=r then true else fD (b'.ops.drop (j.toNat+1)) r:=fun r=>by
      rw [List.drop_eq_getElem_cons (show j.toNat<b'.ops.length by omega),nG,←getD_lt (d:=default) (show j.toNat<b'.ops.length by omega)]
    rw [e1]at h5 ⊢
    have k2:=o.k2
    have ln1:∀v:Bool,(List.replicate j.toNat false++v::(bK b'.ops).drop (j.toNat+1)).length=b'.ops.length:=fun v=>by rw [List.length_append,List.length_replicate,List.length_cons,List.length_drop];omega
    have ln0:(List.replicate (j.toNat+1) false++(bK b'.ops).drop (j.toNat+1)).length=b'.ops.length:=by rw [List.length_append,List.length_replicate,List.length_drop];omega
    generalize hq:((b'.ops).getD (j).toNat default)=q at*
    simp (disch:=omega) only [RR,RB,ln0,ln1,abB,Zl,h4,hq,c,eq_true c,List.length_set]
    simp only [Int.sub_add_cancel]
    have K:∀v,v=(!(decide (q.kind=8)&&fD (b'.ops.drop (j.toNat+1)) q.k))→List.replicate j.toNat false++v::(bK b'.ops).drop (j.toNat+1)=List.replicate j.toNat false++(bK b'.ops).drop j.toNat:=fun v e=>by rw [dk,e]
    have fr:∀r:Int,0≤r→r≤3→(((List.replicate 4 false)).getD (r).toNat default)=false:=fun r r0 r3=>by
      rcases(by omega:r=0∨r=1∨r=2∨r=3)with h | h | h | h<;>subst h<;>rfl
    have kk:=fun g=>k2 g
    refine⟨h2,h2,h2,fun e8=> ?_,fun e8=>⟨fun e2=> ?_,fun e2=> ?_⟩⟩
    · have kk:=k2 (Or.inr e8)
      refine⟨kk.1,by omega,kk.1,by omega,h2,h2,kk.1,by omega,kk.1,by omega,⟨by omega,by omega,K _ ?_,fun r r0 r3=> ?_⟩,by omega⟩
      · rw [h5 _ kk.1 kk.2,decide_eq_true e8,Bool.true_and]
      · rw [dl,nD r0 kk.1 (by omega)]
        by_cases g:r=q.k
        · rw [if_pos g,if_neg (by omega),if_pos ⟨e8,g.symm⟩]
        · rw [if_neg g,h5 r r0 r3,if_neg (by omega),if_neg (fun q=>g q.2.symm)]
    · have kk:=k2 (Or.inl e2)
      refine⟨kk.1,by omega,kk.1,by omega,⟨by omega,by omega,K _ ?_,fun r r0 r3=> ?_⟩,by omega⟩
      · rw [decide_eq_false e8,Bool.false_and];rfl
      · rw [dl,nD r0 kk.1 (by omega)]
        by_cases g:r=q.k
        · rw [if_pos g,if_pos (by omega)]
        · rw [if_neg g,h5 r r0 r3,if_neg (by omega),if_neg (fun q=>e8 q.1)]
    · have kv:=K true (by rw [decide_eq_false e8,Bool.false_and];rfl)
      have A45:q.kind=4∨q.kind=5→∀r:Int,0≤r→r≤3→(((List.replicate 4 false)).getD (r).toNat default)=fD (b'.ops.drop j.toNat) r:=fun g r r0 r3=>by rw [fr r r0 r3,dl,if_pos (by omega)]
      have An:¬q.kind=4→¬q.kind=5→∀r:Int,0≤r→r≤3→((ag).getD (r).toNat default)=fD (b'.ops.drop j.toNat) r:=fun g4 g5 r r0 r3=>by rw [h5 r r0 r3,dl,if_neg (by omega),if_neg (fun q=>e8 q.1)]
      refine⟨fun e4=>⟨fun _=>⟨⟨by omega,by omega,kv,rfl,A45 (Or.inl e4)⟩,by omega⟩,fun g=>absurd e4 g⟩,fun e4=>⟨fun e5=>⟨⟨by omega,by omega,kv,rfl,A45 (Or.inr e5)⟩,by omega⟩,fun e5=>⟨⟨by omega,by omega,kv,An e4 e5⟩,by omega⟩⟩⟩
  · have z:(j+1).toNat=0:=by omega
    rw [z]
    have R:List.replicate 0 false++(bK b'.ops).drop 0=bK b'.ops:=rfl
    rw [R]
    simp (disch:=omega) only [RR,RB,c,eq_false c,hp1 _ _ ok kl,hf1 _ _ ok kl]
    rfl
theorem aco (a b:Blk) (ha:a.ops.length<1000000000):YA (std 0) (a,b,()) (fun y=>y=(bp (a=b),())):=by
  dsimp only [YA,Alg.cl,Alg.cg,Alg.rb,Alg.bd,Alg.l1,Tup.q,Tup.o]
  simp (disch:=omega) only [RR,RB]
  refine⟨fun h=> ?_,fun h=> ?_⟩
  · rw [gZ];rintro rfl;simp at h
  have hl:a.ops.length=b.ops.length:=by omega
  refine ay (fun(y:Int×Blk×Blk×Unit)=>y.2.1=a∧y.2.2.1=b∧0≤y.1∧y.1≤a.ops.length∧All y.1 (fun i=>a.ops.getD i.toNat default=b.ops.getD i.toNat default)) (fun y=>(a.ops.length-y.1).toNat) ⟨rfl,rfl,by simp,by simp,All.zero⟩ ?_
  rintro⟨(i:Int),(a':Blk),(b':Blk),⟨⟩⟩ hI
  dsimp only at hI ⊢
  obtain⟨rfl,rfl,h1,h2,h3⟩:=hI
  simp (disch:=omega) only [RR,RB,acn]
  refine⟨fun h4=>⟨by omega,by omega,by omega,by omega,fun h5=> ?_,fun h5=>⟨⟨by omega,by omega,h3.snoc h5⟩,by omega⟩⟩,fun h4=> ?_⟩
  · rw [gZ];rintro rfl;exact h5 rfl
  · have e:=yZ hl (h3.le (by omega))
    rw [dH]
    cases a';cases b';simp_all
end Go.TX.F
namespace Go.TX.F
open Go Go.AE Go.TX
theorem ahz {p1:List Int×Unit→Bool} {f1:List Int×Unit→List Int×Int×Unit} (hp1:∀b,By b→b.length<1000000000→p1 (b,())=true) (hf1:∀b,By b→b.length<1000000000→Bt (f1 (b,())).1∧(f1 (b,())).2.1=0) {p2:Int×List Int×Int×Unit→Bool} {f2:Int×List Int×Int×Unit→Blk×List Int×Int×Unit} (hp2:∀n b p,Bt b→0≤p→p<500000000→p2 (n,b,p,())=true) (hf2:∀n b p,Bt b→0≤p→p<500000000→BoD b p (f2 (n,b,p,()))) (c:List Int) (hc:By c) (hl:c.length<1000000000):Rh (std 0) p1 f1 p2 f2 (c,()) (fun y=>y.1.ops.length<100000):=by
  obtain⟨hb,e0⟩:=hf1 c hc hl
  generalize hbe:(f1 (c,())).1=b at hb
  dsimp only [Rh,Alg.cl,Alg.cg,Alg.rb,Alg.bd,Alg.l1,Tup.q,Tup.o]
  simp (disch:=omega) only [RR,hp1 c hc hl,hbe,e0,hp2 12 b 0 hb (by omega) (by omega)]
  exact(hf2 12 b 0 hb (by omega) (by omega)).1
theorem anM {p1:Blk×Blk×Unit→Bool} {f1:Blk×Blk×Unit→Bool×Unit} (hp1:∀b c,b.ops.length<1000000000→c.ops.length<1000000000→p1 (b,c,())=true) (hf1:∀b c,b.ops.length<1000000000→c.ops.length<1000000000→f1 (b,c,())=(chk b c,())) {p2:Blk×Unit→Bool} {f2:Blk×Unit→Blk×Unit} (hp2:∀b,b.ops.length<1000000→p2 (b,())=true) (hf2:∀b,b.ops.length<1000000→f2 (b,())=(cB b,())) {p3:Blk×Blk×Unit→Bool} {f3:Blk×Blk×Unit→Bool×Unit} (hp3:∀a b,a.ops.length<1000000000→p3 (a,b,())=true) (hf3:∀a b,a.ops.length<1000000000→f3 (a,b,())=(bp (a=b),())) {p4:Unit→Bool} {f4:Unit→Bool×Unit} (hp4:p4 ()=true) (hf4:f4 ()=(true,())) {p5:List Int×Unit→Bool} {f5:List Int×Unit→Blk×Unit} (hp5:∀c,By c→c.length<1000000000→p5 (c,())=true) (hf5:∀c,By c→c.length<1000000000→(f5 (c,())).1.ops.length<100000) {p6:Blk×Unit→Bool} {f6:Blk×Unit→Bool×Unit} (hp6:∀b,b.ops.length<1000000000→p6 (b,())=true) (hf6:∀b,b.ops.length<1000000000→f6 (b,())=(bp (bV b),())) {p7:Blk×Unit→Bool} {f7:Blk×Unit→Int×Int×Int×Int×Int×Int×List IOp×Unit} (hp7:∀b,b.ops.length<1000000→p7 (b,())=true) (hf7:∀b,b.ops.length<1000000→f7 (b,())=bk7 (cB b)) (c:List Int) (hc:By c):YE (std 0) p1 f1 p2 f2 p3 f3 p4 f4 p5 f5 p6 f6 p7 f7 (c,()) (fun y=>y=(true,())):=by
  dsimp only [YE,Alg.cl,Alg.cg,Alg.rb,Alg.bd,Alg.l1,Tup.q,Tup.o]
  simp (disch:=omega) only [RR]
  by_cases hl:1048576< (c.length:Int)
  · simp (disch:=omega) only [RR,hl]
  · have D:=hf5 c hc (by omega)
    have P:=hp5 c hc (by omega)
    generalize (f5 (c,())).1=b at D ⊢
    have le:=xW b
    have b1:b.ops.length<1000000:=by omega
    have b2:(cB b).ops.length<1000000:=by omega
    have mE:∀c:Blk,Co.mk .blk (c.pc,c.len,c.ops,c.fin,c.x,c.y,c.k,())=c:=fun _=>rfl
    simp (disch:=omega) only [RR,hl,P,RB,hp2 b b1,hf2 b b1,hp7 b b1,hf7 b b1,mE,hp3 _ (cB b) (show(cB b).ops.length<1000000000 by omega),hf3 _ (cB b) (show(cB b).ops.length<1000000000 by omega),dH True.intro,hp6 b (by omega),hf6 b (by omega),hp4,hf4]
    refine⟨fun h=>by rw [(agZ (rM.1 h)).2.2.2];rfl,fun h=> ?_⟩
    have ok:=bS.1 h
    have lk:=Gz ok
    have own:=fun {i:Nat}=>NZ (b:=b) (i:=i)
    rw [←nZ ok]at own
    have tw:=G6 ok
    have xo:=lk.oc
    generalize cB b=x at*
    refine ay (fun(y:Int×Blk×Blk×List Bool×Unit)=>0≤y.1∧y.1≤x.ops.length∧y.2.1=b∧y.2.2.1=x∧y.2.2.2.1.length=4∧∀r:Int,0≤r→r≤3→((y.2.2.2.1).getD (r).toNat default)=true→fD (x.ops.drop y.1.toNat) r=false) (fun y=>(x.ops.length-y.1).toNat) ⟨by simp,by simp,rfl,rfl,rfl,fun r r0 r3 g=> ?_⟩ ?_
    · exfalso
      rcases(by omega:r=0∨r=1∨r=2∨r=3)with h | h | h | h<;>subst h<;>cases g
    rintro⟨(i:Int),(b':Blk),(x':Blk),(op:List Bool),⟨⟩⟩ hI
    dsimp only at hI ⊢
    obtain⟨i0,i1,rfl,rfl,h4,h5⟩:=hI
    by_cases g:i<x'.ops.length
    · have o:=xo.op i i0 g
      have own:=own (i:=i.toNat) (by omega)
      have dl:∀r,fD (x'.ops.drop i.toNat) r=if(((x'.ops).getD (i).toNat default)).kind=4∨(((x'.ops).getD (i).toNat default)).kind=5∨(((x'.ops).getD (i).toNat default)).kind=2∧(((x'.ops).getD (i).toNat default)).k=r then false else if(((x'.ops).getD (i).toNat default)).kind=8∧(((x'.ops).getD (i).toNat default)).k=r then true else fD (x'.ops.drop (i.toNat+1)) r:=fun r=>by
        rw [List.drop_eq_getElem_cons (show i.toNat<x'.ops.length by omega),nG,←getD_lt (d:=default) (show i.toNat<x'.ops.length by omega)]
      have k2:=o.k2
      have kd:=o.kd
      have e1:(i+1).toNat=i.toNat+1:=by omega
      generalize hq:((x'.ops).getD (i).toNat default)=q at*
      have X:∀A:List Bool,(∀r:Int,0≤r→r≤3→((A).getD (r).toNat default)=true→fD (x'.ops.drop (i.toNat+1)) r=false)→((0≤i+1∧i+1≤x'.ops.length∧∀r:Int,0≤r→r≤3→((A).getD (r).toNat default)=true→fD (x'.ops.drop (i+1).toNat) r=false)∧(x'.ops.length- (i+1)).toNat< (x'.ops.length-i).toNat):=fun A h=>⟨⟨by omega,by omega,by rw [e1];exact h⟩,by omega⟩
      by_cases k45:q.kind=4∨q.kind=5
      · simp (disch:=omega) only [RR,RB,g,h4,hq,eq_true k45,show¬q.kind=2 by omega,show¬q.kind=8 by omega]
        refine⟨i0,⟨⟨by omega,by omega,rfl,?_⟩,by omega⟩,fun g=>absurd k45 (by omega)⟩
        rw [e1]
        intro r r0 r3 h
        exfalso
        rcases(by omega:r=0∨r=1∨r=2∨r=3)with h' | h' | h' | h'<;>subst h'<;>cases h
      · by_cases k2':q.kind=2
        · have kk:=k2 (Or.inl k2')
          simp (disch:=omega) only [RR,RB,g,h4,hq,show¬q.kind=4 by omega,show¬q.kind=5 by omega,eq_true k2',show¬q.kind=8 by omega,List.length_set,or_self]
          refine⟨i0,kk.1,by omega,kk.1,by omega,X _ fun r r0 r3 h=> ?_⟩
          rw [nD r0 kk.1 (by omega)]at h
          by_cases e:r=q.k
          · rw [if_pos e]at h;cases h
          · rw [if_neg e]at h
            have:=h5 r r0 r3 h
            rw [dl,if_neg (by omega),if_neg (by omega)]at this;exact this
        · by_cases k8:q.kind=8
          · have kk:=k2 (Or.inr k8)
            have nt:((op).getD (q.k).toNat default)=false:=by
              by_cases t:((op).getD (q.k).toNat default)=true
              · have:=h5 q.k kk.1 kk.2 t
                rw [dl,if_neg (by omega),if_pos ⟨k8,rfl⟩]at this;cases this
              · simpa using t
            simp (disch:=omega) only [RR,RB,g,h4,hq,show¬q.kind=4 by omega,show¬q.kind=5 by omega,k2',eq_true k8,List.length_set,or_self,nt]
            refine⟨i0,kk.1,by omega,kk.1,by omega,kk.1,by omega,kk.1,by omega,X _ fun r r0 r3 h=> ?_⟩
            rw [nD r0 kk.1 (by omega)]at h
            by_cases e:r=q.k
            · rw [e];exact own k8
            · rw [if_neg e]at h
              have:=h5 r r0 r3 h
              rw [dl,if_neg (by omega),if_neg (by omega)]at this;exact this
          · simp (disch:=omega) only [RR,RB,g,h4,hq,show¬q.kind=4 by omega,show¬q.kind=5 by omega,k2',k8,List.length_set,or_self]
            refine⟨i0,X _ fun r r0 r3 h=> ?_⟩
            have:=h5 r r0 r3 h
            rw [dl,if_neg (by omega),if_neg (by omega)]at this;exact this
    · simp (disch:=omega) only [RR,RB,g,hp1 b' x' (by omega) (by omega),hf1 b' x' (by omega) (by omega),lk.chk,hp2 x' b2,hf2 x' b2,tw,hp3 x' x' (by omega),hf3 x' x' (by omega),dH True.intro]
      rw [decide_eq_true (by omega)];rfl
end Go.TX.F
namespace Go.TX.F
open Go Go.AE Go.TX
def ShC (l:List Cer):Prop:=l.length<1000∧∀q∈l,q.base.ops.length<1000000∧q.made.ops.length<1000000
theorem ShC.at {l:List Cer} (h:ShC l) (i:Nat):(l.getD i default).base.ops.length<1000000∧(l.getD i default).made.ops.length<1000000:=by
  by_cases c:i<l.length
  · rw [getD_lt c];exact h.2 _ (List.getElem_mem _)
  · rw [List.getD_eq_getElem?_getD,List.getElem?_eq_none (by omega)];exact⟨by decide,by decide⟩
theorem ShC.add {l:List Cer} (h:ShC l) (n:l.length<999) {q:Cer} (h1:q.base.ops.length<1000000) (h2:q.made.ops.length<1000000):ShC (l++ [q]):=by
  refine⟨by rw [List.length_append,List.length_singleton];omega,fun c g=> ?_⟩
  rw [List.mem_append,List.mem_singleton]at g
  rcases g with g | rfl
  · exact h.2 c g
  · exact⟨h1,h2⟩
end Go.TX.F
namespace Go.TX
open Go Go.AE
theorem enters_of {P:Program} {f:FuncId} {fn:Func} {c:Code} (hf:P.funcs[f]? =some fn) (hname:(fn.name== "runtime.NumGoroutine")=false) (hb:fn.body=some c):Enters P f:=by
  intro args w
  have h1:fn.name≠ "runtime.NumGoroutine" :=by simpa using hname
  simp [callFunc,hf,h1,hb,mark]
def Um (P:Program):Nat→List Field→Bool
  | _,[]=>true
  | k,f::fs=> !(f.name== "_")&&f.offset==k&& (match P.underlying f.type with | some (.int _)=>true | _=>false)&&Um P (k+1) fs
theorem Un {P:Program} (w:World) (d:Nat) (xs ys:List Int) (hl:xs.length=ys.length):∀(fs:List Field) (k:Nat),Um P k fs=true→k+fs.length=xs.length→
    (Op.eqFields (d+1) (xs.map (Value.int .i64)).toArray (ys.map (Value.int .i64)).toArray fs).run P w= .ok (xs.drop k==ys.drop k) w
  | [],k,_,h2=>by
    rw [List.drop_eq_nil_of_le (show xs.length≤k by simp only [List.length_nil]at h2;omega),List.drop_eq_nil_of_le (show ys.length≤k by simp only [List.length_nil]at h2;omega)]
    simp [Op.eqFields]
  | f::fs,k,h1,h2=>by
    simp only [List.length_cons]at h2
    simp only [Um,Bool.and_eq_true,Bool.not_eq_true',beq_eq_false_iff_ne,beq_iff_eq]at h1
    obtain⟨⟨⟨n1,n2⟩,n3⟩,n4⟩:=h1
    have hk:k<xs.length:=by omega
    have hk':k<ys.length:=by omega
    obtain⟨kd,hu⟩:∃kd,P.underlying f.type=some (.int kd):=by
      cases hu:P.underlying f.type with
      | none=>rw [hu]at n3;cases n3
      | some z=>cases z<;>(first | exact⟨_,rfl⟩ | (rw [hu]at n3;cases n3))
    have pk:P.plainKey f.type=true:=by unfold Program.plainKey;rw [hu]
    have p1:=run_part_plain w pk (xs:=(xs.map (Value.int .i64)).toArray) (off:=f.offset) (v:= .int .i64 xs[k]) (by rw [n2];simp [hk])
    have p2:=run_part_plain w pk (xs:=(ys.map (Value.int .i64)).toArray) (off:=f.offset) (v:= .int .i64 ys[k]) (by rw [n2];simp [hk'])
    have ih:=Un w d xs ys hl fs (k+1) n4 (by omega)
    simp only [Op.eqFields,if_pos n1,Sem.run_bind,p1,p2,Result.andThen_ok,run_equalIn_int w d f.type .i64 kd _ _ hu]
    have e:(xs.drop k==ys.drop k)=((xs[k]==ys[k])&& (xs.drop (k+1)==ys.drop (k+1))):=by rw [List.drop_eq_getElem_cons hk,List.drop_eq_getElem_cons hk'];rfl
    rw [e]
    by_cases c:(xs[k]==ys[k])=true
    · rw [c]
      simp only [Bool.not_true,Bool.false_eq_true,if_false,ih,Bool.true_and]
    · have c2:(xs[k]==ys[k])=false:=by simpa using c
      rw [c2]
      simp only [Bool.not_false,if_true,Sem.run_pure,Bool.false_and]
theorem ahA {P:Program} {t:TypeId} {n:Nat} (hu:P.underlying t=some (.struct (P.fieldsOf t))) (hs:P.stoodInHeld t=false) (hg:P.eqGuardType P.depth t=false) (hf:Um P 0 (P.fieldsOf t).toList=true) (hn:(P.fieldsOf t).size=n) (xs ys:List Int) (hx:xs.length=n) (hy:ys.length=n) (w:World):
    (Op.equal t (.agg (xs.map (Value.int .i64)).toArray) (.agg (ys.map (Value.int .i64)).toArray)).run P w= .ok (xs==ys) w∧
    (eqGuard .eql t (.tmp 0) (.tmp 0) (.agg (xs.map (Value.int .i64)).toArray) (.agg (ys.map (Value.int .i64)).toArray)).run P w= .ok () w:=by
  refine⟨?_,run_eqGuard_agg w _ _ _ _ _ _ hg⟩
  show(Op.equalIn (9999+1) t _ _).run P w=_
  rw [run_equalIn_struct w 9999 t _ _ hu hs,Un w 9998 xs ys (by omega) _ 0 hf (by rw [Array.length_toList];omega)]
  rfl
noncomputable def never (s:Sig):Ct aB s:={pre:=fun _=>false,fn:=fun _=>Classical.choice (tJ _)}
theorem jH {E:Tab} {f:FuncId} {s:Sig} (h:Enters E.P f):cu E f (bX (never s)) where
  enters:=h
  calls:=by
    rintro args hh n K ⟨m,vs,h2,h3,h4,h5,cr,h6,h7,h8⟩
    exfalso
    unfold qQ at h6
    split at h6
    · split at h6
      · split at h6
        · split at h6
          · cases h6
            have:=h7 false (List.mem_append_right _ (List.mem_singleton.2 rfl))
            cases this
          · cases h6
        · cases h6
      · cases h6
    · cases h6
abbrev aqu:Sig:={args:=[.c (.rows true .u8)],objs:=[],res:=[.c .bool],dL:=[]}
def entry (W:World):Ctx:={K:=fun _ b=>b<W.heap.size,μ:=fun _=>none,n:=0}
theorem RH (W:World):bD (entry W) W []:=
  ⟨fun l o h=>(by cases h),fun l o l' o' b h=>(by cases h),fun f b ⟨l,o,h,_⟩=>(by cases h),fun f b h=>h,fun b h=>h⟩
theorem Ob {W W':World} {c':Ctx} {h':Heap} (g:Grow (entry W) W [] c' W' h'):RowKit.Below W.heap.size W W':=
  ⟨g.os,g.tape,g.output,g.size,fun k hk=>g.kept k hk fun⟨l,o,h,_⟩=>by cases h⟩
theorem abC {c:Ctx} {w:World} {v:Value} {r:PV} {N:NM} {b:Bool} (h1:bC c w v r) (h2:PVR N r (.c (.d true (.bool b)))):v= .bool b:=by
  cases h2 with
  | one h=>
    cases h with
    | c h=>
      cases h with
      | d h3 _=>
        subst h3
        cases h1 with
        | c _ _ h4=>cases h4 with
          | d _ _ _ h5=>cases h5;rfl
    | agg h=>cases h
theorem aqv {E:Tab} {f:FuncId} {c:Ct aB aqu} (hc:cu E f (bX c)) {xs:List Int} {W:World} {v:Value} (hv:dJ (fun b=>b<W.heap.size) W v (.rows 1 (aK .u8 xs)))
    (hg:qF E (entry W) W) (hp:c.pre (xs,())=true):Go.Calls E.P f #[v] W fun e W'=>e= .returned (.bool (c.fn (xs,())).1)∧RowKit.Below W.heap.size W W':=by
  refine(hc.calls [.c (.d true (.rows 1 (aK .u8 xs)))] [] 0 (fun r _ _=>PVR (nmh []) r (.c (.d true (.bool (c.fn (xs,())).1)))) ?_ (entry W) W [v] rfl (.cons (.c _ _ (.d true _ _ hv)) .nil) (RH W) hg).mono ?_
  · refine⟨0,[.c (.d true (.rows .u8 xs))],[],.cons (.one (.c (.d rfl fun _=> .inl rfl))) .nil,⟨fun l o h=>(by cases h),fun _ _=>rfl⟩,rfl,_,rfl,?_,_,_,rfl,?_⟩
    · intro b hb
      rcases List.mem_append.1 hb with h | h
      · cases h
      · rw [List.mem_singleton]at h;rw [h];exact hp
    · intro r _ _ h _ _ _;exact h
  · rintro e W' he
    cases e with
    | returned u=>
      obtain⟨c',r,h',j,g,_,_,h1,h2⟩:=he
      exact⟨by rw [abC h1 h2],Ob g⟩
    | outgrown=>exact he.elim
    | panicked _=>exact he.elim
open Go.RowKit Go.ChangeShapes Go.WideShapes Go.ChangeAt in
theorem Zm {H:Type} {enc:TypeId×Value→H} {P:Program} {t e:TypeId} (ht:P.underlying t=some (.slice e)) (he:P.underlying e=some (.int .u8)) (hc:P.cellsOf e=1) {W:World} {base:Nat} {v:Value} {d:DataW H} {p:List MemPlace}
    (hval:Value.okWide P W .any base t v) (h:DataW.Trod enc P W 0 (fun _=>true) true t v d p) (hlt:∀x∈p,x.block<W.heap.size):
    ∃xs:List Int,dJ (fun b=>b<W.heap.size) W v (.rows 1 (aK .u8 xs))∧∀z∈xs,0≤z∧z≤255:=by
  obtain⟨a0,len,cap,rfl⟩:=okWide_slice ht hval
  obtain⟨fuel,hf⟩:=h
  rcases open_ints ht he hc hf with⟨hcs,hx⟩ | ⟨a,len',cap',zs,hcs,_,hl,hm,hz,hx,hcell,hwz⟩
  · simp [Value.cells]at hcs
    obtain⟨rfl,rfl,rfl⟩:=hcs
    exact⟨[],.none _ _ _,fun _ h=>by cases h⟩
  · simp [Value.cells]at hcs
    obtain⟨rfl,rfl,rfl⟩:=hcs
    simp only [Prod.mk.injEq]at hx
    obtain⟨rfl,rfl⟩:=hx
    simp only [if_true]at hz
    have rng:∀z∈zs,0≤z∧z≤255:=fun z hz=>by
      obtain⟨i,hi,rfl⟩:=List.getElem_of_mem hz
      have:=range_u8 hwz i
      rwa [List.getElem?_eq_getElem hi]at this
    refine⟨zs.take len,?_,fun z h=>rng z (List.mem_of_mem_take h)⟩
    by_cases h0:len=0
    · subst h0;exact .none _ _ _
    · obtain⟨b,off,spot⟩:=a
      have hspot:spot=none:=by simpa [Addr.add]using World.cell?_spot (hcell 0 (by omega))
      subst hspot
      have hbW:b<W.heap.size:=hlt (.cell b off) (MemPlace.mem_row.2 ⟨0,by omega,by simp⟩)
      have hlen:(aK .u8 (zs.take len)).length=len:=by simp only [aK,List.length_map,List.length_take];omega
      have hget:∀i,i<len→(aK .u8 (zs.take len)).getD i []=[.int .u8 (zs.getD i 0)]:=fun i hi=>by
        simp only [aK,List.getD,List.getElem?_map,List.getElem?_take_of_lt hi,List.getElem?_eq_getElem (show i<zs.length by omega)]
        rfl
      refine .rows b off cap 1 len _ (fun i j=> .int .u8 (zs.getD i 0)) hbW hlen.symm hl (fun i j hi hj=> ?_) (fun i hi=> ?_) (fun i j hi hj=> ?_)
      · rw [hlen]at hi
        have:=hcell i (by omega)
        rw [add_plain]at this
        rw [show off+i*1+j=off+i by omega]
        exact this
      · rw [hlen]at hi;rw [hget i hi];rfl
      · rw [hlen]at hi
        have hj0:j=0:=by omega
        subst hj0
        unfold gd;rw [hget i hi];exact .int _ _
end Go.TX
namespace Go.TX.Seat
open Go Go.AE Go.TX Go.TX.F Go.Proofs
set_option maxRecDepth 100000
theorem aqw:∀t n,E.ieq t=some n→∀(xs ys:List Int),xs.length=n→ys.length=n→∀w,
    (Op.equal t (.agg (xs.map (Value.int .i64)).toArray) (.agg (ys.map (Value.int .i64)).toArray)).run E.P w= .ok (xs==ys) w∧
    (eqGuard .eql t (.tmp 0) (.tmp 0) (.agg (xs.map (Value.int .i64)).toArray) (.agg (ys.map (Value.int .i64)).toArray)).run E.P w= .ok () w:=by
  intro t n h
  obtain⟨c,hc,rfl⟩:∃c,ieq t=some c∧c.size=n:=by
    have h':(ieq t).map (fun c=>c.size)=some n:=h
    cases hi:ieq t with
    | none=>rw [hi]at h';cases h'
    | some c=>rw [hi]at h';cases h';exact⟨c,rfl,rfl⟩
  unfold ieq at hc
  split at hc
  all_goals first | (cases hc;exact ahA (by kernel_rfl) (by kernel_rfl) (by kernel_rfl) (by kernel_rfl) (by kernel_rfl)) | cases hc
theorem hE:aH E:=⟨aqf,aqw⟩
theorem aqx:∀t c,X.ieq t=some c→(c= .ins∧E.ieq t=some 4)∨(c= .iop∧E.ieq t=some 5):=by
  intro t c h
  have h:ieq t=some c:=h
  have e:E.ieq t=(ieq t).map fun c=>c.size:=rfl
  rw [e,h]
  unfold ieq at h
  split at h
  all_goals first | (cases h;first | exact Or.inl ⟨rfl,rfl⟩ | exact Or.inr ⟨rfl,rfl⟩) | cases h
theorem xok:XOK X E:=⟨rfl,fun g c h=>(by cases h),aqx⟩
theorem hm:E.P.follows .mixedOrders=true:=by kernel_rfl
theorem hlN:∀p∈([]:List (FuncId×Sigma (Ct aB))),cu E p.1 (bX p.2.2):=fun _ h=>by cases h
theorem hlC {f:FuncId} {s:Sig} {c:Ct aB s} {l:List (FuncId×Sigma (Ct aB))} (h:cu E f (bX c)) (r:∀p∈l,cu E p.1 (bX p.2.2)):∀p∈(f,⟨s,c⟩)::l,cu E p.1 (bX p.2.2):=fun p hp=>by
  rcases List.mem_cons.1 hp with rfl | hp
  · exact h
  · exact r p hp
@[reducible] def _root_.Go.TX.Fn.c {E : Tab} {f : FuncId} {s : Sig} {F : gU s.inp → (gU s.out → Prop) → Prop} {c : Ct aB s} (_ : Fn E f F c) : Ct aB s := c
theorem mk {lk:aF} {f:FuncId} {fn:Func} (hf:E.P.funcs[f]? =some fn) {l:List (FuncId×Sigma (Ct aB))} (hl:∀p∈l,cu E p.1 (bX p.2.2)) {ord:List (Nat×List fG)} {s:Sig} {an:Ann}
    {F:gU s.inp→(gU s.out→Prop)→Prop} (h:Ru X E (std 0) ord an s fn l F) (hb:fn.body.isSome=true:=by rfl) (hn:(fn.name== "runtime.NumGoroutine")=false:=by kernel_rfl):Fn E f F (cn F):=apC hE xok hm hf hb (fun _=>enters_of hf hn) hl h
theorem Zn {E:Tab} {f:FuncId} {c:Ct aB {args:=[.c (.int .u64)],objs:=[],res:=[.c (.int .i64)],dL:=[]}} {g:Int→Int} (hent:Enters E.P f) (hg:(fun x:Int=>(c.fn (x,())).1)=g)
    (h:∀(x:Int) (w:World),c.pre (x,())=true→Go.Calls E.P f #[.int .u64 x] w fun e w'=>e= .returned (.int .i64 (g x))∧w'=w):cu E f (bX c) where
  enters:=hent
  calls:=by
    rintro args hh n K ⟨m,qs,hs,hargs,HR,hlen,cr,hcall,aaZ,v,kT,hvk,hK⟩ c1 w vs hcn qo Hh Gl
    have key:∀f0 (x:Int),qs=[.c (.d f0 (.int .u64 x))]→qQ (std m) hs {args:=[.c (.int .u64)],objs:=[],res:=[.c (.int .i64)],dL:=[]} c qs=some {ck:=[c.pre (x,())],ts:=[.i],y:=c.fn (x,()),touched:=[],pure:=true,k:=fun y=>some (.c (.d true (.int .i64 y.1)),hs)}:=by
      intro f0 x e;subst e;rfl
    have hq:∃f0 x,qs=[.c (.d f0 (.int .u64 x))]:=by
      unfold qQ at hcall
      cases qs with
      | nil=>simp [nQ]at hcall
      | cons q r=>
        cases r with
        | cons q2 r2=>
          exfalso
          simp only [nQ]at hcall
          cases hx:GY (std m) hs (.c (.int .u64)) q (es0 (std m) 0 [])with
          | none=>rw [hx]at hcall;simp at hcall
          | some s=>rw [hx]at hcall;simp [nQ]at hcall
        | nil=>
          simp only [nQ]at hcall
          cases q with
          | c y=>
            simp only [GY,extC]at hcall
            cases y with
            | d f0 y=>
              cases y with
              | int k x=>
                by_cases hk:IntKind.u64=k
                · subst hk;exact⟨f0,x,rfl⟩
                · simp [hk]at hcall
              | _=>simp at hcall
            | _=>simp at hcall
          | _=>simp [GY]at hcall
    obtain⟨f0,x,rfl⟩:=hq
    rw [key f0 x rfl]at hcall
    simp only [Option.some.injEq]at hcall
    subst hcall
    simp only [Option.some.injEq,Prod.mk.injEq]at hvk
    obtain⟨rfl,rfl⟩:=hvk
    have hpre:=aaZ _ (List.mem_singleton.2 rfl)
    have hv:vs=[.int .u64 x]:=by
      cases hargs with
      | cons h1 h2=>
        cases h2
        cases qo with
        | cons h3 h4=>
          cases h4
          cases h1 with
          | one h1=>
            cases h1 with
            | c h1=>
              cases h1 with
              | d h5 _=>
                subst h5
                cases h3 with
                | c _ _ h6=>cases h6 with
                  | d _ _ _ h7=>cases h7;rfl
            | agg h1=>cases h1
    subst hv
    refine(h x w hpre).mono ?_
    rintro e w' ⟨rfl,rfl⟩
    refine⟨c1,.c (.d true (.int .i64 (g x))),hh,0,.refl _ _ _,Hh,hcn,.c _ _ (.d _ _ _ (.int _ _)),hK _ _ _ ?_ HR (.refl _ _ _) hlen⟩
    rw [←hg]
    exact .one (.c (.d rfl fun _=> .inl rfl))
end Go.TX.Seat
namespace Go.TX.F
open Go Go.AE Go.TX Go.TX.Seat Go.Proofs
set_option maxRecDepth 100000
def J7:=mk Tryz.func59 hlN (afl (std 0))
noncomputable def Gg:=J7.c
def ahB:=fun b hb hl=>(J7.cs (Y0 b hb hl)).1
def ahC:=fun b hb hl=>(J7.cs (Y0 b hb hl)).2
def pI:=mk Tryz.func61 hlN (afm (std 0))
noncomputable def bN:=pI.c
def xZ:=fun n b p hb h1 h2=>(pI.cs (Y1 n b p hb h1 h2)).1
def yc:=fun n b p hb h1 h2=>(pI.cs (Y1 n b p hb h1 h2)).2
def pJ:=mk Tryz.func89 hlN (afn (std 0))
noncomputable def bO:=pJ.c
def uL:=fun a b c=>(pJ.cs (YR a b c)).1
def uM:=fun a b c=>(pJ.cs (YR a b c)).2
def RJ:=mk Tryz.func158 (hlC pI.ok hlN) (afo (std 0) bN)
noncomputable def FW:=RJ.c
def qz:=fun n b p hb h1 h2=>RJ.cs (agT xZ yc n b p hb h1 h2)
def ahD:=fun n b p hb h1 h2=>(qz n b p hb h1 h2).1
def ahE:=fun n b p hb h1 h2=>(qz n b p hb h1 h2).2
def J8:=mk Tryz.func170 hlN (afp (std 0))
noncomputable def Fh:=J8.c
def ahF:=fun a=>(J8.cs (YU a)).1
def ahG:=fun a=>(J8.cs (YU a)).2
def Al:=mk Tryz.func156 hlN (afq (std 0))
noncomputable def jc:=Al.c
def RL:=fun a=>(Al.cs (YS a)).1
def RN:=fun a=>(Al.cs (YS a)).2
def RO:=mk Tryz.func192 (hlC pJ.ok hlN) (afr (std 0) bO)
noncomputable def Fb:=RO.c
def uN:=fun k=>RO.cs (ag0 uL uM k)
def ahH:=fun k=>(uN k).1
def ahI:=fun k=>(uN k).2
def J9:=mk Tryz.func157 (hlC RO.ok hlN) (afs (std 0) Fb)
noncomputable def oQ:=J9.c
def zi:=fun ops x n h1=>J9.cs (ag1 ahH ahI ops x n h1)
def Zo:=fun ops x n h1=>(zi ops x n h1).1
def Zp:=fun ops x n h1=>(zi ops x n h1).2
def RP:=mk Tryz.func90 (hlC Al.ok (hlC pJ.ok (hlC J9.ok hlN))) (aft (std 0) jc bO oQ)
noncomputable def Fg:=RP.c
def Bp:=fun ops i len h0 h1 h3=>RP.cs (ag2 RL RN uL uM Zo Zp ops i len h0 h1 h3)
def ahJ:=fun ops i len h0 h1 h3=>(Bp ops i len h0 h1 h3).1
def ahK:=fun ops i len h0 h1 h3=>(Bp ops i len h0 h1 h3).2
def RQ:=mk Tryz.func91 (hlC Al.ok (hlC J9.ok hlN)) (afu (std 0) jc oQ)
noncomputable def Fe:=RQ.c
def zk:=fun b=>RQ.cs (ag3 RL RN Zo Zp b)
def ahL:=fun b=>(zk b).1
def ahM:=fun b=>(zk b).2
def uO:=mk Tryz.func30 (hlC pJ.ok (hlC RQ.ok (hlC RP.ok hlN))) (afv (std 0) bO Fe Fg)
noncomputable def dx:=uO.c
def Bq:=fun b h2=>uO.cs (ag4 uL uM ahL ahM ahJ ahK b h2)
def Am:=fun b h2=>(Bq b h2).1
def Ao:=fun b h2=>(Bq b h2).2
def RS:=mk Tryz.func115 (hlC J8.ok (hlC Al.ok hlN)) (afw (std 0) Fh jc)
noncomputable def Fp:=RS.c
def zl:=fun op a b=>RS.cs (agR RL RN ahF ahG op a b)
def ahN:=fun op a b=>(zl op a b).1
def ahO:=fun op a b=>(zl op a b).2
def Ap:=mk Tryz.func113 hlN (afx (std 0))
noncomputable def jd:=Ap.c
def RU:=fun b hb=>(Ap.cs (Ze b hb)).1
def RV:=fun b hb=>(Ap.cs (Ze b hb)).2
def GA:=mk Tryz.func125 (hlC pJ.ok hlN) (afy (std 0) bO)
noncomputable def oU:=GA.c
def Zq:=fun o al hk hx hy=>(GA.cs (Zh uL uM o al hk hx hy)).1
def Zr:=fun o al hk hx hy=>(GA.cs (Zh uL uM o al hk hx hy)).2
def Ka:=mk Tryz.func54 (hlC uO.ok (hlC GA.ok (hlC Ap.ok hlN))) (afz (std 0) dx oU jd)
noncomputable def oZ:=Ka.c
def uP:=fun b hb=>Ka.cs (aht Am Ao Zq Zr RU RV b hb)
def Zt:=fun b hb=>(uP b hb).1
def Zu:=fun b hb=>(uP b hb).2
def GD:=mk Tryz.func114 hlN (afA (std 0))
noncomputable def oV:=GD.c
def Zv:=fun ops k=>(GD.cs (Zf ops k)).1
def Zw:=fun ops k=>(GD.cs (Zf ops k)).2
def Kc:=mk Tryz.func171 hlN (afB (std 0))
noncomputable def Fj:=Kc.c
def ahP:=fun b k=>(Kc.cs (Zg b k)).1
def ahQ:=fun b k=>(Kc.cs (Zg b k)).2
def RX:=mk Tryz.func116 (hlC Kc.ok (hlC GD.ok hlN)) (afC (std 0) Fj oV)
noncomputable def Fq:=RX.c
def uQ:=fun b h=>RX.cs (ahk ahP ahQ Zv Zw b h)
def ahR:=fun b h=>(uQ b h).1
def ahS:=fun b h=>(uQ b h).2
end Go.TX.F
namespace Go.TX.F
open Go Go.AE Go.TX Go.TX.Seat Go.Proofs
set_option maxRecDepth 100000
def RY:=mk Tryz.func42 (hlC uO.ok (hlC RS.ok (hlC RX.ok (hlC GD.ok (hlC Ap.ok hlN))))) (afD (std 0) dx Fp Fq oV jd)
noncomputable def Fw:=RY.c
def rP:=fun b hb=>RY.cs (ahn Am Ao ahN ahO ahR ahS Zv Zw RU RV b hb)
def ahT:=fun b hb=>(rP b hb).1
def ahU:=fun b hb=>(rP b hb).2
def Ke:=mk Tryz.func118 hlN (afE (std 0))
noncomputable def Fu:=Ke.c
def ahV:=fun ops k h0 h1 h2=>(Ke.cs (Zi ops k h0 h1 h2)).1
def ahW:=fun ops k h0 h1 h2=>(Ke.cs (Zi ops k h0 h1 h2)).2
def Kg:=mk Tryz.func119 (hlC GA.ok hlN) (afF (std 0) oU)
noncomputable def oW:=Kg.c
def uR:=fun b kp ok hk=>Kg.cs (ahp Zq Zr b kp ok hk)
def Zx:=fun b kp ok hk=>(uR b kp ok hk).1
def Zy:=fun b kp ok hk=>(uR b kp ok hk).2
def Kh:=mk Tryz.func45 (hlC uO.ok (hlC Kg.ok (hlC Ke.ok hlN))) (afG (std 0) dx oW Fu)
noncomputable def o7:=Kh.c
def uS:=fun b hb=>Kh.cs (ahr Am Ao Zx Zy ahV ahW b hb)
def Zz:=fun b hb=>(uS b hb).1
def ZA:=fun b hb=>(uS b hb).2
def RZ:=mk Tryz.func50 (hlC uO.ok (hlC pJ.ok hlN)) (afH (std 0) dx bO)
noncomputable def Fv:=RZ.c
def uT:=fun b hb=>RZ.cs (aho Am Ao uL uM b hb)
def ahX:=fun b hb=>(uT b hb).1
def ahY:=fun b hb=>(uT b hb).2
def R3:=mk Tryz.func49 (hlC uO.ok (hlC RZ.ok (hlC Kg.ok hlN))) (afI (std 0) dx Fv oW)
noncomputable def Fx:=R3.c
def uU:=fun b hb=>R3.cs (ahq Am Ao ahX ahY Zx Zy b hb)
def ahZ:=fun b hb=>(uU b hb).1
def ah0:=fun b hb=>(uU b hb).2
def R4:=mk Tryz.func57 (hlC RY.ok (hlC Ka.ok (hlC R3.ok (hlC Kh.ok hlN)))) (afJ (std 0) Fw oZ Fx o7)
noncomputable def FN:=R4.c
def wU:=fun b hb=>R4.cs (ahl ahT ahU Zt Zu ahZ ah0 Zz ZA b hb)
def ah1:=fun b hb=>(wU b hb).1
def ah2:=fun b hb=>(wU b hb).2
def R5:=mk Tryz.func204 (hlC pI.ok hlN) (afK (std 0) bN)
noncomputable def Fz:=R5.c
def wV:=fun b p hb h1 h2=>R5.cs (ahh xZ yc b p hb h1 h2)
def ah3:=fun b p hb h1 h2=>(wV b p hb h1 h2).1
def ah4:=fun b p hb h1 h2=>(wV b p hb h1 h2).2
def R6:=mk Tryz.func222 hlN (afL (std 0))
noncomputable def Fy:=R6.c
def ah5:=fun i=>(R6.cs (ag6 i)).1
def Ki:=mk Tryz.func206 (hlC pJ.ok (hlC R6.ok hlN)) (afM (std 0) bO Fy)
noncomputable def o9:=Ki.c
def Kj:=fun i=>Ki.cs (ag7 uL uM ah5 i)
def ZB:=fun i=>(Kj i).1
def Kk:=mk Tryz.func207 hlN (afN (std 0))
noncomputable def o8:=Kk.c
def ZE:=fun i=>(Kk.cs (ag8 i)).1
def Kl:=mk Tryz.func205 (hlC Kk.ok (hlC Ki.ok hlN)) (afO (std 0) o8 o9)
noncomputable def pq:=Kl.c
def GH:=fun i=>Kl.cs (ag9 ZE ZB i)
def ZF:=fun i=>(GH i).1
def R7:=mk Tryz.func182 (hlC R5.ok (hlC pI.ok (hlC Kl.ok hlN))) (afP (std 0) Fz bN pq)
noncomputable def FB:=R7.c
def uV:=fun b p hb h1 h2=>R7.cs (ahi ah3 ah4 xZ yc ZF b p hb h1 h2)
def ah6:=fun b p hb h1 h2=>(uV b p hb h1 h2).1
def ah7:=fun b p hb h1 h2=>(uV b p hb h1 h2).2
def R8:=mk Tryz.func139 (hlC R7.ok (hlC pI.ok hlN)) (afQ (std 0) FB bN)
noncomputable def FP:=R8.c
def uW:=fun b p hb h1 h2=>R8.cs (ahj ah6 ah7 xZ yc b p hb h1 h2)
def ah8:=fun b p hb h1 h2=>(uW b p hb h1 h2).1
def ah9:=fun b p hb h1 h2=>(uW b p hb h1 h2).2
def R9:=mk Tryz.func183 (hlC Kk.ok (hlC Ki.ok (hlC pJ.ok (hlC Kl.ok hlN)))) (afR (std 0) o8 o9 bO pq)
noncomputable def FJ:=R9.c
def Km:=fun pc l hl=>R9.cs (aha ZE ZB uL uM ZF pc l hl)
def aia:=fun pc l hl=>(Km pc l hl).1
def uX:=mk Tryz.func208 hlN (afS (std 0))
noncomputable def eU:=uX.c
def yg:=fun a1 a2 a3 a4 a5 a6 o ops hl=>(uX.cs (Za a1 a2 a3 a4 a5 a6 o ops hl)).1
def yh:=fun a1 a2 a3 a4 a5 a6 o ops hl=>(uX.cs (Za a1 a2 a3 a4 a5 a6 o ops hl)).2
def GI:=mk Tryz.func209 (hlC uX.ok hlN) (afT (std 0) eU)
noncomputable def pE:=GI.c
def ZG:=fun a1 a2 a3 a4 a5 a6 k x ops hl=>(GI.cs (Zc yg yh a1 a2 a3 a4 a5 a6 k x ops hl)).1
def ZH:=fun a1 a2 a3 a4 a5 a6 k x ops hl=>(GI.cs (Zc yg yh a1 a2 a3 a4 a5 a6 k x ops hl)).2
def yj:=mk Tryz.func210 (hlC uX.ok hlN) (afU (std 0) eU)
noncomputable def gK:=yj.c
def GJ:=fun a1 a2 a3 a4 a5 a6 k ops hl=>(yj.cs (Zb yg yh a1 a2 a3 a4 a5 a6 k ops hl)).1
def GK:=fun a1 a2 a3 a4 a5 a6 k ops hl=>(yj.cs (Zb yg yh a1 a2 a3 a4 a5 a6 k ops hl)).2
def Kn:=mk Tryz.func211 (hlC yj.ok (hlC uX.ok hlN)) (afV (std 0) gK eU)
noncomputable def pz:=Kn.c
def rQ:=fun a1 a2 a3 a4 a5 a6 k a o ops hl=>Kn.cs (ahb GJ GK yg yh a1 a2 a3 a4 a5 a6 k a o ops hl)
def ZI:=fun a1 a2 a3 a4 a5 a6 k a o ops hl=>(rQ a1 a2 a3 a4 a5 a6 k a o ops hl).1
def ZJ:=fun a1 a2 a3 a4 a5 a6 k a o ops hl=>(rQ a1 a2 a3 a4 a5 a6 k a o ops hl).2
def Sb:=mk Tryz.func212 hlN (afW (std 0))
noncomputable def FH:=Sb.c
def aib:=fun k hk=>(Sb.cs (ahd k hk)).1
def Sc:=mk Tryz.func213 (hlC yj.ok (hlC uX.ok (hlC Kn.ok (hlC GI.ok hlN)))) (afX (std 0) gK eU pz pE)
noncomputable def FD:=Sc.c
def uY:=fun a1 a2 a3 a4 a5 a6 i k ops hl=>Sc.cs (ahc GJ GK yg yh ZI ZJ ZG ZH a1 a2 a3 a4 a5 a6 i k ops hl)
def aic:=fun a1 a2 a3 a4 a5 a6 i k ops hl=>(uY a1 a2 a3 a4 a5 a6 i k ops hl).1
def aie:=fun a1 a2 a3 a4 a5 a6 i k ops hl=>(uY a1 a2 a3 a4 a5 a6 i k ops hl).2
def Ko:=mk Tryz.func214 (hlC yj.ok hlN) (afY (std 0) gK)
noncomputable def FC:=Ko.c
def aif:=fun a1 a2 a3 a4 a5 a6 i ops hl=>(Ko.cs (Zd GJ GK a1 a2 a3 a4 a5 a6 i ops hl)).1
def aii:=fun a1 a2 a3 a4 a5 a6 i ops hl=>(Ko.cs (Zd GJ GK a1 a2 a3 a4 a5 a6 i ops hl)).2
def Sd:=mk Tryz.func184 (hlC yj.ok (hlC Ko.ok (hlC uX.ok (hlC Sc.ok (hlC Kn.ok (hlC GI.ok (hlC Sb.ok hlN))))))) (afZ (std 0) gK FC eU FD pz pE FH)
noncomputable def FK:=Sd.c
def zm:=fun a1 a2 a3 a4 a5 a6 i k ops hk hl=>Sd.cs (ahe GJ GK aif aii yg yh aic aie ZI ZJ ZG ZH aib a1 a2 a3 a4 a5 a6 i k ops hk hl)
def aij:=fun a1 a2 a3 a4 a5 a6 i k ops hk hl=>(zm a1 a2 a3 a4 a5 a6 i k ops hk hl).1
def aik:=fun a1 a2 a3 a4 a5 a6 i k ops hk hl=>(zm a1 a2 a3 a4 a5 a6 i k ops hk hl).2
def Sg:=mk Tryz.func140 (hlC R9.ok (hlC Sd.ok hlN)) (af0 (std 0) FJ FK)
noncomputable def FL:=Sg.c
def rR:=fun pc l hl hk=>Sg.cs (ahf aia aij aik pc l hl hk)
def ail:=fun pc l hl hk=>(rR pc l hl hk).1
def ain:=fun pc l hl hk=>(rR pc l hl hk).2
def Si:=mk Tryz.func66 (hlC Sg.ok (hlC R4.ok (hlC Ka.ok (hlC pI.ok (hlC R8.ok hlN))))) (af2 (std 0) FL FN oZ bN FP)
noncomputable def FY:=Si.c
def rT:=fun b p hb h1 h2=>Si.cs (ahu ail ain ah1 ah2 Zt Zu xZ yc ah8 ah9 b p hb h1 h2)
def aio:=fun b p hb h1 h2=>(rT b p hb h1 h2).1
def aip:=fun b p hb h1 h2=>(rT b p hb h1 h2).2
def ZK:=mk Tryz.func148 hlN (aqg (std 0))
noncomputable def GZ:=ZK.c
def anN:=fun a=>(ZK.cs (amG a)).1
def anO:=fun a=>(ZK.cs (amG a)).2
def ZL:=mk Tryz.func80 (hlC ZK.ok hlN) (aqh (std 0) GZ)
noncomputable def xS:=ZL.c
def og:=fun a b=>ZL.cs (aqm anN anO a b)
def aiq:=fun a b=>(og a b).1
def air:=fun a b=>(og a b).2
def ZM:=mk Tryz.func81 hlN (aqi (std 0))
noncomputable def G5:=ZM.c
def anP:=fun a b=>(ZM.cs (amH a b)).1
def anQ:=fun a b=>(ZM.cs (amH a b)).2
def ZN:=mk Tryz.func149 (hlC ZL.ok hlN) (alA (std 0) xS)
noncomputable def M4:=ZN.c
def iR:=fun a b ha=>ZN.cs (amI aiq air a b ha)
def anR:=fun a b ha=>(iR a b ha).1
def anS:=fun a b ha=>(iR a b ha).2
def IQ:=mk Tryz.func82 (hlC ZM.ok (hlC ZL.ok (hlC ZN.ok hlN))) (alB (std 0) G5 xS M4)
noncomputable def jo:=IQ.c
def oh:=fun a b ha=>IQ.cs (amJ aiq air anR anS anP anQ a b ha)
def Uo:=fun a b ha=>(oh a b ha).1
def Uq:=fun a b ha=>(oh a b ha).2
def kQ:=mk Tryz.func121 hlN (alC (std 0))
noncomputable def aU:=kQ.c
def kR:=fun a b c=>(kQ.cs (ab5 a b c)).1
def kS:=fun a b c=>(kQ.cs (ab5 a b c)).2
def ZO:=mk Tryz.func185 (hlC ZK.ok hlN) (aqj (std 0) GZ)
noncomputable def xU:=ZO.c
def uZ:=fun a b=>ZO.cs (aqn anN anO a b)
def anT:=fun a b=>(uZ a b).1
def anU:=fun a b=>(uZ a b).2
def Sj:=mk Tryz.func141 (hlC ZO.ok hlN) (af3 (std 0) xU)
noncomputable def FU:=Sj.c
def iO:=fun a ha=>Sj.cs (agF anT anU a ha)
def ais:=fun a ha=>(iO a ha).1
def ait:=fun a ha=>(iO a ha).2
def Ur:=mk Tryz.func187 hlN (alD (std 0))
noncomputable def M5:=Ur.c
def anV:=fun a n=>(Ur.cs (ab9 a n)).1
def anW:=fun a n=>(Ur.cs (ab9 a n)).2
def Sk:=mk Tryz.func215 (hlC Ur.ok hlN) (af4 (std 0) M5)
noncomputable def FQ:=Sk.c
def iG:=fun a n ha=>Sk.cs (agG anV anW a n ha)
def aiu:=fun a n ha=>(iG a n ha).1
def aiv:=fun a n ha=>(iG a n ha).2
def Sl:=mk Tryz.func186 (hlC Sk.ok hlN) (af5 (std 0) FQ)
noncomputable def FR:=Sl.c
def gN:=fun a n ha=>Sl.cs (agH aiu aiv a n ha)
def aiw:=fun a n ha=>(gN a n ha).1
def aix:=fun a n ha=>(gN a n ha).2
def Us:=mk Tryz.func142 (hlC Sl.ok hlN) (alE (std 0) FR)
noncomputable def wC:=Us.c
def rU:=fun a n ha=>Us.cs (amK aiw aix a n ha)
def acp:=fun a n ha=>(rU a n ha).1
def acr:=fun a n ha=>(rU a n ha).2
def Ut:=mk Tryz.func144 hlN (alF (std 0))
noncomputable def M6:=Ut.c
def anX:=fun m=>(Ut.cs (acd m)).1
def anY:=fun m=>(Ut.cs (acd m)).2
def Sn:=mk Tryz.func188 (hlC Ut.ok hlN) (af6 (std 0) M6)
noncomputable def FT:=Sn.c
def dh:=fun a ha=>Sn.cs (agI (G:=(fun m:aj=>0<m.atoms.length∧m.atoms.getD 0 default<0)) anX anY a ha)
def aiy:=fun a ha=>(dh a ha).1
def aiz:=fun a ha=>(dh a ha).2
def Sq:=mk Tryz.func143 (hlC Sn.ok hlN) (af7 (std 0) FT)
noncomputable def FV:=Sq.c
def bZ:=fun a ha=>Sq.cs (agJ (G:=(fun m:aj=>0<m.atoms.length∧m.atoms.getD 0 default<0)) aiy aiz a ha)
def aiA:=fun a ha=>(bZ a ha).1
def aiB:=fun a ha=>(bZ a ha).2
def zn:=mk Tryz.func67 (hlC kQ.ok (hlC Us.ok (hlC Sj.ok (hlC IQ.ok (hlC Sq.ok hlN))))) (alG (std 0) aU wC FU jo FV)
noncomputable def dW:=zn.c
def zo:=fun a ha=>zn.cs (amL kR kS acp acr ais ait Uo Uq aiA aiB a ha)
def GL:=fun a ha=>(zo a ha).1
def GN:=fun a ha=>(zo a ha).2
end Go.TX.F
namespace Go.TX.F
open Go Go.AE Go.TX Go.TX.Seat Go.Proofs
set_option maxRecDepth 100000
def Uu:=mk Tryz.func22 (hlC zn.ok hlN) (alH (std 0) dW)
noncomputable def wE:=Uu.c
def wW:=fun a ha=>Uu.cs (amR GL GN a ha)
def acs:=fun a ha=>(wW a ha).1
def acu:=fun a ha=>(wW a ha).2
def Oc:=mk Tryz.func24 (hlC ZM.ok (hlC ZL.ok (hlC IQ.ok hlN))) (alI (std 0) G5 xS jo)
noncomputable def mQ:=Oc.c
def rV:=fun a b ha=>Oc.cs (amM anP anQ aiq air Uo Uq a b ha)
def ZP:=fun a b ha=>(rV a b ha).1
def ZQ:=fun a b ha=>(rV a b ha).2
def Od:=mk Tryz.func189 hlN (alJ (std 0))
noncomputable def wD:=Od.c
def acv:=fun a ha=>(Od.cs (acf a ha)).1
def acw:=fun a ha=>(Od.cs (acf a ha)).2
def Oe:=mk Tryz.func146 (hlC Od.ok hlN) (alK (std 0) wD)
noncomputable def mP:=Oe.c
def kU:=fun a ha=>Oe.cs (amS acv acw a ha)
def ZR:=fun a ha=>(kU a ha).1
def ZT:=fun a ha=>(kU a ha).2
def ZU:=mk Tryz.func145 (hlC Oe.ok hlN) (alL (std 0) mP)
noncomputable def M7:=ZU.c
def om:=fun a ha=>ZU.cs (anr ZR ZT a ha)
def anZ:=fun a ha=>(om a ha).1
def an0:=fun a ha=>(om a ha).2
def ZV:=mk Tryz.func68 (hlC Oe.ok (hlC ZU.ok hlN)) (alM (std 0) mP M7)
noncomputable def M8:=ZV.c
def lH:=fun s hs=>ZV.cs (ant ZR ZT anZ an0 s hs)
def an1:=fun s hs=>(lH s hs).1
def an2:=fun s hs=>(lH s hs).2
def Br:=mk Tryz.func69 (hlC Oc.ok hlN) (alN (std 0) mQ)
noncomputable def fQ:=Br.c
def lI:=fun a b ha=>Br.cs (amN ZP ZQ a b ha)
def IU:=fun a b ha=>(lI a b ha).1
def IV:=fun a b ha=>(lI a b ha).2
def zq:=mk Tryz.func78 (hlC kQ.ok hlN) (alO (std 0) aU)
noncomputable def fP:=zq.c
def IW:=fun a=>(zq.cs (ab6 kR kS a)).1
def IX:=fun a=>(zq.cs (ab6 kR kS a)).2
def ZW:=mk Tryz.func70 (hlC zq.ok hlN) (alP (std 0) fP)
noncomputable def M9:=ZW.c
def wX:=fun r a b=>ZW.cs (anq IW IX r a b)
def an3:=fun r a b=>(wX r a b).1
def an4:=fun r a b=>(wX r a b).2
def ZX:=mk Tryz.func16 (hlC Uu.ok (hlC zn.ok (hlC Oc.ok (hlC ZV.ok (hlC Br.ok (hlC ZW.ok hlN)))))) (alQ (std 0) wE dW mQ M8 fQ M9)
noncomputable def Ns:=ZX.c
def wY:=fun s n hs h0 h1=>ZX.cs (anz acs acu GL GN ZP ZQ an1 an2 IU IV an3 an4 s n hs h0 h1)
def an5:=fun s n hs h0 h1=>(wY s n hs h0 h1).1
def an6:=fun s n hs h0 h1=>(wY s n hs h0 h1).2
def ZY:=mk Tryz.func20 (hlC zq.ok hlN) (alR (std 0) fP)
noncomputable def NK:=ZY.c
def Bu:=ZY.cs (anb IW IX)
def an7:=(Bu).1
def an8:=(Bu).2
def Sr:=mk Tryz.func151 (hlC pI.ok (hlC Ap.ok hlN)) (af8 (std 0) bN jd)
noncomputable def FX:=Sr.c
def u7:=fun c b p hc hb h1 h2=>Sr.cs (ahv xZ yc RU RV c b p hc hb h1 h2)
def aiC:=fun c b p hc hb h1 h2=>(u7 c b p hc hb h1 h2).1
def aiD:=fun c b p hc hb h1 h2=>(u7 c b p hc hb h1 h2).2
def Sv:=mk Tryz.func98 (hlC RJ.ok (hlC pI.ok (hlC Sr.ok (hlC Si.ok hlN)))) (af9 (std 0) FW bN FX FY)
noncomputable def Gh:=Sv.c
def oq:=fun n b p hb h1 h2=>Sv.cs (ahw ahD ahE xZ yc aiC aiD aio aip n b p hb h1 h2)
def aiE:=fun n b p hb h1 h2=>(oq n b p hb h1 h2).1
def aiF:=fun n b p hb h1 h2=>(oq n b p hb h1 h2).2
def Og:=mk Tryz.func164 (hlC kQ.ok hlN) (alS (std 0) aU)
noncomputable def wF:=Og.c
def acy:=fun a=>(Og.cs (ab7 kR kS a)).1
def acz:=fun a=>(Og.cs (ab7 kR kS a)).2
def Oh:=mk Tryz.func165 (hlC kQ.ok hlN) (alT (std 0) aU)
noncomputable def wG:=Oh.c
def acA:=fun a=>(Oh.cs (ab8 kR kS a)).1
def acB:=fun a=>(Oh.cs (ab8 kR kS a)).2
def Uv:=mk Tryz.func108 (hlC kQ.ok (hlC Og.ok (hlC Us.ok (hlC zn.ok (hlC Oh.ok hlN))))) (alU (std 0) aU wF wC dW wG)
noncomputable def wH:=Uv.c
def jI:=fun a n ha=>Uv.cs (amZ kR kS acy acz acp acr GL GN acA acB a n ha)
def acC:=fun a n ha=>(jI a n ha).1
def acD:=fun a n ha=>(jI a n ha).2
def Z0:=mk Tryz.func168 (hlC Br.ok hlN) (alV (std 0) fQ)
noncomputable def Na:=Z0.c
def lJ:=fun a b ha=>Z0.cs (amW IU IV a b ha)
def an9:=fun a b ha=>(lJ a b ha).1
def aoa:=fun a b ha=>(lJ a b ha).2
def Z4:=mk Tryz.func167 (hlC Z0.ok hlN) (alW (std 0) Na)
noncomputable def Nb:=Z4.c
def kV:=fun a b hb=>Z4.cs (amX an9 aoa a b hb)
def aob:=fun a b hb=>(kV a b hb).1
def aoc:=fun a b hb=>(kV a b hb).2
def Sw:=mk Tryz.func166 (hlC Z4.ok hlN) (aga (std 0) Nb)
noncomputable def FZ:=Sw.c
def dw:=fun a b ha hb=>Sw.cs (agK aob aoc a b ha hb)
def aiG:=fun a b ha hb=>(dw a b ha hb).1
def aiH:=fun a b ha hb=>(dw a b ha hb).2
def Uw:=mk Tryz.func109 (hlC Sw.ok hlN) (alX (std 0) FZ)
noncomputable def wI:=Uw.c
def nH:=fun a b ha hb=>Uw.cs (amY aiG aiH a b ha hb)
def acE:=fun a b ha hb=>(nH a b ha hb).1
def acF:=fun a b ha hb=>(nH a b ha hb).2
def Z5:=mk Tryz.func38 (hlC Uv.ok (hlC Uw.ok hlN)) (alY (std 0) wH wI)
noncomputable def Nt:=Z5.c
def zu:=fun a ha=>Z5.cs (am0 acC acD acE acF a ha)
def aod:=fun a ha=>(zu a ha).1
def aoe:=fun a ha=>(zu a ha).2
def Oi:=mk Tryz.func100 (hlC kQ.ok hlN) (alZ (std 0) aU)
noncomputable def mR:=Oi.c
def rW:=fun o=>Oi.cs (ani kR kS o)
def Z6:=fun o=>(rW o).1
def Z7:=fun o=>(rW o).2
def Z8:=mk Tryz.func199 (hlC kQ.ok hlN) (al0 (std 0) aU)
noncomputable def Nc:=Z8.c
def kW:=fun o=>Z8.cs (anj kR kS o)
def aof:=fun o=>(kW o).1
def aog:=fun o=>(kW o).2
def Ux:=mk Tryz.func172 (hlC Z8.ok (hlC kQ.ok hlN)) (al1 (std 0) Nc aU)
noncomputable def wJ:=Ux.c
def kX:=fun b x n h0 h1 h2=>Ux.cs (anl aof aog kR kS b x n h0 h1 h2)
def acG:=fun b x n h0 h1 h2=>(kX b x n h0 h1 h2).1
def acH:=fun b x n h0 h1 h2=>(kX b x n h0 h1 h2).2
def Z9:=mk Tryz.func122 (hlC Ux.ok (hlC Oi.ok (hlC zq.ok (hlC kQ.ok (hlC Og.ok (hlC Oh.ok hlN)))))) (al2 (std 0) wJ mR fP aU wF wG)
noncomputable def Nh:=Z9.c
def lK:=fun b i h0 h1 h2 h3=>Z9.cs (anm acG acH Z6 Z7 IW IX kR kS acy acz acA acB b i h0 h1 h2 h3)
def aoh:=fun b i h0 h1 h2 h3=>(lK b i h0 h1 h2 h3).1
def aoi:=fun b i h0 h1 h2 h3=>(lK b i h0 h1 h2 h3).2
def IY:=mk Tryz.func106 hlN (al3 (std 0))
noncomputable def mU:=IY.c
def aac:=fun b=>(IY.cs (acj b)).1
def aad:=fun b=>(IY.cs (acj b)).2
def aae:=mk Tryz.func123 (hlC IY.ok (hlC Ux.ok (hlC zq.ok (hlC kQ.ok hlN)))) (al4 (std 0) mU wJ fP aU)
noncomputable def Ng:=aae.c
def kY:=fun b h2=>aae.cs (ano aac aad acG acH IW IX kR kS b h2)
def aoj:=fun b h2=>(kY b h2).1
def aol:=fun b h2=>(kY b h2).2
def Oj:=mk Tryz.func51 (hlC aae.ok (hlC Z9.ok (hlC kQ.ok hlN))) (al5 (std 0) Ng Nh aU)
noncomputable def mX:=Oj.c
def Bv:=fun b h2=>Oj.cs (anp aoj aol aoh aoi kR kS b h2)
def aaf:=fun b h2=>(Bv b h2).1
def aag:=fun b h2=>(Bv b h2).2
def aah:=mk Tryz.func198 hlN (al6 (std 0))
noncomputable def Ni:=aah.c
def dR:=fun a=>aah.cs (amV a)
def aom:=fun a=>(dR a).1
def aon:=fun a=>(dR a).2
def Uy:=mk Tryz.func162 (hlC Uv.ok (hlC Uw.ok (hlC aah.ok hlN))) (al7 (std 0) wH wI Ni)
noncomputable def wL:=Uy.c
def ou:=fun t a ht ha=>Uy.cs (am1 acC acD acE acF aom aon t a ht ha)
def acI:=fun t a ht ha=>(ou t a ht ha).1
def acJ:=fun t a ht ha=>(ou t a ht ha).2
def Uz:=mk Tryz.func163 (hlC kQ.ok hlN) (al8 (std 0) aU)
noncomputable def wK:=Uz.c
def vg:=fun a=>Uz.cs (amQ kR kS a)
def acK:=fun a=>(vg a).1
def acL:=fun a=>(vg a).2
def UA:=mk Tryz.func105 (hlC Uz.ok (hlC Uy.ok hlN)) (al9 (std 0) wK wL)
noncomputable def wM:=UA.c
def qA:=fun kd k t fl ht=>UA.cs (anu acK acL acI acJ kd k t fl ht)
def acM:=fun kd k t fl ht=>(qA kd k t fl ht).1
def acN:=fun kd k t fl ht=>(qA kd k t fl ht).2
end Go.TX.F
namespace Go.TX.F
open Go Go.AE Go.TX Go.TX.Seat Go.Proofs
set_option maxRecDepth 100000
def UC:=mk Tryz.func99 (hlC UA.ok hlN) (ama (std 0) wM)
noncomputable def wQ:=UC.c
def ow:=fun t fl ht hl=>UC.cs (anv acM acN t fl ht hl)
def acO:=fun t fl ht hl=>(ow t fl ht hl).1
def acP:=fun t fl ht hl=>(ow t fl ht hl).2
def aai:=mk Tryz.func101 (hlC kQ.ok hlN) (amb (std 0) aU)
noncomputable def Nr:=aai.c
def oC:=fun o=>aai.cs (ank kR kS o)
def aoo:=fun o=>(oC o).1
def aop:=fun o=>(oC o).2
def aaj:=mk Tryz.func102 hlN (amc (std 0))
noncomputable def Nv:=aaj.c
def dO:=fun a h0 h1=>aaj.cs (anw a h0 h1)
def aoq:=fun a h0 h1=>(dO a h0 h1).1
def aor:=fun a h0 h1=>(dO a h0 h1).2
def Ol:=mk Tryz.func103 (hlC kQ.ok hlN) (amd (std 0) aU)
noncomputable def mW:=Ol.c
def rX:=fun a=>Ol.cs (amP kR kS a)
def aak:=fun a=>(rX a).1
def aal:=fun a=>(rX a).2
def IZ:=mk Tryz.func169 hlN (ame (std 0))
noncomputable def mV:=IZ.c
def aam:=fun a=>(IZ.cs (ace a)).1
def aan:=fun a=>(IZ.cs (ace a)).2
def aao:=mk Tryz.func112 (hlC zq.ok (hlC IZ.ok hlN)) (amf (std 0) fP mV)
noncomputable def Nl:=aao.c
def zw:=fun op a b=>aao.cs (amO IW IX aam aan op a b)
def aos:=fun op a b=>(zw op a b).1
def aot:=fun op a b=>(zw op a b).2
def UD:=mk Tryz.func224 (hlC IQ.ok hlN) (amg (std 0) jo)
noncomputable def nY:=UD.c
def zy:=fun a b ha=>UD.cs (amU Uo Uq a b ha)
def acQ:=fun a b ha=>(zy a b ha).1
def acR:=fun a b ha=>(zy a b ha).2
def Sy:=mk Tryz.func240 (hlC UD.ok hlN) (agb (std 0) nY)
noncomputable def F4:=Sy.c
def dB:=fun a b d hd h1 h2 h3=>Sy.cs (agM acQ acR a b d hd h1 h2 h3)
def aiI:=fun a b d hd h1 h2 h3=>(dB a b d hd h1 h2 h3).1
def aiJ:=fun a b d hd h1 h2 h3=>(dB a b d hd h1 h2 h3).2
def Kq:=mk Tryz.func249 hlN (agc (std 0))
noncomputable def F3:=Kq.c
def aiK:=fun a b n d hl h1 h2 h3 h4=>(Kq.cs (YM a b n d hl h1 h2 h3 h4)).1
def aiL:=fun a b n d hl h1 h2 h3 h4=>(Kq.cs (YM a b n d hl h1 h2 h3 h4)).2
def Sz:=mk Tryz.func247 (hlC Kq.ok hlN) (agd (std 0) F3)
noncomputable def qY:=Sz.c
def fE:=fun a m b d hl h1 h2 h3 h4=>Sz.cs (agL aiK aiL a m b d hl h1 h2 h3 h4)
def aiM:=fun a m b d hl h1 h2 h3 h4=>(fE a m b d hl h1 h2 h3 h4).1
def aiN:=fun a m b d hl h1 h2 h3 h4=>(fE a m b d hl h1 h2 h3 h4).2
noncomputable def cK:Nat→Ct aB mK
  | 0=>never mK
  | k+1=>cn (E8 (std 0) nY.pre nY.fn qY.pre qY.fn (cK k).pre (cK k).fn)
theorem kK:∀k:Nat,cu E 241 (bX (cK k))∧∀(a m b:Int) (d:List aj),Af a m b d→b-a<k→(cK k).pre (a,m,b,d,())=true∧Mrg d ((cK k).fn (a,m,b,d,())).1 a b
  | 0=>⟨jH (enters_of Tryz.func241 (by kernel_rfl) rfl),fun a m b d h1 h2=>(by have g1:=h1.h2;have g2:=h1.h3;omega)⟩
  | k+1=>by
    have ih:=kK k
    have t:Fn E 241 (E8 (std 0) nY.pre nY.fn qY.pre qY.fn (cK k).pre (cK k).fn) (cK (k+1)):=mk Tryz.func241 (hlC UD.ok (hlC Sz.ok (hlC ih.1 hlN))) (agf (std 0) nY qY (cK k))
    exact⟨t.ok,fun a m b d h1 h2=>t.cs (agN acQ acR aiM aiN (k:Int) (fun a m b d h1 h2=>(ih.2 a m b d h1 h2).1) (fun a m b d h1 h2=>(ih.2 a m b d h1 h2).2) a m b d h1 (by omega))⟩
noncomputable def pF:Ct aB mK:=cK 1000000000
theorem aiO:cu E 241 (bX pF):=(kK 1000000000).1
theorem acS {a m b:Int} {d:List aj} (h:Af a m b d):b-a< ((1000000000:Nat):Int):=by have g0:=h.sh.1;have g1:=h.h1;have g2:=h.h4;omega
def aiP:=fun a m b d h=>((kK 1000000000).2 a m b d h (acS h)).1
def aiQ:=fun a m b d h=>((kK 1000000000).2 a m b d h (acS h)).2
def SA:=mk Tryz.func229 (hlC Sy.ok (hlC aiO hlN)) (agh (std 0) F4 pF)
noncomputable def F5:=SA.c
def fF:=fun n d hd hn=>SA.cs (agO aiI aiJ aiP aiQ n d hd hn)
def aiR:=fun n d hd hn=>(fF n d hd hn).1
def aiS:=fun n d hd hn=>(fF n d hd hn).2
def SB:=mk Tryz.func223 (hlC SA.ok hlN) (agi (std 0) F5)
noncomputable def F6:=SB.c
def bT:=fun d hd=>SB.cs (agP aiR aiS d hd)
def aiT:=fun d hd=>(bT d hd).1
def aiU:=fun d hd=>(bT d hd).2
def UE:=mk Tryz.func217 (hlC IQ.ok (hlC zn.ok (hlC IZ.ok (hlC Od.ok (hlC SB.ok hlN))))) (amh (std 0) jo dW mV wD F6)
noncomputable def wN:=UE.c
def GQ:=fun l hl hc=>UE.cs (am3 Uo Uq GL GN aam aan acv acw aiT aiU l hl hc)
def acT:=fun l hl hc=>(GQ l hl hc).1
def acU:=fun l hl hc=>(GQ l hl hc).2
def SE:=mk Tryz.func225 hlN (agj (std 0))
noncomputable def F7:=SE.c
def dS:=fun n h1 h2=>SE.cs (agQ n h1 h2)
def aiV:=fun n h1 h2=>(dS n h1 h2).1
def aiW:=fun n h1 h2=>(dS n h1 h2).2
def aap:=mk Tryz.func218 (hlC SE.ok hlN) (ami (std 0) F7)
noncomputable def Nj:=aap.c
def dG:=fun a b ha hb=>aap.cs (am4 aiV aiW a b ha hb)
def aou:=fun a b ha hb=>(dG a b ha hb).1
def aov:=fun a b ha hb=>(dG a b ha hb).2
def aaq:=mk Tryz.func195 (hlC zn.ok (hlC UE.ok (hlC aap.ok hlN))) (amj (std 0) dW wN Nj)
noncomputable def Nn:=aaq.c
def wZ:=fun a b ha hb=>aaq.cs (am6 GL GN acT acU aou aov a b ha hb)
def aow:=fun a b ha hb=>(wZ a b ha hb).1
def aox:=fun a b ha hb=>(wZ a b ha hb).2
def Kr:=mk Tryz.func226 hlN (agk (std 0))
noncomputable def F8:=Kr.c
def aiX:=fun n h1 h2=>(Kr.cs (YO n h1 h2)).1
def aiY:=fun n h1 h2=>(Kr.cs (YO n h1 h2)).2
def aar:=mk Tryz.func219 (hlC Kr.ok hlN) (amk (std 0) F8)
noncomputable def Nk:=aar.c
def jr:=fun a b ha hb=>aar.cs (am5 aiX aiY a b ha hb)
def aoy:=fun a b ha hb=>(jr a b ha hb).1
def aoz:=fun a b ha hb=>(jr a b ha hb).2
def SF:=mk Tryz.func230 (hlC ZO.ok hlN) (agl (std 0) xU)
noncomputable def F9:=SF.c
def fT:=fun a b d hd h1 h2=>SF.cs (agU anT anU a b d hd h1 h2)
def aiZ:=fun a b d hd h1 h2=>(fT a b d hd h1 h2).1
def ai0:=fun a b d hd h1 h2=>(fT a b d hd h1 h2).2
noncomputable def zZ:Ct aB ED:=never ED
theorem ai1:cu E 231 (bX zZ):=jH (enters_of Tryz.func231 (by kernel_rfl) rfl)
noncomputable def z8:Ct aB EF:=never EF
theorem ai2:cu E 232 (bX z8):=jH (enters_of Tryz.func232 (by kernel_rfl) rfl)
noncomputable def Aa:Ct aB EG:=never EG
theorem ai3:cu E 233 (bX Aa):=jH (enters_of Tryz.func233 (by kernel_rfl) rfl)
noncomputable def Ab:Ct aB EH:=never EH
theorem ai4:cu E 234 (bX Ab):=jH (enters_of Tryz.func234 (by kernel_rfl) rfl)
noncomputable def Ac:Ct aB EI:=never EI
theorem ai5:cu E 235 (bX Ac):=jH (enters_of Tryz.func235 (by kernel_rfl) rfl)
noncomputable def Ad:Ct aB EJ:=never EJ
theorem ai6:cu E 236 (bX Ad):=jH (enters_of Tryz.func236 (by kernel_rfl) rfl)
noncomputable def Ae:Ct aB EK:=never EK
theorem ai7:cu E 237 (bX Ae):=jH (enters_of Tryz.func237 (by kernel_rfl) rfl)
noncomputable def iq:Ct aB oL:=never oL
theorem lC:cu E 227 (bX iq):=jH (enters_of Tryz.func227 (by kernel_rfl) rfl)
def SG:=mk Tryz.func227 (hlC ZO.ok (hlC SF.ok (hlC ai1 (hlC ai2 (hlC ai3 (hlC ai4 (hlC ai5 (hlC ai6 (hlC ai7 (hlC lC hlN)))))))))) (agm (std 0) xU F9 zZ z8 Aa Ab Ac Ad Ae iq)
noncomputable def qZ:=SG.c
def iA:=fun a b k d hd h1 h2=>SG.cs (agV aiZ ai0 _ _ _ _ _ _ _ _ _ _ _ _ _ _ _ _ a b k d hd h1 h2)
def ai8:=fun a b k d hd h1 h2=>(iA a b k d hd h1 h2).1
def ai9:=fun a b k d hd h1 h2=>(iA a b k d hd h1 h2).2
noncomputable def Ga:Ct aB TM:={pre:=fun x=>decide ((0:Int)≤x.1)&&decide ((x.1:Int)≤18446744073709551615),fn:=fun x=>((Lib.bitLen (x.1:Int).toNat:Int),())}
theorem aoA (n:Int) (h1:0≤n) (h2:n≤18446744073709551615):Ga.pre (n,())=true:=by
  show(decide _&&decide _)=true;simp only [Bool.and_eq_true,decide_eq_true_eq];exact⟨h1,h2⟩
theorem aoB:cu E 228 (bX Ga):=
  Zn (enters_of Tryz.func228 (by kernel_rfl) rfl) rfl fun x w h=>by
      have h':(decide ((0:Int)≤x)&&decide (x≤18446744073709551615))=true:=h
      simp only [Bool.and_eq_true,decide_eq_true_eq]at h'
      exact bits_Len x w h'.1 h'.2
def SH:=mk Tryz.func220 (hlC SG.ok (hlC aoB hlN)) (agn (std 0) qZ Ga)
noncomputable def Gb:=SH.c
def jN:=fun a ha=>SH.cs (agW ai8 ai9 aoA a ha)
def aja:=fun a ha=>(jN a ha).1
def ajb:=fun a ha=>(jN a ha).2
def UF:=mk Tryz.func197 (hlC zn.ok (hlC IZ.ok (hlC UE.ok (hlC aar.ok (hlC SH.ok hlN))))) (aml (std 0) dW mV wN Nk Gb)
noncomputable def wO:=UF.c
def w9:=fun a b ha hb=>UF.cs (am7 GL GN aam aan acT acU aoy aoz aja ajb a b ha hb)
def acV:=fun a b ha hb=>(w9 a b ha hb).1
def acW:=fun a b ha hb=>(w9 a b ha hb).2
def aas:=mk Tryz.func196 (hlC zn.ok (hlC Ol.ok (hlC zq.ok (hlC UF.ok hlN)))) (amm (std 0) dW mW fP wO)
noncomputable def Np:=aas.c
def rY:=fun a n ha=>aas.cs (am8 GL GN aak aal IW IX acV acW a n ha)
def aoC:=fun a n ha=>(rY a n ha).1
def aoD:=fun a n ha=>(rY a n ha).2
end Go.TX.F
namespace Go.TX.F
open Go Go.AE Go.TX Go.TX.Seat Go.Proofs
set_option maxRecDepth 100000
def aat:=mk Tryz.func161 (hlC Br.ok (hlC Ol.ok (hlC aao.ok (hlC aaq.ok (hlC UF.ok (hlC aas.ok (hlC Uu.ok hlN))))))) (amn (std 0) fQ mW Nl Nn wO Np wE)
noncomputable def Nq:=aat.c
def xg:=fun op x y hx hy=>aat.cs (am9 IU IV aak aal aos aot aow aox acV acW aoC aoD acs acu op x y hx hy)
def aoE:=fun op x y hx hy=>(xg op x y hx hy).1
def aoF:=fun op x y hx hy=>(xg op x y hx hy).2
def aau:=mk Tryz.func104 (hlC Oc.ok (hlC aat.ok (hlC Uy.ok (hlC Uz.ok hlN)))) (amo (std 0) mQ Nq wL wK)
noncomputable def Nu:=aau.c
def qB:=fun t op x y ht hx hy=>aau.cs (ana ZP ZQ aoE aoF acI acJ acK acL t op x y ht hx hy)
def aoG:=fun t op x y ht hx hy=>(qB t op x y ht hx hy).1
def aoH:=fun t op x y ht hx hy=>(qB t op x y ht hx hy).2
def UG:=mk Tryz.func107 (hlC Oe.ok hlN) (amq (std 0) mP)
noncomputable def wP:=UG.c
def lM:=fun a ha=>UG.cs (amT ZR ZT a ha)
def acX:=fun a ha=>(lM a ha).1
def acY:=fun a ha=>(lM a ha).2
def aav:=mk Tryz.func37 (hlC IY.ok (hlC Oj.ok (hlC aai.ok (hlC Oi.ok (hlC Ol.ok (hlC ZX.ok (hlC Z5.ok (hlC UG.ok (hlC aau.ok (hlC UA.ok (hlC UC.ok (hlC aaj.ok hlN)))))))))))) (amr (std 0) mU mX Nr mR mW Ns Nt wP Nu wM wQ Nv)
noncomputable def NC:=aav.c
def xk:=fun t b ht hb=>aav.cs (anA aac aad aaf aag aoo aop Z6 Z7 aak aal an5 an6 aod aoe acX acY aoG aoH acM acN acO acP aoq aor t b ht hb)
def aoI:=fun t b ht hb=>(xk t b ht hb).1
def aoJ:=fun t b ht hb=>(xk t b ht hb).2
def Kt:=mk Tryz.func152 hlN (agp (std 0))
noncomputable def Gc:=Kt.c
def ajc:=fun a b ha=>(Kt.cs (Zk a b ha)).1
def ajd:=fun a b ha=>(Kt.cs (Zk a b ha)).2
def aaw:=mk Tryz.func84 (hlC Kt.ok hlN) (ams (std 0) Gc)
noncomputable def Nz:=aaw.c
def xq:=fun a b ha=>aaw.cs (anE ajc ajd a b ha)
def aoK:=fun a b ha=>(xq a b ha).1
def aoL:=fun a b ha=>(xq a b ha).2
def aax:=mk Tryz.func85 (hlC UG.ok (hlC UC.ok hlN)) (amt (std 0) wP wQ)
noncomputable def NA:=aax.c
def xu:=aax.cs (anx acX acY acO acP)
def aoM:=(xu).1
def aoN:=(xu).2
def aay:=mk Tryz.func191 (hlC Br.ok hlN) (amu (std 0) fQ)
noncomputable def Nw:=aay.c
def nI:=fun a b ha=>aay.cs (anF IU IV a b ha)
def aoO:=fun a b ha=>(nI a b ha).1
def aoP:=fun a b ha=>(nI a b ha).2
def SK:=mk Tryz.func190 (hlC aay.ok hlN) (agq (std 0) Nw)
noncomputable def Gd:=SK.c
def aY:=fun a b ha=>SK.cs (ahx aoO aoP a b ha)
def aje:=fun a b ha=>(aY a b ha).1
def ajf:=fun a b ha=>(aY a b ha).2
def UH:=mk Tryz.func155 (hlC SK.ok hlN) (amv (std 0) Gd)
noncomputable def wR:=UH.c
def qC:=fun a b ha=>UH.cs (anG aje ajf a b ha)
def acZ:=fun a b ha=>(qC a b ha).1
def ac0:=fun a b ha=>(qC a b ha).2
def aaz:=mk Tryz.func154 (hlC Br.ok (hlC UH.ok hlN)) (amw (std 0) fQ wR)
noncomputable def Ny:=aaz.c
def qD:=fun a b ha=>aaz.cs (anH IU IV acZ ac0 a b ha)
def aoQ:=fun a b ha=>(qD a b ha).1
def aoR:=fun a b ha=>(qD a b ha).2
def SL:=mk Tryz.func153 (hlC aaz.ok hlN) (agr (std 0) Ny)
noncomputable def Gf:=SL.c
def aR:=fun a b ha=>SL.cs (ahy aoQ aoR a b ha)
def ajg:=fun a b ha=>(aR a b ha).1
def ajh:=fun a b ha=>(aR a b ha).2
def aaA:=mk Tryz.func86 (hlC Br.ok (hlC UH.ok (hlC SL.ok hlN))) (amx (std 0) fQ wR Gf)
noncomputable def ND:=aaA.c
def vk:=fun a b ha=>aaA.cs (anI IU IV acZ ac0 ajg ajh a b ha)
def aoS:=fun a b ha=>(vk a b ha).1
def aoT:=fun a b ha=>(vk a b ha).2
def aji:=mk Tryz.func26 (hlC Oj.ok (hlC aaw.ok (hlC aax.ok (hlC aav.ok (hlC aaA.ok hlN))))) (aqk (std 0) mX Nz NA NC ND)
noncomputable def YF:=aji.c
def vo:=fun b c hb hc=>aji.cs (aqt aaf aag aoK aoL aoM aoN aoI aoJ aoS aoT b c hb hc)
def aqy:=fun b c hb hc=>(vo b c hb hc).1
def aqz:=fun b c hb hc=>(vo b c hb hc).2
def UJ:=mk Tryz.func34 hlN (amy (std 0))
noncomputable def NJ:=UJ.c
def aoU:=fun a b ha=>(UJ.cs (aco a b ha)).1
def aoV:=fun a b ha=>(UJ.cs (aco a b ha)).2
end Go.TX.F
namespace Go.TX.F
open Go Go.AE Go.TX Go.TX.Seat Go.Proofs
set_option maxRecDepth 100000
def SN:=mk Tryz.func43 (hlC J7.ok (hlC Sv.ok hlN)) (ags (std 0) Gg Gh)
noncomputable def Gi:=SN.c
def nJ:=fun c hc hl=>SN.cs (ahz ahB ahC aiE aiF c hc hl)
def ajj:=fun c hc hl=>(nJ c hc hl).1
def ajk:=fun c hc hl=>(nJ c hc hl).2
def aaB:=mk Tryz.func124 (hlC IY.ok (hlC Oi.ok hlN)) (amA (std 0) mU mR)
noncomputable def NG:=aaB.c
def jO:=fun nm pc len fin x y k ops h=>aaB.cs (anJ aac aad Z6 Z7 nm pc len fin x y k ops h)
def aoW:=fun nm pc len fin x y k ops h=>(jO nm pc len fin x y k ops h).1
def aoX:=fun nm pc len fin x y k ops h=>(jO nm pc len fin x y k ops h).2
def aaC:=mk Tryz.func117 (hlC aaB.ok hlN) (amB (std 0) NG)
noncomputable def NH:=aaC.c
def lN:=fun b kp ok hk=>aaC.cs (anK aoW aoX b kp ok hk)
def aoY:=fun b kp ok hk=>(lN b kp ok hk).1
def aoZ:=fun b kp ok hk=>(lN b kp ok hk).2
def aaD:=mk Tryz.func44 (hlC aaC.ok (hlC Oj.ok hlN)) (amC (std 0) NH mX)
noncomputable def NI:=aaD.c
def vw:=fun b hb=>aaD.cs (anL aoY aoZ aaf aag b hb)
def ao0:=fun b hb=>(vw b hb).1
def ao1:=fun b hb=>(vw b hb).2
def ac1:=mk Tryz.func10 (hlC aji.ok (hlC aaD.ok (hlC UJ.ok (hlC ZY.ok (hlC SN.ok (hlC uO.ok (hlC Kh.ok hlN))))))) (amD (std 0) YF NI NJ NK Gi dx o7)
def qE:=fun c hc=>ac1.cs (anM aqy aqz ao0 ao1 aoU aoV an7 an8 ajj ajk Am Ao Zz ZA c hc)
def ao2:=fun c hc=>(qE c hc).1
def ao3:=fun c hc=>(qE c hc).2
end Go.TX.F
namespace Go.Proofs.YtnhlcljjjbjfeaaGreat
open Go.ChangeShapes Go.WideShapes Go.ChangeAt Go.RowKit
theorem aqA:ownKnob Tryz.prog.godebug=Option.none:=by kernel_rfl
theorem ao4:laidOutB Tryz.prog=true:=by kernel_rfl
theorem ajl:Tryz.prog.cellsOf 5=1:=by kernel_rfl
set_option maxRecDepth 100000 in
theorem lifted (os:Os) (started:os.Started) (H:Type) (enc:TypeId×Value→H):
    ReturnsInHanded {} Tryz.checked os 10 .any (Rows.fnOptSetsSpec.pre6 enc Tryz.prog Tryz.f10 Rows.fnOptSetsRow.domain false) (Rows.fnOptSetsSpec.post enc Tryz.prog Tryz.f10 false true false false):=by
  refine returnsInHanded_of_change (C:=Tryz.checked) aqA started (by kernel_rfl) Tryz.func10
    (ChangeSpec.witness6 (enc:=enc) (C:=Tryz.checked) false ⟨#[], #[.slice none 0 0],[]⟩ 8 (by kernel_rfl) (by kernel_rfl) (by kernel_rfl) (by kernel_rfl)) ?_
  intro W base args ds gs before hval0 hW _ _
  have hval:∀(j:Nat) t v,Tryz.f10.params[j]? =some t→args[j]? =some v→Value.okWide Tryz.prog W .any base t v:=hval0
  have hW':=hW
  obtain⟨p,q,hA0,hV,rfl,_,_⟩:=hW
  have hA:DataW.TrodAll enc Tryz.prog W 0 (fun _=>true) true Tryz.f10.params.toList args.toList ds p:=hA0
  rw [Tryz.params10]at hA hval
  obtain⟨v0,d0,rfl,rfl,h0⟩:=trodAll_one hA
  obtain⟨rfl,rfl⟩:=trodVars_none hV
  clear hA0 hval0
  simp only [List.append_nil]at hW'
  have hlt:∀x∈p,x.block<W.heap.size:=fun x hx=>by simpa using hW'.lt x hx
  obtain⟨xs,hr,hb⟩:=Go.TX.Zm Tryz.underlying22 Tryz.underlying5 ajl (hval 0 22 v0 rfl rfl) h0 hlt
  have hp:=Go.TX.F.ao2 xs hb
  have hq:=Go.TX.F.ao3 xs hb
  refine(Go.TX.aqv Go.TX.F.ac1.ok hr (fun g d h=>by cases h) hp).mono fun e W' ⟨he,hw⟩=> ?_
  have he:e= .returned (.bool true):=he.trans (congrArg (fun z:Bool×Unit=>Ending.returned (.bool z.1)) hq)
  refine⟨_,he,[d0],[],p,[],p,[],hW',trodAll_mk1 (shut_bool Tryz.underlying4 true),?_,rfl,hw.frame _,fun h=>by cases h⟩
  exact trodAll_mk1 (Below.trod ao4 (by kernel_rfl) (of_decide_eq_true (by kernel_rfl)) h0 hw hlt)
theorem y1:Tryz.pinned.checked.prog.funcNamed Rows.fnOptSetsRow.func=some 10:=by kernel_rfl
theorem aS {a b:Bool} (h:a=true) (k:b=true):(a&&b)=true:=by rw [h,k];rfl
set_option maxHeartbeats 4000000 in
theorem y2:joinedFacts Tryz.pinned.checked.prog 10 Tryz.f10 Rows.fnOptSetsSpec Rows.fnOptSetsRow=true:=by
  unfold joinedFacts
  repeat' with_reducible apply aS
  all_goals (as_aux_lemma=>kernel_rfl)
theorem y3:Func.isWrapper Tryz.prog Tryz.f10 Rows.fnOptSetsRow.wrapper Rows.fnOptSetsRow.mainSum:=(by unfold Func.isWrapper;first | (rw [if_pos (by decide+kernel)];kernel_rfl) | (rw [if_neg (by decide+kernel)];exact⟨rfl,rfl⟩))
theorem x_holds:Rows.FnOptSetsSaid:=
  OpenClaim.holds_of_wide 10 Tryz.f10 rfl rfl rfl rfl rfl rfl rfl ⟨rfl,rfl,rfl,rfl,rfl⟩ rfl rfl rfl rfl rfl y1 Tryz.func10 y2
    (of_decide_eq_true (by kernel_rfl)) y3
    (fun os started H enc _=>lifted os started H enc)
end Go.Proofs.YtnhlcljjjbjfeaaGreat
