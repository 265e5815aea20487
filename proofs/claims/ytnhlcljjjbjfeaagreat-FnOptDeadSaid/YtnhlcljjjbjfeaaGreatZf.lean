/- For every input the law returns true, and the input reads as it did. No condition. -/
import Derived.Test.YtnhlcljjjbjfeaaGreatZe
import Derived.ChangeSlices
import Derived.ChangeSame
import Derived.JoinedOf
import Derived.JoinedAt
import Derived.Handed
import Derived.Below
import Derived.Carry
import Derived.OpenShut
import Derived.ChangeKeysEq
import Derived.Test.YtnhlcljjjbjfeaaGreatY
import Derived.Test.YtnhlcljjjbjfeaaGreatRows
set_option linter.all false
set_option linter.unusedSectionVars false
set_option linter.unusedVariables false
set_option linter.unusedSimpArgs false
namespace Go.TX.F
open Go Go.AE Go.TX
noncomputable def SW (t:List Atom) (b:Blk) (i:Nat):SS:=(b.ops.take i).foldl stp (s0 t)
structure At (t:List Atom) (b:Blk) (i:Nat) (ld inn:Int) (tb:List Atom) (V:List (List ak)) (ev:List Ev) (rg:List (List ak)):Prop where
  ld:ld=(SW t b i).ld
  inn:inn=(SW t b i).inn
  tb:tb=(SW t b i).t
  V:V=(SW t b i).vals++List.replicate (b.ops.length-i) []
  ev:ev=(SW t b i).evs
  rg:rg=(SW t b i).regs
theorem At.aqY {t:List Atom} {b:Blk} {i:Nat} {ld inn:Int} {tb:List Atom} {V:List (List ak)} {ev:List Ev} {rg:List (List ak)} (h:At t b i ld inn tb V ev rg) (hv:(SW t b i).vals.length=i) (hi:i≤b.ops.length):V.length=b.ops.length:=by
  rw [h.V,List.length_append,List.length_replicate,hv];omega
theorem UG (t:List Atom):∀(l:List IOp) (s:SS),(l.foldl stp s).evs.length≤s.evs.length+l.length
  | [],s=>Nat.le_refl _
  | o::r,s=>by
    rw [List.foldl_cons,List.length_cons]
    have h1:=UG t r (stp s o)
    have h2:(stp s o).evs.length≤s.evs.length+1:=by
      show(nE s o).length≤_
      unfold nE;split
      · rw [List.length_append];exact Nat.le_refl _
      · omega
    omega
theorem ahw {t:List Atom} {b:Blk} (i:Nat) (hi:i≤b.ops.length):(SW t b i).evs.length≤i:=by
  have:=UG t (b.ops.take i) (s0 t)
  rw [List.length_take,Nat.min_eq_left hi]at this
  show((b.ops.take i).foldl stp (s0 t)).evs.length≤i
  have e:(s0 t).evs.length=0:=rfl
  omega
theorem abV {t:List Atom} {b:Blk} {i:Nat} (hi:i<b.ops.length):SW t b (i+1)=stp (SW t b i) (b.ops.getD i default):=by
  unfold SW;rw [kC _ _ hi,getD_lt hi]
theorem At.next {t:List Atom} {b:Blk} {i:Nat} {ld inn:Int} {tb:List Atom} {V:List (List ak)} {ev:List Ev} {rg:List (List ak)} (h:At t b i ld inn tb V ev rg) (hv:(SW t b i).vals.length=i) (hi:i<b.ops.length) {o:IOp} (ho:b.ops.getD i default=o)
    {ld' ZF:Int} {tb':List Atom} {V':List (List ak)} {ev':List Ev} {rg':List (List ak)} (h1:ld'=if o.kind=4 then ld+1 else ld) (h2:ZF=if o.kind=6 then inn+1 else inn) (h3:tb'=nT (SW t b i) o) (h4:V'=V.set i (nV (SW t b i) o)) (h5:ev'=nE (SW t b i) o) (h6:rg'=nR (SW t b i) o):At t b (i+1) ld' ZF tb' V' ev' rg':=by
  have e:=abV (t:=t) hi
  rw [ho]at e
  refine⟨?_,?_,?_,?_,?_,?_⟩<;>rw [e]
  · rw [h1,h.ld];rfl
  · rw [h2,h.inn];rfl
  · exact h3
  · rw [h4,h.V]
    show _=((SW t b i).vals++ [nV (SW t b i) o])++_
    rw [List.set_append_right _ _ (by omega),hv,Nat.sub_self,show b.ops.length-i=(b.ops.length- (i+1))+1 by omega,List.replicate_succ,List.set_cons_zero,List.append_assoc];rfl
  · exact h5
  · exact h6
set_option maxHeartbeats 1000000 in
theorem an6 {p1:Blk×Unit→Bool} {f1:Blk×Unit→Bool×Bool×Bool×Unit} (hp1:∀b,p1 (b,())=true) (hf1:∀b,f1 (b,())=(decide (b.fin≠1),decide (3≤b.fin),decide (b.fin≠2),()))
    {p2:Blk×Unit→Bool} {f2:Blk×Unit→Bool×Unit} (hp2:∀b,b.ops.length<1000000000→p2 (b,())=true) (hf2:∀b,b.ops.length<1000000000→f2 (b,())=(bp (bJ b),()))
    {p3:IOp×Unit→Bool} {f3:IOp×Unit→Bool×Unit} (hp3:∀o,p3 (o,())=true) (hf3:∀o,f3 (o,())=(decide (evO o),()))
    {p4:IOp×Unit→Bool} {f4:IOp×Unit→Bool×Bool×Bool×Bool×Unit} (hp4:∀o,p4 (o,())=true) (hf4:∀o,f4 (o,())=(decide (hX o),decide (hY o),decide (hK o),decide (evO o),()))
    {p5:Int×Unit→Bool} {f5:Int×Unit→List ak×Unit} (hp5:∀n,p5 (n,())=true) (hf5:∀n,f5 (n,())=(aY n,()))
    {p6:Sym×Int×Unit→Bool} {f6:Sym×Int×Unit→Sym×Unit} (hp6:∀s n,ShY s→0≤s.fin→s.fin≤4→p6 (s,n,())=true) (hf6:∀s n,ShY s→0≤s.fin→s.fin≤4→f6 (s,n,())=(symEnd s n,()))
    {p7:List Atom×Unit→Bool} {f7:List Atom×Unit→Bool×Unit} (hp7:∀a,ShT a→p7 (a,())=true) (hf7:∀a,ShT a→f7 (a,())=(bp (aI a),()))
    {p8:List Atom×Unit→Bool} {f8:List Atom×Unit→List Atom×Unit} (hp8:∀a,ShT a→p8 (a,())=true) (hf8:∀a,ShT a→f8 (a,())=(a,()))
    {p9:List Atom×Int×List ak×List ak×Unit→Bool} {f9:List Atom×Int×List ak×List ak×Unit→List Atom×List ak×Bool×Unit} (hp9:∀(t:List Atom) op x y,t.length<1000000000→Sh x→Sh y→p9 (t,op,x,y,())=true)
    (hf9:∀(t:List Atom) op x y,t.length<1000000000→Sh x→Sh y→(f9 (t,op,x,y,())).1=(tDo t op x y).1∧(f9 (t,op,x,y,())).2.1=(tDo t op x y).2∧(f9 (t,op,x,y,())).2.2.1=tOk t op x y)
    {p10:Int×Int×List Atom×Bool×Unit→Bool} {f10:Int×Int×List Atom×Bool×Unit→List ak×List Atom×Bool×Unit} (abW:∀kd k (t:List Atom) fl,t.length<1000000000→p10 (kd,k,t,fl,())=true)
    (ahx:∀kd k (t:List Atom) fl,t.length<1000000000→f10 (kd,k,t,fl,())=if(bI t ⟨kd,k,[],[]⟩).2<0 then([],t,true,())else(ig (bI t ⟨kd,k,[],[]⟩).2,(bI t ⟨kd,k,[],[]⟩).1,fl,()))
    {p11:List Atom×Bool×Unit→Bool} {f11:List Atom×Bool×Unit→List Atom×Bool×List (List ak)×Unit} (aqZ:∀(t:List Atom) fl,aI t→t.length≤196→p11 (t,fl,())=true) (aq0:∀(t:List Atom) fl,aI t→t.length≤196→f11 (t,fl,())=((rN t 4).1,fl,(rN t 4).2,()))
    {p12:List (List ak)×Unit→Bool} {f12:List (List ak)×Unit→List (List ak)×List (List ak)×Unit} (an7:∀a:List (List ak),0<a.length→a.length<1000000000→p12 (a,())=true) (an8:∀a:List (List ak),0<a.length→a.length<1000000000→f12 (a,())=(a,a,()))
    (t:List Atom) (b:Blk) (ht:ShT t) (hb:b.ops.length<1000000000):YK (std 0) p1 f1 p2 f2 p3 f3 p4 f4 p5 f5 p6 f6 p7 f7 p8 f8 p9 f9 p10 f10 p11 f11 p12 f12 (t,b,()) (fun y=>y=((bK t b).1,(bK t b).2,())):=by
  have hlt:=ht.1
  dsimp only [YK,Alg.cl,Alg.cg,Alg.rb,Alg.bd,Alg.l1,Tup.q,Tup.o]
  simp (disch:=omega) only [RR,RB,hp7 t ht,hf7 t ht,hp2 b hb,hf2 b hb]
  by_cases c:aI t∧t.length≤100∧bJ b
  case neg=>
    refine⟨fun _=> ?_,fun h=> ?_⟩
    · unfold bK;rw [gZ c];rfl
    · exact absurd ⟨bN.1 h.1.1,by omega,bN.1 h.2⟩ c
  obtain⟨c1,c2,c3⟩:=c
  simp (disch:=omega) only [RR,dF c1,dF c3,aqZ t false c1 (by omega),aq0 t false c1 (by omega)]
  have sz:=c3.sz
  have hop:=c3.op
  have hk3:=c3.k3
  have i0:=zw c1 (by omega)
  have siw:∀j:Nat,j≤b.ops.length→SI (t.length+4) j (SW t b j):=fun j hj=>by
    have:=(uS (b.ops.take j) 0 (s0 t) i0 (fun o ho=>hk3 o (List.mem_of_mem_take ho)) (by rw [List.length_take];omega) (by rw [List.length_take];omega)).1
    rw [List.length_take,Nat.min_eq_left hj,Nat.zero_add]at this;exact this
  refine⟨fun h=>absurd h (by omega),fun _=>⟨by omega,by omega,?_⟩⟩
  refine aA (fun(y:Int×Int×List IOp×Int×Int×Blk×Int×Int×List Atom×Bool×Int×Int×List (List ak)×List Ev×List (List ak)×Unit)=>y.2.2.2.2.2.1=b∧y.2.2.1=b.ops∧y.2.2.2.1=b.ops.length∧y.2.2.2.2.2.2.2.2.2.1=false∧y.2.2.2.2.2.2.2.2.2.2.1=b.fin∧y.2.2.2.2.2.2.2.2.2.2.2.1=b.k∧
      0≤y.2.2.2.2.1∧y.2.2.2.2.1≤b.ops.length∧At t b y.2.2.2.2.1.toNat y.1 y.2.1 y.2.2.2.2.2.2.2.2.1 y.2.2.2.2.2.2.2.2.2.2.2.2.1 y.2.2.2.2.2.2.2.2.2.2.2.2.2.1 y.2.2.2.2.2.2.2.2.2.2.2.2.2.2.1) (fun y=>(b.ops.length-y.2.2.2.2.1).toNat)
    ⟨rfl,rfl,rfl,rfl,rfl,rfl,by simp,by simp,⟨rfl,rfl,rfl,rfl,rfl,rfl⟩⟩ ?_
  rintro⟨(ld:Int),(inn:Int),(ops:List IOp),(n:Int),(i:Int),(b':Blk),(z1:Int),(z2:Int),(tb:List Atom),(fl:Bool),(fin:Int),(kk:Int),(V:List (List ak)),(ev:List Ev),(rg:List (List ak)),⟨⟩⟩ hI
  dsimp only at hI ⊢
  obtain⟨e1,e2,e3,e4,e5,e6,h1,h2,hA⟩:=hI
  subst e1 e2 e3 e4 e5 e6
  have hl:V.length=b'.ops.length:=hA.aqY (siw i.toNat (by omega)).vl (by omega)
  have si:=siw i.toNat (by omega)
  obtain⟨a1,a2,a3,a4,a5,a6⟩:=hA
  have tl:tb.length<1000000000:=by rw [a3];have:=si.tl;omega
  have r4:rg.length=4:=by rw [a6];exact si.r4
  have evl:ev.length≤i.toNat:=by rw [a5];exact ahw i.toNat (by omega)
  by_cases h7:i<b'.ops.length
  case neg=>
    have en:=c3.en
    have hf:=en.f
    have hpc:=c3.pc
    have hln:=c3.ln
    have ein:i.toNat=b'.ops.length:=by omega
    have eS:SW t b' i.toNat=eB t b':=by unfold SW eB;rw [ein,List.take_of_length_le (Nat.le_refl _)]
    rw [eS]at a1 a2 a3 a4 a5 a6 si
    have eV:V=(eB t b').vals:=by rw [a4,ein,Nat.sub_self];simp
    clear a4
    have pk:=Kl (b:=b') si
    have eR:=ku c1 c2 c3
    have sh:ShY (jQ b' (eB t b')):=by
      have i0:=zw c1 (by omega)
      have hs:=RN b'.ops 0 (s0 t) i0 hk3 (by omega) (by omega) ⟨by simp [s0],fun e he=>absurd he (by simp [s0])⟩
      exact⟨⟨by have:=hs.1;show(b'.ops.foldl stp (s0 t)).evs.length<_;omega,hs.2⟩,si.regs,pk.1.sh,pk.2.sh⟩
    have st:=si.tok.sh
    have q6:=hp6 (jQ b' (eB t b')) (b'.pc+b'.len) sh (by show 0≤b'.fin;omega) hf.2
    have r6:=hf6 (jQ b' (eB t b')) (b'.pc+b'.len) sh (by show 0≤b'.fin;omega) hf.2
    subst a1 a2 a3 a5 a6 eV
    have x1:=en.x1
    have y1:=en.y1
    have sl:=si.vl
    have E:jQ b' (eB t b')=⟨(eB t b').evs,(eB t b').regs,b'.fin,if b'.fin=1 then []else(((eB t b').vals).getD (b'.x).toNat default),if 3≤b'.fin then(((eB t b').vals).getD (b'.y).toNat default)else [],b'.k⟩:=rfl
    rw [E]at q6 r6
    rcases(by omega:b'.fin=1∨b'.fin=2∨3≤b'.fin)with c | c | c
    · have n2:¬3≤b'.fin:=by omega
      rw [if_pos c,if_neg n2]at q6 r6
      simp (disch:=omega) only [RR,RB,h7,hp1,hf1,decide_eq_false n2,c,ne_eq,not_true_eq_false,decide_false,hp8 _ st,hf8 _ st]
      rw [c]at q6 r6
      rw [eR,E,if_pos c,if_neg n2,c]
      exact⟨fun h=>absurd h (by omega),fun _=>⟨q6,by rw [r6]⟩⟩
    · have n1:b'.fin≠1:=by omega
      have n2:¬3≤b'.fin:=by omega
      obtain⟨v1,v2,_⟩:=x1 n1
      rw [if_neg n1,if_neg n2]at q6 r6
      simp (disch:=omega) only [RR,RB,h7,hp1,hf1,decide_eq_true n1,decide_eq_false n2,hp8 _ st,hf8 _ st]
      rw [eR,E,if_neg n1,if_neg n2]
      exact⟨v1,by omega,v1,by omega,q6,by rw [r6]⟩
    · have n1:b'.fin≠1:=by omega
      obtain⟨v1,v2,_⟩:=x1 n1
      obtain⟨w1,w2,_⟩:=y1 c
      rw [if_neg n1,if_pos c]at q6 r6
      simp (disch:=omega) only [RR,RB,h7,hp1,hf1,decide_eq_true n1,decide_eq_true c,hp8 _ st,hf8 _ st]
      rw [eR,E,if_neg n1,if_pos c]
      exact⟨v1,by omega,v1,by omega,w1,by omega,w1,by omega,q6,by rw [r6]⟩
  have hok:=hop i h1 h7
  have nxt:=fun {ld' ZF:Int} {tb':List Atom} {V':List (List ak)} {ev':List Ev} {rg':List (List ak)}=>At.next (t:=t) (b:=b') (i:=i.toNat) (o:=((b'.ops).getD (i).toNat default)) ⟨a1,a2,a3,a4,a5,a6⟩ si.vl (by omega) rfl (ld':=ld') (ZF:=ZF) (tb':=tb') (V':=V') (ev':=ev') (rg':=rg')
  have ei:(i+1).toNat=i.toNat+1:=by omega
  have vx:∀j:Int,0≤j→j<i→((V).getD (j).toNat default)=(((SW t b' i.toNat).vals).getD (j).toNat default):=fun j j1 j2=>by
    have:=si.vl
    rw [a4,getD_lt (by rw [List.length_append];omega),getD_lt (by omega),List.getElem_append_left]
  have ex:hX ((b'.ops).getD (i).toNat default)→((V).getD ((((b'.ops).getD (i).toNat default)).x).toNat default)=xOf (SW t b' i.toNat) ((b'.ops).getD (i).toNat default):=fun h=>by
    unfold xOf;rw [if_pos h];exact vx _ (hok.x1 h).1 (hok.x1 h).2.1
  have ey:hY ((b'.ops).getD (i).toNat default)→((V).getD ((((b'.ops).getD (i).toNat default)).y).toNat default)=yOf (SW t b' i.toNat) ((b'.ops).getD (i).toNat default):=fun h=>by
    unfold yOf;rw [if_pos h];exact vx _ (hok.y1 h).1 (hok.y1 h).2.1
  have v0:V.set i.toNat []=V:=by
    have:=si.vl
    rw [a4,List.set_append_right _ _ (by omega),this,Nat.sub_self,show b'.ops.length-i.toNat=(b'.ops.length- (i.toNat+1))+1 by omega,List.replicate_succ,List.set_cons_zero]
  obtain⟨sn,so⟩:=Kh (o:=((b'.ops).getD (i).toNat default)) si hok.k3 (by omega) (by omega)
  have gl:=si.ld
  have gi:=si.inn
  have shx:=(si.x ((b'.ops).getD (i).toNat default)).1.sh
  have shy:=(si.y ((b'.ops).getD (i).toNat default)).1.sh
  generalize hs:SW t b' i.toNat=s at*
  generalize ho:((b'.ops).getD (i).toNat default)=o at*
  have kd:=hok.kd
  subst a1 a2 a3 a5 a6
  have L0:o.kind≠4→s.ld=if o.kind=4 then s.ld+1 else s.ld:=fun h=>by rw [if_neg h]
  have I0:o.kind≠6→s.inn=if o.kind=6 then s.inn+1 else s.inn:=fun h=>by rw [if_neg h]
  have T0:o.kind≠3→o.kind≠4→o.kind≠6→s.t=nT s o:=fun h3 h4 h6=>by unfold nT;rw [if_neg h3,if_neg (by omega)]
  have R0:o.kind≠8→s.regs=nR s o:=fun h=>by unfold nR;rw [if_neg h]
  have E0:¬evO o→s.evs=nE s o:=fun h=>by unfold nE;rw [if_neg h]
  have V0:o.kind=5∨o.kind=7∨o.kind=8→V=V.set i.toNat (nV s o):=fun h=>by
    rw [show nV s o=[] by unfold nV;rw [if_neg (by omega),if_neg (by omega),if_neg (by omega),if_neg (by omega)],v0]
  have P0:∀kd k,0≤(bI s.t ⟨kd,k,[],[]⟩).2→f10 (kd,k,s.t,false,())=(ig (bI s.t ⟨kd,k,[],[]⟩).2,(bI s.t ⟨kd,k,[],[]⟩).1,false,()):=fun kd k h=>by
    rw [ahx _ _ _ _ tl,if_neg (by omega)]
  have y0:¬hY o→yOf s o=[]:=fun h=>by unfold yOf;rw [if_neg h]
  have x0:¬hX o→xOf s o=[]:=fun h=>by unfold xOf;rw [if_neg h]
  rcases(by omega:o.kind=1∨o.kind=2∨o.kind=3∨o.kind=4∨o.kind=5∨o.kind=6∨o.kind=7∨o.kind=8)with c | c | c | c | c | c | c | c
  · have dX:decide (hX o)=false:=decide_eq_false (by unfold hX;omega)
    have dY:decide (hY o)=false:=decide_eq_false (by unfold hY;omega)
    have dE:decide (evO o)=false:=decide_eq_false (by unfold evO;omega)
    have N:At t b' (i.toNat+1) s.ld s.inn s.t (V.set i.toNat (aY o.k)) s.evs s.regs:=nxt (L0 (by omega)) (I0 (by omega)) (T0 (by omega) (by omega) (by omega)) (by unfold nV;rw [if_pos c]) (E0 (by unfold evO;omega)) (R0 (by omega))
    simp (disch:=omega) only [RR,RB,ho,h7,hp4,hf4,hp3,hf3,dX,dY,dE,c,Int.reduceEq,List.length_cons,List.length_nil,hp5,hf5]
    repeat' apply And.intro
    all_goals first | omega | (rw [ei];exact N)
  · have dX:decide (hX o)=false:=decide_eq_false (by unfold hX;omega)
    have dY:decide (hY o)=false:=decide_eq_false (by unfold hY;omega)
    have dE:decide (evO o)=false:=decide_eq_false (by unfold evO;omega)
    have k2:=hok.k2 (Or.inl c)
    have N:At t b' (i.toNat+1) s.ld s.inn s.t (V.set i.toNat ((s.regs).getD (o.k).toNat default)) s.evs s.regs:=nxt (L0 (by omega)) (I0 (by omega)) (T0 (by omega) (by omega) (by omega)) (by unfold nV;rw [if_neg (by omega),if_pos c]) (E0 (by unfold evO;omega)) (R0 (by omega))
    simp (disch:=omega) only [RR,RB,ho,h7,hp4,hf4,hp3,hf3,dX,dY,dE,c,Int.reduceEq,List.length_cons,List.length_nil,r4]
    repeat' apply And.intro
    all_goals first | omega | (rw [ei];exact N)
  · have dX:decide (hX o)=true:=decide_eq_true (by unfold hX;omega)
    have dY:decide (hY o)=true:=decide_eq_true (by unfold hY;omega)
    have dE:decide (evO o)=false:=decide_eq_false (by unfold evO;omega)
    have v1:=hok.x1 (by unfold hX;omega)
    have v2:=hok.y1 (by unfold hY;omega)
    have u1:=v1.2.1
    have u2:=v2.2.1
    have w1:=v1.1
    have w2:=v2.1
    obtain⟨d1,d2,d3⟩:=hf9 s.t o.k _ _ tl shx shy
    have d4:=(so.d c).ok
    have N:At t b' (i.toNat+1) s.ld s.inn (tDo s.t o.k (xOf s o) (yOf s o)).1 (V.set i.toNat (tDo s.t o.k (xOf s o) (yOf s o)).2) s.evs s.regs:=nxt (L0 (by omega)) (I0 (by omega)) (by unfold nT;rw [if_pos c]) (by unfold nV;rw [if_neg (by omega),if_neg (by omega),if_pos c]) (E0 (by unfold evO;omega)) (R0 (by omega))
    simp (disch:=omega) only [RR,RB,ho,h7,hp4,hf4,hp3,hf3,dX,dY,dE,c,Int.reduceEq,List.length_cons,List.length_nil,ex (by unfold hX;omega),ey (by unfold hY;omega),hp9 s.t o.k _ _ tl shx shy,d1,d2,d3,d4]
    repeat' apply And.intro
    all_goals first | omega | (rw [ei];exact N)
  · have dX:decide (hX o)=true:=decide_eq_true (by unfold hX;omega)
    have dY:decide (hY o)=false:=decide_eq_false (by unfold hY;omega)
    have dE:decide (evO o)=true:=decide_eq_true (by unfold evO;omega)
    have v1:=hok.x1 (by unfold hX;omega)
    have u1:=v1.2.1
    have w1:=v1.1
    have ea:aOf s o=⟨2,s.ld,[],[]⟩:=by unfold aOf;rw [if_pos c]
    have pp:=so.p (Or.inl c)
    rw [ea]at pp
    have N:At t b' (i.toNat+1) (s.ld+1) s.inn (bI s.t ⟨2,s.ld,[],[]⟩).1 (V.set i.toNat (ig (bI s.t ⟨2,s.ld,[],[]⟩).2)) (s.evs++ [⟨4,o.at_,xOf s o,[],s.regs⟩]) s.regs:=nxt (by rw [if_pos c]) (I0 (by omega)) (by unfold nT;rw [if_neg (by omega),if_pos (Or.inl c),ea]) (by unfold nV;rw [if_neg (by omega),if_neg (by omega),if_neg (by omega),if_pos (Or.inl c),ea]) (by unfold nE;rw [if_pos (by unfold evO;omega),if_pos (Or.inl c),c,y0 (by unfold hY;omega)]) (R0 (by omega))
    simp (disch:=omega) only [RR,RB,ho,h7,hp4,hf4,hp3,hf3,dX,dY,dE,c,Int.reduceEq,List.length_cons,List.length_nil,ex (by unfold hX;omega),an7 s.regs (by omega) (by omega),an8 s.regs (by omega) (by omega),abW 2 s.ld s.t false tl,P0 2 s.ld pp]
    repeat' apply And.intro
    all_goals first | omega | (rw [ei];exact N)
  · have dX:decide (hX o)=true:=decide_eq_true (by unfold hX;omega)
    have dY:decide (hY o)=true:=decide_eq_true (by unfold hY;omega)
    have dE:decide (evO o)=true:=decide_eq_true (by unfold evO;omega)
    have v1:=hok.x1 (by unfold hX;omega)
    have v2:=hok.y1 (by unfold hY;omega)
    have u1:=v1.2.1
    have u2:=v2.2.1
    have w1:=v1.1
    have w2:=v2.1
    have N:At t b' (i.toNat+1) s.ld s.inn s.t V (s.evs++ [⟨5,o.at_,xOf s o,yOf s o,s.regs⟩]) s.regs:=nxt (L0 (by omega)) (I0 (by omega)) (T0 (by omega) (by omega) (by omega)) (V0 (by omega)) (by unfold nE;rw [if_pos (by unfold evO;omega),if_pos (Or.inr c),c]) (R0 (by omega))
    simp (disch:=omega) only [RR,RB,ho,h7,hp4,hf4,hp3,hf3,dX,dY,dE,c,Int.reduceEq,List.length_cons,List.length_nil,ex (by unfold hX;omega),ey (by unfold hY;omega),an7 s.regs (by omega) (by omega),an8 s.regs (by omega) (by omega)]
    repeat' apply And.intro
    all_goals first | omega | (rw [ei];exact N)
  · have dX:decide (hX o)=false:=decide_eq_false (by unfold hX;omega)
    have dY:decide (hY o)=false:=decide_eq_false (by unfold hY;omega)
    have dE:decide (evO o)=true:=decide_eq_true (by unfold evO;omega)
    have ea:aOf s o=⟨3,s.inn,[],[]⟩:=by unfold aOf;rw [if_neg (by omega)]
    have pp:=so.p (Or.inr c)
    rw [ea]at pp
    have N:At t b' (i.toNat+1) s.ld (s.inn+1) (bI s.t ⟨3,s.inn,[],[]⟩).1 (V.set i.toNat (ig (bI s.t ⟨3,s.inn,[],[]⟩).2)) (s.evs++ [⟨6,o.at_,[],[],[]⟩]) s.regs:=nxt (L0 (by omega)) (by rw [if_pos c]) (by unfold nT;rw [if_neg (by omega),if_pos (Or.inr c),ea]) (by unfold nV;rw [if_neg (by omega),if_neg (by omega),if_neg (by omega),if_pos (Or.inr c),ea]) (by unfold nE;rw [if_pos (by unfold evO;omega),if_neg (by omega),c,x0 (by unfold hX;omega),y0 (by unfold hY;omega)]) (R0 (by omega))
    simp (disch:=omega) only [RR,RB,ho,h7,hp4,hf4,hp3,hf3,dX,dY,dE,c,Int.reduceEq,List.length_cons,List.length_nil,abW 3 s.inn s.t false tl,P0 3 s.inn pp]
    repeat' apply And.intro
    all_goals first | omega | (rw [ei];exact N)
  · have dX:decide (hX o)=true:=decide_eq_true (by unfold hX;omega)
    have dY:decide (hY o)=false:=decide_eq_false (by unfold hY;omega)
    have dE:decide (evO o)=true:=decide_eq_true (by unfold evO;omega)
    have v1:=hok.x1 (by unfold hX;omega)
    have u1:=v1.2.1
    have w1:=v1.1
    have N:At t b' (i.toNat+1) s.ld s.inn s.t V (s.evs++ [⟨7,o.at_,xOf s o,[],[]⟩]) s.regs:=nxt (L0 (by omega)) (I0 (by omega)) (T0 (by omega) (by omega) (by omega)) (V0 (by omega)) (by unfold nE;rw [if_pos (by unfold evO;omega),if_neg (by omega),c,y0 (by unfold hY;omega)]) (R0 (by omega))
    simp (disch:=omega) only [RR,RB,ho,h7,hp4,hf4,hp3,hf3,dX,dY,dE,c,Int.reduceEq,List.length_cons,List.length_nil,ex (by unfold hX;omega)]
    repeat' apply And.intro
    all_goals first | omega | (rw [ei];exact N)
  · have dX:decide (hX o)=true:=decide_eq_true (by unfold hX;omega)
    have dY:decide (hY o)=false:=decide_eq_false (by unfold hY;omega)
    have dE:decide (evO o)=false:=decide_eq_false (by unfold evO;omega)
    have v1:=hok.x1 (by unfold hX;omega)
    have u1:=v1.2.1
    have w1:=v1.1
    have k2:=hok.k2 (Or.inr c)
    have N:At t b' (i.toNat+1) s.ld s.inn s.t V s.evs (s.regs.set o.k.toNat (xOf s o)):=nxt (L0 (by omega)) (I0 (by omega)) (T0 (by omega) (by omega) (by omega)) (V0 (by omega)) (E0 (by unfold evO;omega)) (by unfold nR;rw [if_pos c])
    simp (disch:=omega) only [RR,RB,ho,h7,hp4,hf4,hp3,hf3,dX,dY,dE,c,Int.reduceEq,List.length_cons,List.length_nil,ex (by unfold hX;omega),r4]
    repeat' apply And.intro
    all_goals first | omega | (rw [ei];exact N)
end Go.TX.F
namespace Go.TX.F
open Go Go.AE Go.TX
theorem ahy (i:Ins):QD (std 0) (i,()) (fun _=>True):=by
  dsimp only [QD,Alg.cl,Alg.cg,Alg.rb,Alg.bd,Alg.l1,Tup.q,Tup.o]
  simp (disch:=omega) only [RR]
theorem ahz {p1:Int×Int×Int×Unit→Bool} {f1:Int×Int×Int×Unit→Bool×Unit} (hp1:∀a b c,p1 (a,b,c,())=true) (hf1:∀a b c,f1 (a,b,c,())=(inB a b c,())) {p2:Ins×Unit→Bool} {f2:Ins×Unit→Bool×Unit} (hp2:∀i,p2 (i,())=true) (i:Ins):QE (std 0) p1 f1 p2 f2 (i,()) (fun _=>True):=by
  dsimp only [QE,Alg.cl,Alg.cg,Alg.rb,Alg.bd,Alg.l1,Tup.q,Tup.o]
  simp (disch:=omega) only [RR,hp1,hp2]
theorem ahA (i:Int):QF (std 0) (i,()) (fun _=>True):=by
  dsimp only [QF,Alg.cl,Alg.cg,Alg.rb,Alg.bd,Alg.l1,Tup.q,Tup.o]
theorem ahB {p1:Int×Unit→Bool} {f1:Int×Unit→Bool×Unit} (hp1:∀i,p1 (i,())=true) {p2:Ins×Unit→Bool} {f2:Ins×Unit→Bool×Unit} (hp2:∀i,p2 (i,())=true) (i:Ins):QG (std 0) p1 f1 p2 f2 (i,()) (fun _=>True):=by
  dsimp only [QG,Alg.cl,Alg.cg,Alg.rb,Alg.bd,Alg.l1,Tup.q,Tup.o]
  simp (disch:=omega) only [RR,hp1,hp2]
theorem ahC {p1:Int×Unit→Bool} {f1:Int×Unit→Bool×Unit} (hp1:∀i,p1 (i,())=true) {p2:Ins×Unit→Bool} {f2:Ins×Unit→Bool×Unit} (hp2:∀i,p2 (i,())=true) {p3:Int×Int×Int×Unit→Bool} {f3:Int×Int×Int×Unit→Bool×Unit} (hp3:∀a b c,p3 (a,b,c,())=true) (hf3:∀a b c,f3 (a,b,c,())=(inB a b c,())) {p4:Ins×Unit→Bool} {f4:Ins×Unit→Bool×Unit} (hp4:∀i,p4 (i,())=true) (pc:Int) (l:List Ins) (hl:(l.length:Int)<1000):QS (std 0) p1 f1 p2 f2 p3 f3 p4 f4 (pc,l,()) (fun _=>True):=by
  dsimp only [QS,Alg.cl,Alg.cg,Alg.rb,Alg.bd,Alg.l1,Tup.q,Tup.o]
  simp (disch:=omega) only [RR,hp1,hp2,hp3,hp4]
  refine fun _=> ?_
  refine aA (fun(y:List Ins×Int×Unit)=>y.1=l∧0≤y.2.1) (fun y=>((l.length:Int)-y.2.1).toNat) ⟨rfl,by simp⟩ ?_
  rintro⟨(l':List Ins),(j:Int),⟨⟩⟩ hI
  dsimp only at hI ⊢
  obtain⟨rfl,h1⟩:=hI
  simp (disch:=omega) only [RR,hp1,hp2,hp3,hp4,or_true]
  refine fun h=>⟨h1,h,by omega,by omega,by omega,by omega,fun _=> ?_⟩
  rw [w64 (by omega) (by omega)];constructor<;>omega
theorem ZG (a1 a2 a3 a4 a5 a6:Int) (o:IOp) (ops:List IOp) (hl:(ops.length:Int)<1000000):QT (std 0) (a1,a2,a3,a4,a5,a6,o,ops,()) (fun y=>(y.2.2.2.2.2.2.2.1.length:Int)=ops.length+1):=by
  dsimp only [QT,Alg.cl,Alg.cg,Alg.rb,Alg.bd,Alg.l1,Tup.q,Tup.o]
  simp (disch:=omega) only [RR,List.length_append,List.length_cons,List.length_nil]
  omega
theorem ZH {p1:Int×Int×Int×Int×Int×Int×IOp×List IOp×Unit→Bool} {f1:Int×Int×Int×Int×Int×Int×IOp×List IOp×Unit→Int×Int×Int×Int×Int×Int×Int×List IOp×Unit} (hp1:∀a1 a2 a3 a4 a5 a6 o ops,(ops.length:Int)<1000000→p1 (a1,a2,a3,a4,a5,a6,o,ops,())=true) (hf1:∀a1 a2 a3 a4 a5 a6 o ops,(ops.length:Int)<1000000→((f1 (a1,a2,a3,a4,a5,a6,o,ops,())).2.2.2.2.2.2.2.1.length:Int)=ops.length+1) (a1 a2 a3 a4 a5 a6:Int) (k:Int) (ops:List IOp) (hl:(ops.length:Int)<1000000):QV (std 0) p1 f1 (a1,a2,a3,a4,a5,a6,k,ops,()) (fun y=>(y.2.2.2.2.2.2.2.1.length:Int)=ops.length+1):=by
  dsimp only [QV,Alg.cl,Alg.cg,Alg.rb,Alg.bd,Alg.l1,Tup.q,Tup.o]
  simp (disch:=omega) only [RR,hp1,hf1]
theorem ZI {p1:Int×Int×Int×Int×Int×Int×IOp×List IOp×Unit→Bool} {f1:Int×Int×Int×Int×Int×Int×IOp×List IOp×Unit→Int×Int×Int×Int×Int×Int×Int×List IOp×Unit} (hp1:∀a1 a2 a3 a4 a5 a6 o ops,(ops.length:Int)<1000000→p1 (a1,a2,a3,a4,a5,a6,o,ops,())=true) (hf1:∀a1 a2 a3 a4 a5 a6 o ops,(ops.length:Int)<1000000→((f1 (a1,a2,a3,a4,a5,a6,o,ops,())).2.2.2.2.2.2.2.1.length:Int)=ops.length+1) (a1 a2 a3 a4 a5 a6:Int) (k x:Int) (ops:List IOp) (hl:(ops.length:Int)<1000000):QU (std 0) p1 f1 (a1,a2,a3,a4,a5,a6,k,x,ops,()) (fun y=>(y.2.2.2.2.2.2.1.length:Int)=ops.length+1):=by
  dsimp only [QU,Alg.cl,Alg.cg,Alg.rb,Alg.bd,Alg.l1,Tup.q,Tup.o]
  simp (disch:=omega) only [RR,hp1,hf1]
theorem ahD {p1:Int×Int×Int×Int×Int×Int×Int×List IOp×Unit→Bool} {f1:Int×Int×Int×Int×Int×Int×Int×List IOp×Unit→Int×Int×Int×Int×Int×Int×Int×List IOp×Unit} (hp1:∀a1 a2 a3 a4 a5 a6 k ops,(ops.length:Int)<1000000→p1 (a1,a2,a3,a4,a5,a6,k,ops,())=true) (hf1:∀a1 a2 a3 a4 a5 a6 k ops,(ops.length:Int)<1000000→((f1 (a1,a2,a3,a4,a5,a6,k,ops,())).2.2.2.2.2.2.2.1.length:Int)=ops.length+1) {p2:Int×Int×Int×Int×Int×Int×IOp×List IOp×Unit→Bool} {f2:Int×Int×Int×Int×Int×Int×IOp×List IOp×Unit→Int×Int×Int×Int×Int×Int×Int×List IOp×Unit} (hp2:∀a1 a2 a3 a4 a5 a6 o ops,(ops.length:Int)<1000000→p2 (a1,a2,a3,a4,a5,a6,o,ops,())=true) (hf2:∀a1 a2 a3 a4 a5 a6 o ops,(ops.length:Int)<1000000→((f2 (a1,a2,a3,a4,a5,a6,o,ops,())).2.2.2.2.2.2.2.1.length:Int)=ops.length+1) (a1 a2 a3 a4 a5 a6:Int) (k a:Int) (o:IOp) (ops:List IOp) (hl:(ops.length:Int)<999000):QW (std 0) p1 f1 p2 f2 (a1,a2,a3,a4,a5,a6,k,a,o,ops,()) (fun y=>(y.2.2.2.2.2.2.2.1.length:Int)=ops.length+3):=by
  dsimp only [QW,Alg.cl,Alg.cg,Alg.rb,Alg.bd,Alg.l1,Tup.q,Tup.o]
  simp (disch:=(first | omega | (simp (disch:=(first | omega | (simp (disch:=(first | omega | (simp (disch:=omega) only [hf1,hf2];omega))) only [hf1,hf2];omega))) only [hf1,hf2];omega))) only [RR,hp1,hp2,hf1,hf2]
  omega
theorem ahE {p1:Int×Int×Int×Int×Int×Int×Int×List IOp×Unit→Bool} {f1:Int×Int×Int×Int×Int×Int×Int×List IOp×Unit→Int×Int×Int×Int×Int×Int×Int×List IOp×Unit} (hp1:∀a1 a2 a3 a4 a5 a6 k ops,(ops.length:Int)<1000000→p1 (a1,a2,a3,a4,a5,a6,k,ops,())=true) (hf1:∀a1 a2 a3 a4 a5 a6 k ops,(ops.length:Int)<1000000→((f1 (a1,a2,a3,a4,a5,a6,k,ops,())).2.2.2.2.2.2.2.1.length:Int)=ops.length+1) {p2:Int×Int×Int×Int×Int×Int×IOp×List IOp×Unit→Bool} {f2:Int×Int×Int×Int×Int×Int×IOp×List IOp×Unit→Int×Int×Int×Int×Int×Int×Int×List IOp×Unit} (hp2:∀a1 a2 a3 a4 a5 a6 o ops,(ops.length:Int)<1000000→p2 (a1,a2,a3,a4,a5,a6,o,ops,())=true) (hf2:∀a1 a2 a3 a4 a5 a6 o ops,(ops.length:Int)<1000000→((f2 (a1,a2,a3,a4,a5,a6,o,ops,())).2.2.2.2.2.2.2.1.length:Int)=ops.length+1) {p3:Int×Int×Int×Int×Int×Int×Int×Int×IOp×List IOp×Unit→Bool} {f3:Int×Int×Int×Int×Int×Int×Int×Int×IOp×List IOp×Unit→Int×Int×Int×Int×Int×Int×Int×List IOp×Unit} (hp3:∀a1 a2 a3 a4 a5 a6 k a o ops,(ops.length:Int)<999000→p3 (a1,a2,a3,a4,a5,a6,k,a,o,ops,())=true) (hf3:∀a1 a2 a3 a4 a5 a6 k a o ops,(ops.length:Int)<999000→((f3 (a1,a2,a3,a4,a5,a6,k,a,o,ops,())).2.2.2.2.2.2.2.1.length:Int)=ops.length+3) {p4:Int×Int×Int×Int×Int×Int×Int×Int×List IOp×Unit→Bool} {f4:Int×Int×Int×Int×Int×Int×Int×Int×List IOp×Unit→Int×Int×Int×Int×Int×Int×List IOp×Unit} (hp4:∀a1 a2 a3 a4 a5 a6 k x ops,(ops.length:Int)<1000000→p4 (a1,a2,a3,a4,a5,a6,k,x,ops,())=true) (hf4:∀a1 a2 a3 a4 a5 a6 k x ops,(ops.length:Int)<1000000→((f4 (a1,a2,a3,a4,a5,a6,k,x,ops,())).2.2.2.2.2.2.1.length:Int)=ops.length+1) (a1 a2 a3 a4 a5 a6:Int) (i:Ins) (k:Int) (ops:List IOp) (hl:(ops.length:Int)<998000):QY (std 0) p1 f1 p2 f2 p3 f3 p4 f4 (a1,a2,a3,a4,a5,a6,i,k,ops,()) (fun y=>(y.2.2.2.2.2.2.1.length:Int)=ops.length+5):=by
  dsimp only [QY,Alg.cl,Alg.cg,Alg.rb,Alg.bd,Alg.l1,Tup.q,Tup.o]
  simp (disch:=(first | omega | (simp (disch:=(first | omega | (simp (disch:=(first | omega | (simp (disch:=omega) only [hf1,hf2,hf3,hf4];omega))) only [hf1,hf2,hf3,hf4];omega))) only [hf1,hf2,hf3,hf4];omega))) only [RR,hp1,hp2,hp3,hp4,hf1,hf2,hf3,hf4]
  constructor<;>intro _<;>omega
theorem ZJ {p1:Int×Int×Int×Int×Int×Int×Int×List IOp×Unit→Bool} {f1:Int×Int×Int×Int×Int×Int×Int×List IOp×Unit→Int×Int×Int×Int×Int×Int×Int×List IOp×Unit} (hp1:∀a1 a2 a3 a4 a5 a6 k ops,(ops.length:Int)<1000000→p1 (a1,a2,a3,a4,a5,a6,k,ops,())=true) (hf1:∀a1 a2 a3 a4 a5 a6 k ops,(ops.length:Int)<1000000→((f1 (a1,a2,a3,a4,a5,a6,k,ops,())).2.2.2.2.2.2.2.1.length:Int)=ops.length+1) (a1 a2 a3 a4 a5 a6:Int) (i:Ins) (ops:List IOp) (hl:(ops.length:Int)<999000):QZ (std 0) p1 f1 (a1,a2,a3,a4,a5,a6,i,ops,()) (fun y=>(y.2.2.2.2.2.2.1.length:Int)≤ops.length+5):=by
  dsimp only [QZ,Alg.cl,Alg.cg,Alg.rb,Alg.bd,Alg.l1,Tup.q,Tup.o]
  simp (disch:=(first | omega | (simp (disch:=(first | omega | (simp (disch:=(first | omega | (simp (disch:=omega) only [hf1];omega))) only [hf1];omega))) only [hf1];omega))) only [RR,hp1,hf1]
  refine⟨fun _=>by omega,fun _=>⟨fun _=>by omega,fun _=>by omega⟩⟩
theorem ahF (k:Int) (hk:k<1000):QX (std 0) (k,()) (fun _=>True):=by
  dsimp only [QX,Alg.cl,Alg.cg,Alg.rb,Alg.bd,Alg.l1,Tup.q,Tup.o]
  simp (disch:=omega) only [RR]
  refine aA (fun(y:Int×Int×Int×Unit)=>y.1=k∧0≤y.2.2.1) (fun y=>(k-y.2.2.1).toNat) ⟨rfl,by simp⟩ ?_
  rintro⟨(k':Int),(z:Int),(j:Int),⟨⟩⟩ hI
  dsimp only at hI ⊢
  obtain⟨rfl,h1⟩:=hI
  simp (disch:=omega) only [RR]
  refine fun h=> ?_
  rw [w64 (by omega) (by omega)];constructor<;>omega
theorem ahG {p1:Int×Int×Int×Int×Int×Int×Int×List IOp×Unit→Bool} {f1:Int×Int×Int×Int×Int×Int×Int×List IOp×Unit→Int×Int×Int×Int×Int×Int×Int×List IOp×Unit} (hp1:∀a1 a2 a3 a4 a5 a6 k ops,(ops.length:Int)<1000000→p1 (a1,a2,a3,a4,a5,a6,k,ops,())=true) (hf1:∀a1 a2 a3 a4 a5 a6 k ops,(ops.length:Int)<1000000→((f1 (a1,a2,a3,a4,a5,a6,k,ops,())).2.2.2.2.2.2.2.1.length:Int)=ops.length+1) {p2:Int×Int×Int×Int×Int×Int×Ins×List IOp×Unit→Bool} {f2:Int×Int×Int×Int×Int×Int×Ins×List IOp×Unit→Int×Int×Int×Int×Int×Int×List IOp×Unit} (hp2:∀a1 a2 a3 a4 a5 a6 i ops,(ops.length:Int)<999000→p2 (a1,a2,a3,a4,a5,a6,i,ops,())=true) (hf2:∀a1 a2 a3 a4 a5 a6 i ops,(ops.length:Int)<999000→((f2 (a1,a2,a3,a4,a5,a6,i,ops,())).2.2.2.2.2.2.1.length:Int)≤ops.length+5) {p3:Int×Int×Int×Int×Int×Int×IOp×List IOp×Unit→Bool} {f3:Int×Int×Int×Int×Int×Int×IOp×List IOp×Unit→Int×Int×Int×Int×Int×Int×Int×List IOp×Unit} (hp3:∀a1 a2 a3 a4 a5 a6 o ops,(ops.length:Int)<1000000→p3 (a1,a2,a3,a4,a5,a6,o,ops,())=true) (hf3:∀a1 a2 a3 a4 a5 a6 o ops,(ops.length:Int)<1000000→((f3 (a1,a2,a3,a4,a5,a6,o,ops,())).2.2.2.2.2.2.2.1.length:Int)=ops.length+1) {p4:Int×Int×Int×Int×Int×Int×Ins×Int×List IOp×Unit→Bool} {f4:Int×Int×Int×Int×Int×Int×Ins×Int×List IOp×Unit→Int×Int×Int×Int×Int×Int×List IOp×Unit} (hp4:∀a1 a2 a3 a4 a5 a6 i k ops,(ops.length:Int)<998000→p4 (a1,a2,a3,a4,a5,a6,i,k,ops,())=true) (hf4:∀a1 a2 a3 a4 a5 a6 i k ops,(ops.length:Int)<998000→((f4 (a1,a2,a3,a4,a5,a6,i,k,ops,())).2.2.2.2.2.2.1.length:Int)=ops.length+5) {p5:Int×Int×Int×Int×Int×Int×Int×Int×IOp×List IOp×Unit→Bool} {f5:Int×Int×Int×Int×Int×Int×Int×Int×IOp×List IOp×Unit→Int×Int×Int×Int×Int×Int×Int×List IOp×Unit} (hp5:∀a1 a2 a3 a4 a5 a6 k a o ops,(ops.length:Int)<999000→p5 (a1,a2,a3,a4,a5,a6,k,a,o,ops,())=true) (hf5:∀a1 a2 a3 a4 a5 a6 k a o ops,(ops.length:Int)<999000→((f5 (a1,a2,a3,a4,a5,a6,k,a,o,ops,())).2.2.2.2.2.2.2.1.length:Int)=ops.length+3) {p6:Int×Int×Int×Int×Int×Int×Int×Int×List IOp×Unit→Bool} {f6:Int×Int×Int×Int×Int×Int×Int×Int×List IOp×Unit→Int×Int×Int×Int×Int×Int×List IOp×Unit} (hp6:∀a1 a2 a3 a4 a5 a6 k x ops,(ops.length:Int)<1000000→p6 (a1,a2,a3,a4,a5,a6,k,x,ops,())=true) (hf6:∀a1 a2 a3 a4 a5 a6 k x ops,(ops.length:Int)<1000000→((f6 (a1,a2,a3,a4,a5,a6,k,x,ops,())).2.2.2.2.2.2.1.length:Int)=ops.length+1) {p7:Int×Unit→Bool} {f7:Int×Unit→Int×Unit} (hp7:∀k,k<1000→p7 (k,())=true) (a1 a2 a3 a4 a5 a6:Int) (i:Ins) (k:Int) (ops:List IOp) (hk:i.k<1000) (hl:(ops.length:Int)<997000):Q0 (std 0) p1 f1 p2 f2 p3 f3 p4 f4 p5 f5 p6 f6 p7 f7 (a1,a2,a3,a4,a5,a6,i,k,ops,()) (fun y=>(y.2.2.2.2.2.2.1.length:Int)≤ops.length+5):=by
  have e4:=fun i k=>hf4 a1 a2 a3 a4 a5 a6 i k ops (by omega)
  have e2:=fun i=>hf2 a1 a2 a3 a4 a5 a6 i ops (by omega)
  dsimp only [Q0,Alg.cl,Alg.cg,Alg.rb,Alg.bd,Alg.l1,Tup.q,Tup.o]
  simp (disch:=(first | omega | (simp (disch:=(first | omega | (simp (disch:=(first | omega | (simp (disch:=omega) only [hf1,hf3,hf5,RB];omega))) only [hf1,hf3,hf5,RB];omega))) only [hf1,hf3,hf5,RB];omega))) only [RR,RB,hp1,hp2,hp3,hp4,hp5,hp6,hp7,hf1,hf3,hf4,hf5,hf6]
  have:=e2 i
  repeat' (first | (refine⟨?_,?_⟩) | intro _)
  all_goals omega
def KB (l:List Ins):Prop:=∀i∈l,i.k<1000
theorem KB.at {l:List Ins} (h:KB l) (n:Nat):(l.getD n default).k<1000:=by
  by_cases h1:n<l.length
  · rw [getD_lt h1];exact h _ (List.getElem_mem _)
  · simp only [List.getD,List.getElem?_eq_none (by omega:l.length≤n)];decide
theorem ahH {p1:Int×List Ins×Unit→Bool} {f1:Int×List Ins×Unit→Bool×Unit} (hp1:∀pc l,(l.length:Int)<1000→p1 (pc,l,())=true) {p2:Int×Int×Int×Int×Int×Int×Ins×Int×List IOp×Unit→Bool} {f2:Int×Int×Int×Int×Int×Int×Ins×Int×List IOp×Unit→Int×Int×Int×Int×Int×Int×List IOp×Unit} (hp2:∀a1 a2 a3 a4 a5 a6 i k ops,i.k<1000→(ops.length:Int)<997000→p2 (a1,a2,a3,a4,a5,a6,i,k,ops,())=true) (hf2:∀a1 a2 a3 a4 a5 a6 i k ops,i.k<1000→(ops.length:Int)<997000→((f2 (a1,a2,a3,a4,a5,a6,i,k,ops,())).2.2.2.2.2.2.1.length:Int)≤ops.length+5) (pc:Int) (l:List Ins) (hl:(l.length:Int)<1000) (hk:KB l):Q5 (std 0) p1 f1 p2 f2 (pc,l,()) (fun y=>(y.2.2.2.2.2.2.1.length:Int)≤5000):=by
  dsimp only [Q5,Alg.cl,Alg.cg,Alg.rb,Alg.bd,Alg.l1,Tup.q,Tup.o]
  simp (disch:=omega) only [RR,hp1,List.length_nil]
  refine⟨fun _=>by omega,fun _=> ?_⟩
  refine aA (fun(y:List Ins×Int×Int×Int×Int×Int×Int×Int×Int×Int×Int×Int×Int×Int×List IOp×Unit)=>y.1=l∧0≤y.2.1∧y.2.1≤l.length∧(y.2.2.2.2.2.2.2.2.2.2.2.2.2.2.1.length:Int)≤5*y.2.1) (fun y=>((l.length:Int)-y.2.1).toNat) ⟨rfl,by simp,by simp,by simp⟩ ?_
  rintro⟨(l':List Ins),(j:Int),u1,u2,u3,u4,u5,u6,b1,b2,b3,b4,b5,b6,(ops:List IOp),⟨⟩⟩ hI
  dsimp only at hI ⊢
  obtain⟨rfl,h1,h2,h3⟩:=hI
  have hk':=hk.at j.toNat
  simp (disch:=omega) only [RR,hp2]
  refine⟨fun h=> ?_,fun h=>by omega⟩
  have:=hf2 b1 b2 b3 b4 b5 b6 ((l').getD (j).toNat default) j ops hk' (by omega)
  exact⟨h1,h,⟨by omega,by omega,by omega⟩,by omega⟩
end Go.TX.F
namespace Go.TX.F
open Go Go.AE Go.TX
structure InD (m:Int) (b:List Int) (p:Int) (y:Int×Int×Int×Int×List Int×Int×Unit):Prop where
  b:y.2.2.2.2.1=b
  lo:p≤y.2.2.2.2.2.1
  hi:y.2.2.2.2.2.1≤p+m
  k:0≤y.2.2.2.1∧y.2.2.2.1≤255
@[reducible] def ahI : List Int → Prop
  | []=>True
  | x::l=>(0≤x∧x≤255)∧ahI l
theorem Ox:∀(l:List Int) (n:Nat),ahI l→0≤l.getD n default∧l.getD n default≤255
  | [],n,_=>by simp only [List.getD_nil];decide
  | x::l,0,h=>h.1
  | x::l,n+1,h=>Ox l n h.2
theorem pkR {f1:Int×List Int×Int×Unit→Int×List Int×Int×Unit} {b:List Int} (hb:Bt b) (hf1:∀n b p,Bt b→0≤p→p<1000000000→Pk n b p (f1 (n,b,p,()))):
    (∀n p,0≤p→p<1000000000→(f1 (n,b,p,())).2.1=b)∧(∀n p,0≤p→p<1000000000→(f1 (n,b,p,())).2.2.1=p+1)∧
    (∀n p,0≤p→p<1000000000→(0≤(f1 (n,b,p,())).1)=True)∧(∀n p k,0≤p→p<1000000000→n≤k→0<k→((f1 (n,b,p,())).1<k)=True)∧
    (∀n p k,0≤p→p<1000000000→n≤k+1→0≤k→((f1 (n,b,p,())).1≤k)=True):=
  ⟨fun n p h1 h2=>(hf1 n b p hb h1 h2).1,fun n p h1 h2=>(hf1 n b p hb h1 h2).2.1,fun n p h1 h2=>eq_true (hf1 n b p hb h1 h2).2.2.1,
    fun n p k h1 h2 h3 h4=>eq_true (by have:=(hf1 n b p hb h1 h2).2.2;omega),fun n p k h1 h2 h3 h4=>eq_true (by have:=(hf1 n b p hb h1 h2).2.2;omega)⟩
theorem ahJ {p1:Int×List Int×Int×Unit→Bool} {f1:Int×List Int×Int×Unit→Int×List Int×Int×Unit} (hp1:∀n b p,Bt b→0≤p→p<1000000000→p1 (n,b,p,())=true) (hf1:∀n b p,Bt b→0≤p→p<1000000000→Pk n b p (f1 (n,b,p,()))) (b:List Int) (p:Int) (hb:Bt b) (h1:0≤p) (h2:p<900000000):QC (std 0) p1 f1 (b,p,()) (fun y=>InD 20 b p y):=by
  have R:=pkR hb hf1
  have P:=fun n p h1 h2=>hp1 n b p hb h1 h2
  dsimp only [QC,Alg.cl,Alg.cg,Alg.rb,Alg.bd,Alg.l1,Tup.q,Tup.o]
  simp (disch:=omega) only [RR,R,P,List.length_cons,List.length_nil]
  repeat' (first | (refine⟨?_,?_⟩) | intro _)
  all_goals try omega
  all_goals refine⟨rfl,by dsimp only;omega,by dsimp only;omega,?_⟩
  all_goals dsimp only
  all_goals first | omega | (refine Ox _ _ ?_;simp (disch:=omega) only [ahI,R,Int.reduceLE,and_self,true_and,and_true]) | (simp (disch:=omega) only [R,Int.reduceLE,and_self,true_and,and_true])
theorem ahK {p1:List Int×Int×Unit→Bool} {f1:List Int×Int×Unit→Int×Int×Int×Int×List Int×Int×Unit} (hp1:∀b p,Bt b→0≤p→p<900000000→p1 (b,p,())=true) (hf1:∀b p,Bt b→0≤p→p<900000000→InD 20 b p (f1 (b,p,()))) {p2:Int×List Int×Int×Unit→Bool} {f2:Int×List Int×Int×Unit→Int×List Int×Int×Unit} (hp2:∀n b p,Bt b→0≤p→p<1000000000→p2 (n,b,p,())=true) (hf2:∀n b p,Bt b→0≤p→p<1000000000→Pk n b p (f2 (n,b,p,()))) {p3:Ins×Unit→Bool} {f3:Ins×Unit→Bool×Unit} (hp3:∀i,p3 (i,())=true) (b:List Int) (p:Int) (hb:Bt b) (h1:0≤p) (h2:p<800000000):QL (std 0) p1 f1 p2 f2 p3 f3 (b,p,()) (fun y=>InD 30 b p y):=by
  obtain⟨a1,a2,a3,a4⟩:=hf1 b p hb h1 (by omega)
  have R:=pkR hb hf2
  have P:=fun n p h1 h2=>hp2 n b p hb h1 h2
  dsimp only [QL,Alg.cl,Alg.cg,Alg.rb,Alg.bd,Alg.l1,Tup.q,Tup.o]
  simp (disch:=omega) only [RR,hp1 b p hb h1 (by omega),hp3,a1,R,P]
  refine⟨fun _=>⟨rfl,by dsimp only;omega,by dsimp only;omega,?_⟩,fun _=>⟨rfl,a2,by dsimp only;omega,a4⟩⟩
  dsimp only
  simp (disch:=omega) only [R,Int.reduceLE,and_self]
structure LiD (b:List Int) (p:Int) (y:List Int×Int×List Ins×Unit):Prop where
  b:y.1=b
  lo:p≤y.2.1
  hi:y.2.1≤p+1000
  len:(y.2.2.1.length:Int)≤20
  k:KB y.2.2.1
theorem KB.app {l:List Ins} {i:Ins} (h:KB l) (h2:i.k≤255):KB (l++ [i]):=fun x hx=>by
  rw [List.mem_append,List.mem_singleton]at hx
  rcases hx with hx | rfl
  · exact h x hx
  · omega
theorem ahL {p1:List Int×Int×Unit→Bool} {f1:List Int×Int×Unit→Int×Int×Int×Int×List Int×Int×Unit} (hp1:∀b p,Bt b→0≤p→p<800000000→p1 (b,p,())=true) (hf1:∀b p,Bt b→0≤p→p<800000000→InD 30 b p (f1 (b,p,()))) {p2:Int×List Int×Int×Unit→Bool} {f2:Int×List Int×Int×Unit→Int×List Int×Int×Unit} (hp2:∀n b p,Bt b→0≤p→p<1000000000→p2 (n,b,p,())=true) (hf2:∀n b p,Bt b→0≤p→p<1000000000→Pk n b p (f2 (n,b,p,()))) (b:List Int) (p:Int) (hb:Bt b) (h1:0≤p) (h2:p<700000000):QO (std 0) p1 f1 p2 f2 (b,p,()) (fun y=>LiD b p y):=by
  obtain⟨e1,e2,e3,e4⟩:=hf2 8 b p hb h1 (by omega)
  dsimp only [QO,Alg.cl,Alg.cg,Alg.rb,Alg.bd,Alg.l1,Tup.q,Tup.o]
  simp (disch:=omega) only [RR,hp2 8 b p hb h1 (by omega),e1,e2]
  refine aA (fun(y:Int×List Int×Int×List Ins×Unit)=>0≤y.1∧y.1≤8∧y.2.1=b∧p≤y.2.2.1∧y.2.2.1+40*y.1≤p+400∧(y.2.2.2.1.length:Int)+y.1≤8∧KB y.2.2.2.1) (fun y=>y.1.toNat)
    ⟨e3,by dsimp only;omega,rfl,by dsimp only;omega,by dsimp only;omega,by dsimp only [List.length_nil];omega,fun x hx=>by cases hx⟩ ?_
  rintro⟨(k:Int),(b':List Int),(q:Int),(l:List Ins),⟨⟩⟩ hI
  dsimp only at hI ⊢
  obtain⟨k1,k2,rfl,k3,k4,k5,k6⟩:=hI
  have R:=pkR hb hf2
  have P:=fun n p h1 h2=>hp2 n b' p hb h1 h2
  obtain⟨a1,a2,a3,a4⟩:=hf1 b' q hb (by omega) (by omega)
  obtain⟨b1,b2,b3,b4⟩:=hf1 b' (q+1) hb (by omega) (by omega)
  simp (disch:=omega) only [RR,RB,hp1 b' q hb (by omega) (by omega),hp1 b' (q+1) hb (by omega) (by omega),a1,b1,R,P,List.length_cons,List.length_nil,List.length_append]
  refine⟨fun c=>⟨by omega,⟨by omega,by omega,by omega,by omega,by omega,k6.app a4.2⟩,by omega⟩,fun c=>⟨fun _=>⟨by omega,rfl,by dsimp only;omega,by dsimp only;omega,?_,?_⟩,fun _=>⟨fun _=>⟨by omega,rfl,by dsimp only;omega,by dsimp only;omega,?_,?_⟩,fun _=>⟨by omega,rfl,by dsimp only;omega,by dsimp only;omega,?_,?_⟩⟩⟩⟩
  · dsimp only;rw [List.length_append];simp only [List.length_cons,List.length_nil];omega
  · refine k6.app ?_
    dsimp only
    simp (disch:=omega) only [R]
  · dsimp only;rw [List.length_append];simp only [List.length_cons,List.length_nil];omega
  · exact k6.app (by dsimp only;omega)
  · dsimp only;rw [List.length_append];simp only [List.length_cons,List.length_nil];omega
  · exact k6.app b4.2
end Go.TX.F
namespace Go.TX.F
open Go Go.AE Go.TX
theorem ZK (b:Blk) (hb:b.ops.length<1000000):Qh (std 0) (b,()) (fun y=>y=(b.pc,b.len,b.fin,b.x,b.y,b.k,b.ops,())):=by
  dsimp only [Qh,Alg.cl,Alg.cg,Alg.rb,Alg.bd,Alg.l1,Tup.q,Tup.o]
  simp (disch:=omega) only [RR,RB,List.nil_append,List.length_nil]
  omega
def kn (ops:List IOp) (k:Int):Int×Bool:=if 0≤k∧k<ops.length∧(((ops).getD (k).toNat default)).kind=1 then((((ops).getD (k).toNat default)).k,true)else(0,false)
@[reducible] def bk7 (b : Blk) : Int × Int × Int × Int × Int × Int × List IOp × Unit := (b.pc, b.len, b.fin, b.x, b.y, b.k, b.ops, ())
structure FE (b:Blk):Prop where
  f:1≤b.fin∧b.fin≤4
  x:b.fin≠1→0≤b.x∧b.x<b.ops.length
  y:3≤b.fin→0≤b.y∧b.y<b.ops.length
  y0:b.fin≤2→b.y=0
  p:0≤b.pc∧b.pc≤100∧0≤b.len∧b.len≤100
theorem ZL (ops:List IOp) (k:Int):Qm (std 0) (ops,k,()) (fun y=>y=((kn ops k).1,(kn ops k).2,())):=by
  dsimp only [Qm,Alg.cl,Alg.cg,Alg.rb,Alg.bd,Alg.l1,Tup.q,Tup.o]
  simp (disch:=omega) only [RR,RB]
  unfold kn
  refine⟨by omega,by omega,fun h=> ?_,fun h=>⟨by omega,by omega,?_⟩⟩
  · rw [if_neg (by omega)]
  · rw [if_pos (by omega)]
theorem ZM (b:Blk) (k:Int):Qn (std 0) (b,k,()) (fun y=>y=(b.pc,b.len,b.ops,1,0,0,k,())):=by
  dsimp only [Qn,Alg.cl,Alg.cg,Alg.rb,Alg.bd,Alg.l1,Tup.q,Tup.o]
  simp (disch:=omega) only [RR,RB]
theorem ahM {p1:Blk×Int×Unit→Bool} {f1:Blk×Int×Unit→Int×Int×List IOp×Int×Int×Int×Int×Unit} (hp1:∀b k,p1 (b,k,())=true) (hf1:∀b k,f1 (b,k,())=(b.pc,b.len,b.ops,1,0,0,k,())) {p2:List IOp×Int×Unit→Bool} {f2:List IOp×Int×Unit→Int×Bool×Unit} (hp2:∀ops k,p2 (ops,k,())=true) (hf2:∀ops k,f2 (ops,k,())=((kn ops k).1,(kn ops k).2,())) (b:Blk) (h:FE b):Qo (std 0) p1 f1 p2 f2 (b,()) (fun y=>y=(fcB b b.ops,())):=by
  have hp:=h.p
  have hf:=h.f
  have k1:b.fin≠1→kn b.ops b.x=if(((b.ops).getD (b.x).toNat default)).kind=1 then((((b.ops).getD (b.x).toNat default)).k,true)else(0,false):=fun c=>by
    have:=h.x c
    unfold kn;simp only [this,true_and]
  have k2:3≤b.fin→kn b.ops b.y=if(((b.ops).getD (b.y).toNat default)).kind=1 then((((b.ops).getD (b.y).toNat default)).k,true)else(0,false):=fun c=>by
    have:=h.y c
    unfold kn;simp only [this,true_and]
  have y0:=h.y0
  have mkE:∀p l o f x y k,Co.mk .blk (p,l,o,f,x,y,k,())=Blk.mk p l o f x y k:=fun _ _ _ _ _ _ _=>rfl
  dsimp only [Qo,Alg.cl,Alg.cg,Alg.rb,Alg.bd,Alg.l1,Tup.q,Tup.o]
  simp (disch:=omega) only [RR,RB,hp1,hf1,hp2,hf2,mkE,Bool.and_eq_false_iff]
  by_cases c1:b.fin=1
  · have e:fcB b b.ops=b:=by unfold fcB;rw [if_neg (by omega),if_neg (by omega)]
    rw [e]
    refine⟨fun h=>absurd h.1 (by omega),fun _=>⟨fun h=>absurd h.1.1.1 (by omega),fun _=>⟨fun h=>absurd h.1.1.1 (by omega),fun _=>⟨fun h=>absurd h.1.1 (by omega),fun _=>rfl⟩⟩⟩⟩
  · rw [k1 c1]
    by_cases c2:b.fin=2
    · by_cases d:(((b.ops).getD (b.x).toNat default)).kind=1
      · have e:fcB b b.ops=⟨b.pc,b.len,b.ops,1,0,0,(((b.ops).getD (b.x).toNat default)).k⟩:=by unfold fcB;rw [if_pos ⟨c2,d⟩,y0 (by omega)]
        rw [if_pos d,e]
        refine⟨fun _=>rfl,fun h=> ?_⟩
        rcases h with h | h
        · exact absurd c2 h
        · cases h
      · have e:fcB b b.ops=b:=by unfold fcB;rw [if_neg (fun g=>d g.2),if_neg (by omega)]
        rw [if_neg d,e]
        refine⟨fun h=>absurd h.2 (by decide),fun _=>⟨fun h=>absurd h.1.1.1 (by omega),fun _=>⟨fun h=>absurd h.1.1.1 (by omega),fun _=>⟨fun h=>absurd h.1.1 (by omega),fun _=>rfl⟩⟩⟩⟩
    · rw [k2 (by omega)]
      refine⟨fun h=>absurd h.1 c2,fun _=> ?_⟩
      by_cases d:(((b.ops).getD (b.x).toNat default)).kind=1∧(((b.ops).getD (b.y).toNat default)).kind=1
      · have e:fcB b b.ops=⟨b.pc,b.len,b.ops,1,0,0,if b.fin=3∧(((b.ops).getD (b.x).toNat default)).k=(((b.ops).getD (b.y).toNat default)).k∨b.fin=4∧(((b.ops).getD (b.x).toNat default)).k< (((b.ops).getD (b.y).toNat default)).k then b.k else b.pc+b.len⟩:=by
          unfold fcB;rw [if_neg (by omega),if_pos ⟨by omega,d⟩]
        rw [if_pos d.1,if_pos d.2,e]
        dsimp only
        simp only [and_true,Bool.true_eq_false,or_false,Prod.mk.injEq,Blk.mk.injEq,true_and]
        refine⟨fun h=>⟨fun _=>by rw [if_pos (Or.inl h)],fun g=>by omega⟩,fun h=>⟨fun g=>by rw [if_pos (Or.inr g)],fun g=>⟨fun _=>by rw [if_neg (by omega)],fun q=>by omega⟩⟩⟩
      · have e:fcB b b.ops=b:=by unfold fcB;rw [if_neg (by omega),if_neg (fun g=>d g.2)]
        rw [e]
        have n:¬((if(((b.ops).getD (b.x).toNat default)).kind=1 then((((b.ops).getD (b.x).toNat default)).k,true)else((0:Int),false)).2=true∧(if(((b.ops).getD (b.y).toNat default)).kind=1 then((((b.ops).getD (b.y).toNat default)).k,true)else((0:Int),false)).2=true):=fun⟨g1,g2⟩=>by
          split at g1
          · split at g2
            · exact d ⟨by assumption,by assumption⟩
            · cases g2
          · cases g1
        exact⟨fun h=>absurd ⟨h.1.1.2,h.1.2⟩ n,fun _=>⟨fun h=>absurd ⟨h.1.1.2,h.1.2⟩ n,fun _=>⟨fun h=>absurd ⟨h.1.2,h.2⟩ n,fun _=>rfl⟩⟩⟩
theorem ZN {p1:Int×Int×Int×Unit→Bool} {f1:Int×Int×Int×Unit→Bool×Unit} (hp1:∀a b c,p1 (a,b,c,())=true) (hf1:∀a b c,f1 (a,b,c,())=(inB a b c,())) (o:IOp) (al:List Int) (hk:1≤o.kind∧o.kind≤8) (hx:hX o→0≤o.x∧o.x< (al.length:Int)) (hy:hY o→0≤o.y∧o.y< (al.length:Int)):Qi (std 0) p1 f1 (o,al,()) (fun y=>y=(ren al o,())):=by
  dsimp only [Qi,Alg.cl,Alg.cg,Alg.rb,Alg.bd,Alg.l1,Tup.q,Tup.o]
  simp (disch:=omega) only [RR,RB,hp1,hf1,fD,rY]
  have X:((3≤o.kind∧o.kind≤5)∨o.kind=7)∨o.kind=8→hX o:=fun c=>by unfold hX;omega
  have Xn:(¬(3≤o.kind∧o.kind≤5)∧¬o.kind=7)∧¬o.kind=8→¬hX o:=fun c g=>by unfold hX at g;omega
  unfold ren
  refine⟨fun c=>⟨(hx (X c)).1,(hx (X c)).2,fun d=>⟨(hy d).1,(hy d).2,?_⟩,fun d=> ?_⟩,fun c=>⟨fun d=>⟨(hy d).1,(hy d).2,?_⟩,fun d=> ?_⟩⟩
  · rw [if_pos (X c),if_pos (show hY o from d)]
  · rw [if_pos (X c),if_neg (show¬hY o from fun g=>g.elim d.1 d.2)]
  · rw [if_neg (Xn c),if_pos (show hY o from d)]
  · rw [if_neg (Xn c),if_neg (show¬hY o from fun g=>g.elim d.1 d.2)]
theorem ZO (ops:List IOp) (k:Int) (h0:0≤k) (h1:k<ops.length) (h2:(ops.length:Int)<1000000):Qs (std 0) (ops,k,()) (fun y=>y=(lK (ops.drop (k.toNat+1)) (((ops).getD (k).toNat default)).k,())):=by
  dsimp only [Qs,Alg.cl,Alg.cg,Alg.rb,Alg.bd,Alg.l1,Tup.q,Tup.o]
  simp (disch:=omega) only [RR,RB]
  refine aA (fun(y:List IOp×Int×Int×Unit)=>y.1=ops∧y.2.1=k∧0≤y.2.2.1∧y.2.2.1≤ops.length∧lK (ops.drop (k.toNat+1)) (((ops).getD (k).toNat default)).k=lK (ops.drop y.2.2.1.toNat) (((ops).getD (k).toNat default)).k) (fun y=>((ops.length:Int)-y.2.2.1).toNat) ⟨rfl,rfl,by dsimp only;omega,by dsimp only;omega,by dsimp only;rw [show(k+1).toNat=k.toNat+1 by omega]⟩ ?_
  rintro⟨(l:List IOp),(k':Int),(j:Int),⟨⟩⟩ hI
  dsimp only at hI ⊢
  obtain⟨rfl,rfl,h3,h4,h5⟩:=hI
  rw [h5]
  simp (disch:=omega) only [RR,RB,Bool.and_eq_false_iff]
  have st:j<l.length→lK (l.drop j.toNat) (((l).getD (k').toNat default)).k=if(((l).getD (j).toNat default)).kind=4∨(((l).getD (j).toNat default)).kind=5∨(((l).getD (j).toNat default)).kind=2∧(((l).getD (j).toNat default)).k=(((l).getD (k').toNat default)).k then false else if(((l).getD (j).toNat default)).kind=8∧(((l).getD (j).toNat default)).k=(((l).getD (k').toNat default)).k then true else lK (l.drop (j+1).toNat) (((l).getD (k').toNat default)).k:=fun h=>by
    rw [List.drop_eq_getElem_cons (show j.toNat<l.length by omega),RY,←getD_lt (d:=default) (show j.toNat<l.length by omega),show(j+1).toNat=j.toNat+1 by omega]
  refine⟨fun h=>⟨h3,h,by omega,by omega,by omega,by omega,by omega,by omega,by omega,by omega,fun c=> ?_,fun c=>⟨h3,h,by omega,by omega,by omega,by omega,fun d=> ?_,fun d=>⟨⟨by omega,by omega,?_⟩,by omega⟩⟩⟩,fun h=> ?_⟩
  · rw [st h,if_pos (by omega)]
  · rw [st h,if_neg (by omega),if_pos (by omega)]
  · rw [st h,if_neg (by omega),if_neg (by omega)]
  · rw [List.drop_of_length_le (by omega)];rfl
theorem ahN {p1:Blk×Unit→Bool} {f1:Blk×Unit→Blk×Unit} (hp1:∀b,b.ops.length<1000000→p1 (b,())=true) (hf1:∀b,b.ops.length<1000000→f1 (b,())=(dN b,())) {p2:Blk×Unit→Bool} {f2:Blk×Unit→Int×Int×Int×Int×Int×Int×List IOp×Unit} (hp2:∀b,b.ops.length<1000000→p2 (b,())=true) (hf2:∀b,b.ops.length<1000000→f2 (b,())=bk7 (dB b)) {p3:Blk×Unit→Bool} {f3:Blk×Unit→Int×Int×Int×Int×Int×Int×List IOp×Unit} (hp3:∀b,b.ops.length<1000000→p3 (b,())=true) (hf3:∀b,b.ops.length<1000000→f3 (b,())=bk7 (bO b)) {p4:Blk×Unit→Bool} {f4:Blk×Unit→Int×Int×Int×Int×Int×Int×List IOp×Unit} (hp4:∀b,b.ops.length<1000000→p4 (b,())=true) (hf4:∀b,b.ops.length<1000000→f4 (b,())=bk7 (ou b)) (b:Blk) (hb:b.ops.length<1000000):QB (std 0) p1 f1 p2 f2 p3 f3 p4 f4 (b,()) (fun y=>y=bk7 (RZ b)):=by
  have m1:(dB b).ops.length<1000000:=Nat.lt_of_le_of_lt (rJ b) hb
  have m2:=Nat.lt_of_le_of_lt (BH (dB b)) m1
  have m3:=Nat.lt_of_le_of_lt (rH (dN (dB b))) m2
  have m4:=Nat.lt_of_le_of_lt (G8 (bO (dN (dB b)))) m3
  have mkE:∀c:Blk,Co.mk .blk (c.pc,c.len,c.ops,c.fin,c.x,c.y,c.k,())=c:=fun _=>rfl
  dsimp only [QB,Alg.cl,Alg.cg,Alg.rb,Alg.bd,Alg.l1,Tup.q,Tup.o]
  simp (disch:=omega) only [RR,hp2 b hb,hf2 b hb,mkE,hp1 _ m1,hf1 _ m1,hp3 _ m2,hf3 _ m2,hp4 _ m3,hf4 _ m3,hp3 _ m4,hf3 _ m4]
  rfl
theorem R5 {α:Type} {d:α} {f l:List α} {k:Nat} (hf:f.length=k) (h:k<l.length):(f++l.drop k).getD k d=l.getD k d:=by
  rw [getD_lt (by rw [List.length_append,List.length_drop];omega),getD_lt h,List.getElem_append_right (by omega),List.getElem_drop]
  simp only [hf,Nat.sub_self,Nat.add_zero]
theorem ahO {α:Type} {d:α} {f l:List α} {k j:Nat} (hf:f.length=k) (h:j<k):(f++l.drop k).getD j d=f.getD j d:=by
  rw [getD_lt (by rw [List.length_append];omega),getD_lt (by omega),List.getElem_append_left]
theorem Ci {α:Type} {x:α} {f l:List α} {k:Nat} (hf:f.length=k) (h:k<l.length):(f++l.drop k).set k x=(f++ [x])++l.drop (k+1):=by
  rw [List.set_append_right _ _ (by omega),hf,Nat.sub_self,List.drop_eq_getElem_cons h,List.set_cons_zero,List.append_assoc];rfl
theorem Oy {α:Type} {d:α} {f l:List α} {k:Nat} (h:k<l.length):f++l.drop k=(f++ [l.getD k d])++l.drop (k+1):=by
  rw [List.drop_eq_getElem_cons h,getD_lt h,List.append_assoc];rfl
theorem Cj {α:Type} {f l:List α} {k:Nat} (hf:f.length=k) (h:k≤l.length):(f++l.drop k).length=l.length:=by
  rw [List.length_append,hf,List.length_drop];omega
theorem bJ.fe {b:Blk} (ok:bJ b) {f:List IOp} (h:f.length=b.ops.length):FE ⟨b.pc,b.len,f,b.fin,b.x,b.y,b.k⟩:=by
  have en:=ok.en
  have hp:=ok.pc
  have hl:=ok.ln
  exact⟨en.f,fun c=>⟨(en.x1 c).1,by dsimp only;rw [h];exact(en.x1 c).2.1⟩,fun c=>⟨(en.y1 c).1,by dsimp only;rw [h];exact(en.y1 c).2.1⟩,en.y0,by dsimp only;omega⟩
theorem ahP {p1:Blk×Unit→Bool} {f1:Blk×Unit→Bool×Unit} (hp1:∀b,b.ops.length<1000000000→p1 (b,())=true) (hf1:∀b,b.ops.length<1000000000→f1 (b,())=(bp (bJ b),())) {p2:Int×Int×Int×Unit→Bool} {f2:Int×Int×Int×Unit→Int×Unit} (hp2:∀op a b,p2 (op,a,b,())=true) (hf2:∀op a b,f2 (op,a,b,())=(wdo op a b,())) {p3:Blk×Unit→Bool} {f3:Blk×Unit→Blk×Unit} (hp3:∀b,FE b→p3 (b,())=true) (hf3:∀b,FE b→f3 (b,())=(fcB b b.ops,())) {p4:List IOp×Int×Unit→Bool} {f4:List IOp×Int×Unit→Int×Bool×Unit} (hp4:∀ops k,p4 (ops,k,())=true) (hf4:∀ops k,f4 (ops,k,())=((kn ops k).1,(kn ops k).2,())) {p5:Blk×Unit→Bool} {f5:Blk×Unit→Int×Int×Int×Int×Int×Int×List IOp×Unit} (hp5:∀b,b.ops.length<1000000→p5 (b,())=true) (hf5:∀b,b.ops.length<1000000→f5 (b,())=(b.pc,b.len,b.fin,b.x,b.y,b.k,b.ops,())) (b:Blk) (hb:b.ops.length<1000000):Qr (std 0) p1 f1 p2 f2 p3 f3 p4 f4 p5 f5 (b,()) (fun y=>y=(dN b,())):=by
  have mkE:∀p l o f x y k,Co.mk .blk (p,l,o,f,x,y,k,())=Blk.mk p l o f x y k:=fun _ _ _ _ _ _ _=>rfl
  dsimp only [Qr,Alg.cl,Alg.cg,Alg.rb,Alg.bd,Alg.l1,Tup.q,Tup.o]
  simp (disch:=omega) only [RR,RB,hp1 b (by omega),hf1 b (by omega),hp5 b hb,hf5 b hb,mkE]
  refine⟨fun h=>by unfold dN;rw [h,if_neg (by decide)];rfl,fun h=> ?_⟩
  have ok:=bN.1 h
  rw [Ku ok]
  refine aA (fun(y:Int×Int×Int×Int×Int×Int×Int×Int×Int×Int×Int×Int×Int×List IOp×Unit)=>0≤y.1∧y.1≤b.ops.length∧y.2.2.2.2.2.2.2=(b.pc,b.len,b.fin,b.x,b.y,b.k,fc b.ops y.1.toNat++b.ops.drop y.1.toNat,())) (fun y=>((b.ops.length:Int)-y.1).toNat) ⟨by dsimp only;omega,by dsimp only;omega,rfl⟩ ?_
  rintro⟨(k:Int),u1,u2,u3,u4,u5,u6,b1,b2,b3,b4,b5,b6,(ops:List IOp),⟨⟩⟩ hI
  dsimp only at hI ⊢
  simp only [Prod.mk.injEq,and_true]at hI
  obtain⟨h1,h2,rfl,rfl,rfl,rfl,rfl,rfl,rfl⟩:=hI
  have fl:=pR b.ops k.toNat
  have ln:=Cj (l:=b.ops) fl (by omega)
  simp (disch:=omega) only [RR,RB,hp4,hf4,hp2,hf2,ln,mkE]
  refine⟨fun h=> ?_,fun h=> ?_⟩
  · have o:=ok.op k h1 h
    have ek:=R5 (d:=default) (l:=b.ops) fl (by omega)
    have kv:∀x:Int,Vl b.ops x k→kn (fc b.ops k.toNat++b.ops.drop k.toNat) x=if((((fc b.ops k.toNat)).getD (x).toNat default)).kind=1 then(((((fc b.ops k.toNat)).getD (x).toNat default)).k,true)else(0,false):=fun x v=>by
      have v0:=v.1
      have v1:=v.2.1
      unfold kn
      rw [ahO fl (by omega)]
      simp only [show 0≤x∧x< ((fc b.ops k.toNat++b.ops.drop k.toNat).length:Int)from⟨v0,by omega⟩,true_and]
    have nx:fc b.ops (k+1).toNat=fc b.ops k.toNat++ [fcO (fc b.ops k.toNat) ((b.ops).getD (k).toNat default)]:=by rw [show(k+1).toNat=k.toNat+1 by omega];rfl
    rw [ek]
    have hk:=Oy (d:=default) (f:=fc b.ops k.toNat) (l:=b.ops) (k:=k.toNat) (by omega)
    have hs:=fun x=>Ci (x:=x) (l:=b.ops) fl (by omega)
    rw [nx,show(k+1).toNat=k.toNat+1 by omega]
    generalize ((b.ops).getD (k).toNat default)=q at o hk ⊢
    have vx:=fun c=>o.x1 c
    have vy:=fun c=>o.y1 c
    refine⟨h1,h,h1,h,fun c=>⟨h1,h,h1,h,⟨by omega,by omega,?_⟩,by omega⟩,fun c=>⟨⟨by omega,by omega,?_⟩,by omega⟩⟩
    · have k1:=kv _ (o.x1 (by unfold hX;omega))
      have k2:=kv _ (o.y1 (Or.inl c.1.1))
      rw [k1,k2]at c ⊢
      by_cases d1:((((fc b.ops k.toNat)).getD (q.x).toNat default)).kind=1
      · by_cases d2:((((fc b.ops k.toNat)).getD (q.y).toNat default)).kind=1
        · rw [if_pos d1,if_pos d2,hs]
          have e:fcO (fc b.ops k.toNat) q=⟨1,0,0,wdo q.k ((((fc b.ops k.toNat)).getD (q.x).toNat default)).k ((((fc b.ops k.toNat)).getD (q.y).toNat default)).k,0⟩:=by unfold fcO;rw [if_pos ⟨c.1.1,d1,d2⟩]
          rw [e]
        · rw [if_neg d2]at c;exact absurd c.2 (by decide)
      · rw [if_neg d1]at c;exact absurd c.1.2 (by decide)
    · have e:fcO (fc b.ops k.toNat) q=q:=by
        unfold fcO
        refine if_neg ?_
        rintro⟨d0,d1,d2⟩
        rw [kv _ (o.x1 (by unfold hX;omega)),kv _ (o.y1 (Or.inl d0)),if_pos d1,if_pos d2,decide_eq_true d0]at c
        cases c
      rw [e,hk]
  · have e:fc b.ops k.toNat++b.ops.drop k.toNat=fc b.ops b.ops.length:=by rw [List.drop_of_length_le (by omega),List.append_nil,show k.toNat=b.ops.length by omega]
    rw [e]
    have fe:=ok.fe (pR b.ops b.ops.length)
    rw [hf3 _ fe]
    exact⟨hp3 _ fe,rfl⟩
theorem ZP {a b:List Bool} (h:a.length=b.length) (g:∀t:Nat,t<a.length→(a.getD t default=true↔b.getD t default=true)):a=b:=by
  refine List.ext_getElem h fun i h1 h2=> ?_
  have:=g i h1
  rw [getD_lt h1,getD_lt h2]at this
  exact Bool.eq_iff_iff.2 this
theorem ahQ {p1:Blk×Unit→Bool} {f1:Blk×Unit→Bool×Unit} (hp1:∀b,b.ops.length<1000000000→p1 (b,())=true) (hf1:∀b,b.ops.length<1000000000→f1 (b,())=(bp (bJ b),())) {p2:Int×Int×Int×Unit→Bool} {f2:Int×Int×Int×Unit→Bool×Unit} (hp2:∀a b c,p2 (a,b,c,())=true) (hf2:∀a b c,f2 (a,b,c,())=(inB a b c,())) (b:Blk) (hb:b.ops.length<1000000):Qx (std 0) p1 f1 p2 f2 (b,()) (fun y=>y=(jM b,())):=by
  dsimp only [Qx,Alg.cl,Alg.cg,Alg.rb,Alg.bd,Alg.l1,Tup.q,Tup.o]
  simp (disch:=omega) only [RR,RB,hp1 b (by omega),hf1 b (by omega)]
  unfold jM
  refine⟨fun h=>by rw [h,if_neg (by decide)],fun h=> ?_⟩
  rw [if_pos h]
  have ok:=bN.1 h
  have n48:=ok.sz
  have en:=ok.en
  refine aA (fun(y:Int×Blk×List Bool×Unit)=>0≤y.1∧y.1≤b.ops.length∧y.2.1=b∧(y.2.2.1.length:Int)=y.1∧∀t:Nat,t<y.2.2.1.length→(y.2.2.1.getD t default=true↔4≤(b.ops.getD t default).kind)) (fun y=>((b.ops.length:Int)-y.1).toNat) ⟨by dsimp only;omega,by dsimp only;omega,rfl,rfl,fun t h=>absurd h (by simp)⟩ ?_
  rintro⟨(k:Int),(b':Blk),(kp:List Bool),⟨⟩⟩ hI
  dsimp only at hI ⊢
  obtain⟨h1,h2,rfl,h3,h4⟩:=hI
  simp (disch:=omega) only [RR,RB,List.length_append,List.length_cons,List.length_nil]
  refine⟨fun h=>⟨h1,h,by omega,⟨by omega,by omega,by omega,fun t ht=> ?_⟩,by omega⟩,fun h=> ?_⟩
  · rw [eO]
    rcases(by omega:t<kp.length∨t=kp.length)with c | c
    · rw [if_pos c];exact h4 t c
    · rw [if_neg (by omega),if_pos c,decide_eq_true_eq,c,show k.toNat=kp.length by omega]
  have ex:¬b'.fin=1→0≤b'.x∧b'.x<kp.length:=fun c=>by have:=ok.en.x1 c;exact⟨this.1,by have:=this.2.1;omega⟩
  have ey:b'.fin=3∨b'.fin=4→0≤b'.y∧b'.y<kp.length:=fun c=>by have:=ok.en.y1 (by omega);exact⟨this.1,by have:=this.2.1;omega⟩
  have ff:=en.f
  have u0:=UD ok
  have kl:kp.length=b'.ops.length:=by omega
  rw [kl]at h4
  refine⟨fun c=>⟨(ex c).1,(ex c).2,(ex c).1,(ex c).2,fun c2=>⟨(ey c2).1,by rw [List.length_set];exact(ey c2).2,(ey c2).1,by rw [List.length_set];exact(ey c2).2,?_⟩,fun c2=> ?_⟩,fun c=>⟨fun c2=>absurd c2 (by omega),fun c2=> ?_⟩⟩
  all_goals
    refine aA (fun(y:Int×Blk×List Bool×Unit)=> -1≤y.1∧y.1<b'.ops.length∧y.2.1=b'∧y.2.2.1.length=b'.ops.length∧∀t:Nat,t<b'.ops.length→(y.2.2.1.getD t default=true↔(us b' (b'.ops.length-1-y.1).toNat).getD t default=true∨4≤(b'.ops.getD t default).kind)) (fun y=>(y.1+1).toNat) ⟨by dsimp only;omega,by dsimp only;omega,rfl,by simp only [List.length_set];omega,fun t ht=> ?_⟩ ?_
    · dsimp only
      rw [show(b'.ops.length-1- ((b'.ops.length:Int)-1)).toNat=0 by omega]
      show _↔(us0 b').getD t default=true∨_
      have q:=h4 t ht
      have r:=u0 t
      first
        | (rw [RX (by rw [List.length_set];have:=ey c2;omega),RX (by have:=ex c;omega),q,r];grind)
        | (rw [RX (by have:=ex c;omega),q,r];grind)
        | (rw [q,r];grind)
    rintro⟨(j:Int),(b2:Blk),(ms:List Bool),⟨⟩⟩ hI
    dsimp only at hI ⊢
    obtain⟨j0,j1,rfl,j3,j4⟩:=hI
    simp (disch:=omega) only [RR,RB,hp2,hf2,fD,rY,List.length_set]
    have ul:=rG b2 (b2.ops.length-1-j).toNat
    have us1:0≤j→∀t:Nat,((us b2 (b2.ops.length-1- (j-1)).toNat).getD t default=true↔(us b2 (b2.ops.length-1-j).toNat).getD t default=true∨((us b2 (b2.ops.length-1-j).toNat).getD j.toNat default=true∨4≤(((b2.ops).getD (j).toNat default)).kind)∧(t=j.toNat∨hX (((b2.ops).getD (j).toNat default))∧t=(((b2.ops).getD (j).toNat default)).x.toNat∨hY (((b2.ops).getD (j).toNat default))∧t=(((b2.ops).getD (j).toNat default)).y.toNat)):=fun g t=>by
      have o:=ok.op j g j1
      rw [show(b2.ops.length-1- (j-1)).toNat=(b2.ops.length-1-j).toNat+1 by omega]
      show(usO (b2.ops.getD (b2.ops.length-1- (b2.ops.length-1-j).toNat) default) (b2.ops.length-1- (b2.ops.length-1-j).toNat) _).getD t default=true↔_
      rw [show b2.ops.length-1- (b2.ops.length-1-j).toNat=j.toNat by omega]
      exact UC (by omega) (fun c=>by have:=o.x1 c;have g0:=this.1;have g1:=this.2.1;omega) (fun c=>by have:=o.y1 c;have g0:=this.1;have g1:=this.2.1;omega)
    have ue:¬0≤j→(us b2 (b2.ops.length-1-j).toNat)=us b2 b2.ops.length:=fun g=>by rw [show(b2.ops.length-1-j).toNat=b2.ops.length by omega]
    generalize us b2 (b2.ops.length-1-j).toNat=U at us1 j4 ue
    refine⟨fun g=> ?_,fun g=>congrArg (fun m:List Bool=>(m,())) (ZP (b:=us b2 b2.ops.length) (by rw [rG];exact j3) fun t ht=> ?_)⟩
    · have o:=ok.op j g j1
      have X:hX (((b2.ops).getD (j).toNat default))→0≤(((b2.ops).getD (j).toNat default)).x∧(((b2.ops).getD (j).toNat default)).x<ms.length:=fun c=>by have:=o.x1 c;have g0:=this.1;have g1:=this.2.1;omega
      have Y:hY (((b2.ops).getD (j).toNat default))→0≤(((b2.ops).getD (j).toNat default)).y∧(((b2.ops).getD (j).toNat default)).y<ms.length:=fun c=>by have:=o.y1 c;have g0:=this.1;have g1:=this.2.1;omega
      have us1:=us1 g
      have qj:=j4 j.toNat (by omega)
      have kd:=o.kd
      generalize ((b2.ops).getD (j).toNat default)=q at*
      have cx:((3≤q.kind∧q.kind≤5)∨q.kind=7)∨q.kind=8↔hX q:=by unfold hX;omega
      have cn:(¬(3≤q.kind∧q.kind≤5)∧¬q.kind=7)∧¬q.kind=8↔¬hX q:=by unfold hX;omega
      have cy:q.kind=3∨q.kind=5↔hY q:=Iff.rfl
      have dn:¬q.kind=3∧¬q.kind=5↔¬hY q:=by unfold hY;omega
      rw [cx,cn,cy,dn]
      generalize hX q=HX at*
      generalize hY q=HY at*
      refine⟨g,j1,g,by omega,g,by omega,fun c=>⟨⟨by omega,by omega,j3,fun t ht=> ?_⟩,by omega⟩,fun c=>⟨fun d=>⟨(X d).1,(X d).2,(X d).1,(X d).2,fun e=>⟨(Y e).1,(Y e).2,(Y e).1,(Y e).2,⟨by omega,by omega,j3,fun t ht=> ?_⟩,by omega⟩,fun e=>⟨⟨by omega,by omega,j3,fun t ht=> ?_⟩,by omega⟩⟩,fun d=>⟨fun e=>⟨(Y e).1,(Y e).2,(Y e).1,(Y e).2,⟨by omega,by omega,j3,fun t ht=> ?_⟩,by omega⟩,fun e=>⟨⟨by omega,by omega,j3,fun t ht=> ?_⟩,by omega⟩⟩⟩⟩
      · rw [us1,j4 t ht];rw [c]at qj;grind
      · rw [RX (by rw [List.length_set];have:=Y e;omega),RX (by have:=X d;omega),us1,j4 t ht];grind
      · rw [RX (by have:=X d;omega),us1,j4 t ht];grind
      · rw [RX (by have:=Y e;omega),us1,j4 t ht];grind
      · rw [us1,j4 t ht];grind
    · rw [j4 t (by omega),ue g]
      exact⟨fun h=>h.elim id ((Ou ok).k t (Nat.zero_le _) (by omega)),Or.inl⟩
end Go.TX.F
namespace Go.TX.F
open Go Go.AE Go.TX
theorem abX {ops:List IOp} {kp:List Bool} {len:Int} {k n:Nat} {o:IOp} (ho:Av ops len k o) (h:k<n):ren (kpS ops kp (k+1)).1 o=ren (kpS ops kp n).1 o:=by
  have p:=(Kq ops kp (show k+1≤n by omega)).2
  have l:=(jL ops kp (k+1)).1
  have e:∀x:Int,Vl ops x k→(((kpS ops kp (k+1)).1).getD (x).toNat default)=(((kpS ops kp n).1).getD (x).toNat default):=fun x v=>by
    have g0:=v.1
    have g1:=v.2.1
    exact(Kg p (by omega)).symm
  have ox:=ho.x1
  have oy:=ho.y1
  unfold ren
  congr 1
  · split
    · rename_i c;exact e _ (ox c)
    · rfl
  · split
    · rename_i c;exact e _ (oy c)
    · rfl
theorem ahR {p1:IOp×List Int×Unit→Bool} {f1:IOp×List Int×Unit→IOp×Unit} (hp1:∀o al,(1≤o.kind∧o.kind≤8)→(hX o→0≤o.x∧o.x< (al.length:Int))→(hY o→0≤o.y∧o.y< (al.length:Int))→p1 (o,al,())=true) (hf1:∀o al,(1≤o.kind∧o.kind≤8)→(hX o→0≤o.x∧o.x< (al.length:Int))→(hY o→0≤o.y∧o.y< (al.length:Int))→f1 (o,al,())=(ren al o,())) (b:Blk) (kp:List Bool) (ok:bJ b) (hk:kp.length=b.ops.length):Qt (std 0) p1 f1 (b,kp,()) (fun y=>y=bk7 (eP b kp)):=by
  have n48:=ok.sz
  dsimp only [Qt,Alg.cl,Alg.cg,Alg.rb,Alg.bd,Alg.l1,Tup.q,Tup.o]
  simp (disch:=omega) only [RR,RB]
  refine aA (fun(y:List Bool×Int×Blk×Int×Int×Int×Int×Int×Int×List IOp×List Int×Unit)=>y.1=kp∧0≤y.2.1∧y.2.1≤b.ops.length∧y.2.2.1=b∧y.2.2.2.2.2.2.2.2.2.1=(kpS b.ops kp y.2.1.toNat).2.map (ren (kpS b.ops kp b.ops.length).1)∧y.2.2.2.2.2.2.2.2.2.2.1=(kpS b.ops kp y.2.1.toNat).1) (fun y=>((b.ops.length:Int)-y.2.1).toNat) ⟨rfl,by dsimp only;omega,by dsimp only;omega,rfl,rfl,rfl⟩ ?_
  rintro⟨(kp':List Bool),(k:Int),(b':Blk),u1,u2,u3,u4,u5,u6,(out:List IOp),(to:List Int),⟨⟩⟩ hI
  dsimp only at hI ⊢
  obtain⟨rfl,h1,h2,rfl,rfl,rfl⟩:=hI
  obtain⟨l1,l2⟩:=jL b'.ops kp' k.toNat
  have l3:=(jL b'.ops kp' (k+1).toNat).1
  have nx:(kpS b'.ops kp' (k+1).toNat).1=(kpS b'.ops kp' k.toNat).1++ [((kpS b'.ops kp' k.toNat).2.length:Int)]:=by rw [show(k+1).toNat=k.toNat+1 by omega];rfl
  have r:k<b'.ops.length→ren (kpS b'.ops kp' (k+1).toNat).1 ((b'.ops).getD (k).toNat default)=ren (kpS b'.ops kp' b'.ops.length).1 ((b'.ops).getD (k).toNat default):=fun h=>by
    rw [show(k+1).toNat=k.toNat+1 by omega]
    exact abX (by rw [show((k.toNat:Nat):Int)=k by omega];exact ok.op k h1 h) (by omega)
  have s:(kpS b'.ops kp' (k+1).toNat).2=if kp'.getD k.toNat default=true then(kpS b'.ops kp' k.toNat).2++ [((b'.ops).getD (k).toNat default)]else(kpS b'.ops kp' k.toNat).2:=by rw [show(k+1).toNat=k.toNat+1 by omega];rfl
  have fin:¬k<b'.ops.length→kpS b'.ops kp' k.toNat=kpS b'.ops kp' b'.ops.length:=fun h=>by rw [show k.toNat=b'.ops.length by omega]
  have kb:eP b' kp'=Ko (kpS b'.ops kp' b'.ops.length).1 b' (kpS b'.ops kp' b'.ops.length).2:=rfl
  rw [kb]
  generalize kpS b'.ops kp' b'.ops.length=N at r fin ⊢
  generalize hT:kpS b'.ops kp' (k+1).toNat=T at l3 nx r s ⊢
  generalize kpS b'.ops kp' k.toNat=S at l1 l2 nx s fin ⊢
  have en:=ok.en
  have ex:¬k<b'.ops.length→¬b'.fin=1→0≤b'.x∧b'.x< (S.1.length:Int):=fun h c=>by have:=en.x1 c;exact⟨this.1,by have:=this.2.1;omega⟩
  have ey:¬k<b'.ops.length→b'.fin=3∨b'.fin=4→0≤b'.y∧b'.y< (S.1.length:Int):=fun h c=>by have:=en.y1 (by omega);exact⟨this.1,by have:=this.2.1;omega⟩
  simp (disch:=omega) only [RR,RB,List.length_append,List.length_cons,List.length_nil,List.length_map,GJ,←nx]
  refine⟨fun h=> ?_,fun h=> ?_⟩
  · have op:=ok.op k h1 h
    have a2:hX (((b'.ops).getD (k).toNat default))→0≤(((b'.ops).getD (k).toNat default)).x∧(((b'.ops).getD (k).toNat default)).x< (T.1.length:Int):=fun c=>⟨(op.x1 c).1,by have:=(op.x1 c).2.1;omega⟩
    have a3:hY (((b'.ops).getD (k).toNat default))→0≤(((b'.ops).getD (k).toNat default)).y∧(((b'.ops).getD (k).toNat default)).y< (T.1.length:Int):=fun c=>⟨(op.y1 c).1,by have:=(op.y1 c).2.1;omega⟩
    have P:=hp1 _ T.1 op.kd a2 a3
    rw [hf1 _ T.1 op.kd a2 a3,hT,s,r h]
    refine⟨by omega,h1,by omega,fun c=>⟨h1,h,P,by omega,⟨by omega,by omega,?_⟩,by omega⟩,fun c=>⟨⟨by omega,by omega,?_⟩,by omega⟩⟩
    · rw [if_pos c,List.map_append];exact⟨rfl,rfl⟩
    · rw [c,if_neg (by decide)];exact⟨rfl,rfl⟩
  · have ex:=ex h
    have ey:=ey h
    rw [fin h]at ex ey ⊢
    unfold bk7 Ko
    refine⟨fun c=>⟨(ex c).1,(ex c).2,(ex c).1,(ex c).2,fun c2=>⟨(ey c2).1,(ey c2).2,(ey c2).1,(ey c2).2,?_⟩,fun c2=> ?_⟩,fun c=>⟨fun c2=>⟨(ey c2).1,(ey c2).2,(ey c2).1,(ey c2).2,?_⟩,fun c2=> ?_⟩⟩
    · rw [if_neg c,if_pos (by omega)]
    · rw [if_neg c,if_neg (by have:=en.f;omega)]
    · exact absurd c2 (by omega)
    · rw [if_pos c,if_neg (by omega)]
theorem ahS {p1:Blk×Unit→Bool} {f1:Blk×Unit→Bool×Unit} (hp1:∀b,b.ops.length<1000000000→p1 (b,())=true) (hf1:∀b,b.ops.length<1000000000→f1 (b,())=(bp (bJ b),())) {p2:Blk×Unit→Bool} {f2:Blk×Unit→List Bool×Unit} (hp2:∀b,b.ops.length<1000000→p2 (b,())=true) (hf2:∀b,b.ops.length<1000000→f2 (b,())=(jM b,())) {p3:Blk×List Bool×Unit→Bool} {f3:Blk×List Bool×Unit→Int×Int×Int×Int×Int×Int×List IOp×Unit} (hp3:∀b kp,bJ b→kp.length=b.ops.length→p3 (b,kp,())=true) (hf3:∀b kp,bJ b→kp.length=b.ops.length→f3 (b,kp,())=bk7 (eP b kp)) (b:Blk) (hb:b.ops.length<1000000):Qy (std 0) p1 f1 p2 f2 p3 f3 (b,()) (fun y=>y=bk7 (bO b)):=by
  dsimp only [Qy,Alg.cl,Alg.cg,Alg.rb,Alg.bd,Alg.l1,Tup.q,Tup.o]
  simp (disch:=omega) only [RR,RB,hp1 b (by omega),hf1 b (by omega),hp2 b hb,hf2 b hb]
  unfold bO jM
  refine⟨fun h=>by rw [h,if_neg (by decide)];rfl,fun h=> ?_⟩
  have ok:=bN.1 h
  rw [if_pos h,if_pos h,hf3 _ _ ok (rG b _)]
  exact⟨hp3 _ _ ok (rG b _),rfl⟩
theorem ahT {p1:Blk×Unit→Bool} {f1:Blk×Unit→Bool×Unit} (hp1:∀b,b.ops.length<1000000000→p1 (b,())=true) (hf1:∀b,b.ops.length<1000000000→f1 (b,())=(bp (bJ b),())) {p2:Blk×List Bool×Unit→Bool} {f2:Blk×List Bool×Unit→Int×Int×Int×Int×Int×Int×List IOp×Unit} (hp2:∀b kp,bJ b→kp.length=b.ops.length→p2 (b,kp,())=true) (hf2:∀b kp,bJ b→kp.length=b.ops.length→f2 (b,kp,())=bk7 (eP b kp)) {p3:List IOp×Int×Unit→Bool} {f3:List IOp×Int×Unit→Bool×Unit} (hp3:∀ops k,0≤k→k<ops.length→(ops.length:Int)<1000000→p3 (ops,k,())=true) (hf3:∀ops k,0≤k→k<ops.length→(ops.length:Int)<1000000→f3 (ops,k,())=(lK (ops.drop (k.toNat+1)) (((ops).getD (k).toNat default)).k,())) (b:Blk) (hb:b.ops.length<1000000):Qu (std 0) p1 f1 p2 f2 p3 f3 (b,()) (fun y=>y=bk7 (ou b)):=by
  dsimp only [Qu,Alg.cl,Alg.cg,Alg.rb,Alg.bd,Alg.l1,Tup.q,Tup.o]
  simp (disch:=omega) only [RR,RB,hp1 b (by omega),hf1 b (by omega)]
  unfold ou
  refine⟨fun h=>by rw [h,if_neg (by decide)];rfl,fun h=> ?_⟩
  have ok:=bN.1 h
  rw [if_pos h]
  have kl:(rF b.ops).length=b.ops.length:=by unfold rF;rw [List.length_map,List.length_range]
  refine aA (fun(y:Int×Blk×Int×Int×Int×Int×Int×Int×List Bool×Unit)=>0≤y.1∧y.1≤b.ops.length∧y.2.1=b∧y.2.2.2.2.2.2.2.2.1=(rF b.ops).take y.1.toNat) (fun y=>((b.ops.length:Int)-y.1).toNat) ⟨by dsimp only;omega,by dsimp only;omega,rfl,rfl⟩ ?_
  rintro⟨(k:Int),(b':Blk),u1,u2,u3,u4,u5,u6,(kp:List Bool),⟨⟩⟩ hI
  dsimp only at hI ⊢
  obtain⟨h1,h2,rfl,rfl⟩:=hI
  have tl:((rF b'.ops).take k.toNat).length=k.toNat:=by rw [List.length_take];omega
  simp (disch:=omega) only [RR,RB,List.length_append,List.length_cons,List.length_nil,tl]
  refine⟨fun h=>⟨h1,h,Or.inr (hp3 _ _ h1 h (by omega)),by omega,⟨by omega,by omega,?_⟩,by omega⟩,fun h=> ?_⟩
  · rw [hf3 _ _ h1 h (by omega),show(k+1).toNat=k.toNat+1 by omega,List.take_succ_eq_append_getElem (by omega),←getD_lt (d:=default) (show k.toNat< (rF b'.ops).length by omega),VY (by omega)]
    refine congrArg (fun x=>(rF b'.ops).take k.toNat++ [x]) ?_
    rw [Bool.not_and]
  · rw [List.take_of_length_le (by omega),hf2 _ _ ok kl]
    exact⟨hp2 _ _ ok kl,rfl⟩
theorem ahU {ops:List IOp} {len:Int} {k n:Nat} {o:IOp} (ho:Av ops len k o) (h:k≤n):ren (cpS ops k).1 o=ren (cpS ops n).1 o:=by
  have l:=(zy ops k).1
  have e:∀x:Int,Vl ops x k→(((cpS ops k).1).getD (x).toNat default)=(((cpS ops n).1).getD (x).toNat default):=fun x v=>by
    have g0:=v.1
    have g1:=v.2.1
    exact(RO ops (by omega) h).symm
  have ox:=ho.x1
  have oy:=ho.y1
  unfold ren
  congr 1
  · split
    · rename_i c;exact e _ (ox c)
    · rfl
  · split
    · rename_i c;exact e _ (oy c)
    · rfl
theorem ahV {p1:Blk×Unit→Bool} {f1:Blk×Unit→Bool×Unit} (hp1:∀b,b.ops.length<1000000000→p1 (b,())=true) (hf1:∀b,b.ops.length<1000000000→f1 (b,())=(bp (bJ b),())) {p2:IOp×List Int×Unit→Bool} {f2:IOp×List Int×Unit→IOp×Unit} (hp2:∀o al,(1≤o.kind∧o.kind≤8)→(hX o→0≤o.x∧o.x< (al.length:Int))→(hY o→0≤o.y∧o.y< (al.length:Int))→p2 (o,al,())=true) (hf2:∀o al,(1≤o.kind∧o.kind≤8)→(hX o→0≤o.x∧o.x< (al.length:Int))→(hY o→0≤o.y∧o.y< (al.length:Int))→f2 (o,al,())=(ren al o,())) {p3:Blk×Unit→Bool} {f3:Blk×Unit→Int×Int×Int×Int×Int×Int×List IOp×Unit} (hp3:∀b,b.ops.length<1000000→p3 (b,())=true) (hf3:∀b,b.ops.length<1000000→f3 (b,())=(b.pc,b.len,b.fin,b.x,b.y,b.k,b.ops,())) (b:Blk) (hb:b.ops.length<1000000):Qj (std 0) p1 f1 p2 f2 p3 f3 (b,()) (fun y=>y=bk7 (dB b)):=by
  dsimp only [Qj,Alg.cl,Alg.cg,Alg.rb,Alg.bd,Alg.l1,Tup.q,Tup.o]
  simp (disch:=omega) only [RR,RB,hp1 b (by omega),hf1 b (by omega),hp3 b hb,hf3 b hb,GJ]
  unfold dB
  refine⟨fun h=>by rw [h,if_neg (by decide)];rfl,fun h=> ?_⟩
  have ok:=bN.1 h
  rw [if_pos h]
  have n48:=ok.sz
  refine aA (fun(y:Int×Int×Int×Int×Int×Int×Int×Int×Int×Int×Int×Int×Int×List Int×List Int×List IOp×Unit)=>0≤y.1∧y.1≤b.ops.length∧y.2.2.2.2.2.2.2=(b.pc,b.len,b.fin,b.x,b.y,b.k,(cpS b.ops y.1.toNat).1,(cpS b.ops y.1.toNat).2,(b.ops.take y.1.toNat).map (ren (cpS b.ops b.ops.length).1)++b.ops.drop y.1.toNat,())) (fun y=>((b.ops.length:Int)-y.1).toNat) ⟨by dsimp only;omega,by dsimp only;omega,rfl⟩ ?_
  rintro⟨(k:Int),u1,u2,u3,u4,u5,u6,b1,b2,b3,b4,b5,b6,(al:List Int),(la:List Int),(ops:List IOp),⟨⟩⟩ hI
  dsimp only at hI ⊢
  simp only [Prod.mk.injEq,and_true]at hI
  obtain⟨h1,h2,rfl,rfl,rfl,rfl,rfl,rfl,rfl,rfl,rfl⟩:=hI
  obtain⟨l1,l2⟩:=zy b.ops k.toNat
  have r:=fun h:k<b.ops.length=>ahU (ops:=b.ops) (k:=k.toNat) (n:=b.ops.length) (by rw [show((k.toNat:Nat):Int)=k by omega];exact ok.op k h1 h) (by omega)
  have fl:((b.ops.take k.toNat).map (ren (cpS b.ops b.ops.length).1)).length=k.toNat:=by rw [List.length_map,List.length_take];omega
  have ln:=Cj (l:=b.ops) fl (by omega)
  have ek:=fun h:k<b.ops.length=>R5 (d:=default) (l:=b.ops) fl (by omega)
  have ms:=fun x (h:k<b.ops.length)=>Ci (x:=x) (l:=b.ops) fl (by omega)
  have tk:=fun h:k<b.ops.length=>(iK (d:=default) (l:=b.ops) h1 h rfl)
  have nx:k<b.ops.length→cpS b.ops (k+1).toNat=((cpS b.ops k.toNat).1++ [cpN (cpS b.ops k.toNat) k ((b.ops).getD (k).toNat default)],cpL (cpS b.ops k.toNat) k ((b.ops).getD (k).toNat default)):=fun h=>by
    rw [show(k+1).toNat=k.toNat+1 by omega,show k=((k.toNat:Nat):Int) by omega];rfl
  have fin:¬k<b.ops.length→cpS b.ops k.toNat=cpS b.ops b.ops.length:=fun h=>by rw [show k.toNat=b.ops.length by omega]
  have en:=ok.en
  by_cases h:k<b.ops.length
  · have o:=ok.op k h1 h
    have r:=r h
    have ek:=ek h
    have nx:=nx h
    have ms:=fun x=>ms x h
    have tk:=tk h
    have a2:hX (((b.ops).getD (k).toNat default))→0≤(((b.ops).getD (k).toNat default)).x∧(((b.ops).getD (k).toNat default)).x< ((cpS b.ops k.toNat).1.length:Int):=fun c=>⟨(o.x1 c).1,by have:=(o.x1 c).2.1;omega⟩
    have a3:hY (((b.ops).getD (k).toNat default))→0≤(((b.ops).getD (k).toNat default)).y∧(((b.ops).getD (k).toNat default)).y< ((cpS b.ops k.toNat).1.length:Int):=fun c=>⟨(o.y1 c).1,by have:=(o.y1 c).2.1;omega⟩
    have P:=hp2 _ _ o.kd a2 a3
    have F:=hf2 _ _ o.kd a2 a3
    have kd:=o.k2
    have rx:(((b.ops).getD (k).toNat default)).kind=8→(ren (cpS b.ops b.ops.length).1 ((b.ops).getD (k).toNat default)).x=(((cpS b.ops k.toNat).1).getD ((((b.ops).getD (k).toNat default)).x).toNat default):=fun c=>by rw [←r];exact if_pos (by unfold hX;omega)
    rw [r]at F
    generalize hN:(cpS b.ops b.ops.length).1=N at*
    generalize hT:cpS b.ops (k+1).toNat=T at nx ⊢
    generalize cpS b.ops k.toNat=S at*
    simp (disch:=omega) only [RR,RB,ln,ek,P,F,ms,List.length_append,List.length_cons,List.length_nil,List.length_set,GJ,h]
    generalize hq:((b.ops).getD (k).toNat default)=q at*
    have rk:(ren N q).kind=q.kind:=rfl
    have rkk:(ren N q).k=q.k:=rfl
    generalize hR:ren N q=R at*
    have G:∀v w,v=cpN S k q→w=cpL S k q→(b.pc,b.len,b.fin,b.x,b.y,b.k,S.1++ [v],w,((b.ops.take k.toNat).map (ren N)++ [R])++b.ops.drop (k.toNat+1),())=(b.pc,b.len,b.fin,b.x,b.y,b.k,T.1,T.2,(b.ops.take (k+1).toNat).map (ren N)++b.ops.drop (k+1).toNat,()):=fun v w e1 e2=>by
      rw [nx,e1,e2,←tk,List.map_append,show(k+1).toNat=k.toNat+1 by omega,←hR];rfl
    have ss:∀i:Int,0≤i→i<S.2.length→S.2.set i.toNat ((S.2).getD (i).toNat default)=S.2:=fun i i0 i1=>by rw [getD_lt (show i.toNat<S.2.length by omega),List.set_getElem_self]
    by_cases c2:R.kind=2
    · have kk:=kd (Or.inl (rk▸c2))
      by_cases c3:0≤((S.2).getD (R.k).toNat default)
      · have g:=G (((S.2).getD (R.k).toNat default)) (S.2.set R.k.toNat ((S.2).getD (R.k).toNat default)) (by unfold cpN;rw [←rk,←rkk];rw [if_pos ⟨c2,c3⟩]) (by unfold cpL;rw [←rk,←rkk];rw [if_pos c2,if_pos c3,ss _ (by omega) (by omega)])
        simp only [c2,c3,show¬((2:Int)=8) by decide,true_and,and_true,true_implies,false_implies,not_true_eq_false,not_false_eq_true,false_or,decide_true,Bool.and_self,Bool.true_eq_false,hT,g]
        omega
      · have g:=G k (S.2.set R.k.toNat k) (by unfold cpN;rw [←rk,←rkk];rw [if_neg (fun q=>c3 q.2)]) (by unfold cpL;rw [←rk,←rkk];rw [if_pos c2,if_neg c3])
        simp only [c2,c3,show¬((2:Int)=8) by decide,true_and,and_true,and_false,true_implies,false_implies,not_true_eq_false,not_false_eq_true,false_or,decide_true,decide_false,Bool.and_false,hT,g]
        omega
    · by_cases c8:R.kind=8
      · have kk:=kd (Or.inr (rk▸c8))
        have g:=G k (S.2.set R.k.toNat ((S.1).getD (q.x).toNat default)) (by unfold cpN;rw [←rk,←rkk];rw [if_neg (fun q=>c2 q.1)]) (by unfold cpL;rw [←rk,←rkk];rw [if_neg c2,if_pos c8])
        rw [←rx (rk▸c8)]at g
        simp only [c8,show¬((8:Int)=2) by decide,false_and,true_and,and_true,and_false,true_implies,false_implies,not_true_eq_false,not_false_eq_true,true_or,decide_false,Bool.false_and,hT,g]
        omega
      · have g:=G k S.2 (by unfold cpN;rw [←rk,←rkk];rw [if_neg (fun q=>c2 q.1)]) (by unfold cpL;rw [←rk,←rkk];rw [if_neg c2,if_neg c8])
        simp only [c2,c8,false_and,true_and,and_true,and_false,true_implies,false_implies,not_true_eq_false,not_false_eq_true,true_or,decide_false,Bool.false_and,hT,g]
        omega
  · have e:=fin h
    have ex:¬b.fin=1→0≤b.x∧b.x< ((cpS b.ops k.toNat).1.length:Int):=fun c=>by have:=en.x1 c;exact⟨this.1,by have:=this.2.1;omega⟩
    have ey:b.fin=3∨b.fin=4→0≤b.y∧b.y< ((cpS b.ops k.toNat).1.length:Int):=fun c=>by have:=en.y1 (by omega);exact⟨this.1,by have:=this.2.1;omega⟩
    have ff:=en.f
    have z:(b.ops.take k.toNat).map (ren (cpS b.ops b.ops.length).1)++b.ops.drop k.toNat=b.ops.map (ren (cpS b.ops b.ops.length).1):=by rw [List.take_of_length_le (by omega),List.drop_of_length_le (by omega),List.append_nil]
    have ln:(b.ops.map (ren (cpS b.ops b.ops.length).1)).length=b.ops.length:=List.length_map _
    rw [z]
    rw [e]at ex ey ⊢
    unfold bk7 Ko
    generalize (cpS b.ops b.ops.length).1=N at*
    simp (disch:=omega) only [RR,RB,ln,h]
    refine⟨fun c=>⟨(ex c).1,(ex c).2,(ex c).1,(ex c).2,fun c2=>⟨(ey c2).1,(ey c2).2,(ey c2).1,(ey c2).2,?_⟩,fun c2=> ?_⟩,fun c=>⟨fun c2=>absurd c2 (by omega),fun c2=> ?_⟩⟩
    · rw [if_neg c,if_pos (by omega)]
    · rw [if_neg c,if_neg (by omega)]
    · rw [if_pos c,if_neg (by omega)]
end Go.TX.F
namespace Go.TX.F
open Go Go.AE Go.TX
structure BkD (m:Int) (n:Nat) (b:List Int) (p:Int) (y:Int×Int×Int×Int×Int×Int×List Int×Int×List IOp×Unit):Prop where
  b:y.2.2.2.2.2.2.1=b
  lo:p≤y.2.2.2.2.2.2.2.1
  hi:y.2.2.2.2.2.2.2.1≤p+m
  len:y.2.2.2.2.2.2.2.2.1.length≤n
theorem ahW {p1:Int×List Ins×Unit→Bool} {f1:Int×List Ins×Unit→Int×Int×Int×Int×Int×Int×List IOp×Unit} (hp1:∀pc l,(l.length:Int)<1000→KB l→p1 (pc,l,())=true) (hf1:∀pc l,(l.length:Int)<1000→KB l→((f1 (pc,l,())).2.2.2.2.2.2.1.length:Int)≤5000) {p2:Blk×Unit→Bool} {f2:Blk×Unit→Int×Int×Int×Int×Int×Int×List IOp×Unit} (hp2:∀b,b.ops.length<1000000→p2 (b,())=true) (hf2:∀b,b.ops.length<1000000→f2 (b,())=bk7 (RZ b)) {p3:Blk×Unit→Bool} {f3:Blk×Unit→Int×Int×Int×Int×Int×Int×List IOp×Unit} (hp3:∀b,b.ops.length<1000000→p3 (b,())=true) (hf3:∀b,b.ops.length<1000000→f3 (b,())=bk7 (dB b)) {p4:Int×List Int×Int×Unit→Bool} {f4:Int×List Int×Int×Unit→Int×List Int×Int×Unit} (hp4:∀n b p,Bt b→0≤p→p<1000000000→p4 (n,b,p,())=true) (hf4:∀n b p,Bt b→0≤p→p<1000000000→Pk n b p (f4 (n,b,p,()))) {p5:List Int×Int×Unit→Bool} {f5:List Int×Int×Unit→List Int×Int×List Ins×Unit} (hp5:∀b p,Bt b→0≤p→p<700000000→p5 (b,p,())=true) (hf5:∀b p,Bt b→0≤p→p<700000000→LiD b p (f5 (b,p,()))) (b:List Int) (p:Int) (hb:Bt b) (h1:0≤p) (h2:p<600000000):Q6 (std 0) p1 f1 p2 f2 p3 f3 p4 f4 p5 f5 (b,p,()) (fun y=>BkD 2000 5000 b p y):=by
  replace hf2:=fun c h=>show(f2 (c,())).2.2.2.2.2.2.1.length≤c.ops.length by rw [hf2 c h];exact VZ c
  replace hf3:=fun c h=>show(f3 (c,())).2.2.2.2.2.2.1.length≤c.ops.length by rw [hf3 c h];exact rJ c
  obtain⟨a1,a2,a3,a4,a5⟩:=hf5 b p hb h1 (by omega)
  have R:=pkR hb hf4
  have P:=fun n p h1 h2=>hp4 n b p hb h1 h2
  have L:=fun pc=>hf1 pc _ (show((f5 (b,p,())).2.2.1.length:Int)<1000 by omega) a5
  have O1:=fun c (h:c.ops.length≤5000)=>hp2 c (by omega)
  have O2:=fun c (h:c.ops.length≤5000)=>hf2 c (by omega)
  have O3:=fun c (h:c.ops.length≤5000)=>hp3 c (by omega)
  have O4:=fun c (h:c.ops.length≤5000)=>hf3 c (by omega)
  dsimp only [Q6,Alg.cl,Alg.cg,Alg.rb,Alg.bd,Alg.l1,Tup.q,Tup.o]
  simp (disch:=omega) only [RR,hp5 b p hb h1 (by omega),a1,R,P,hp1 _ _ (show((f5 (b,p,())).2.2.1.length:Int)<1000 by omega) a5,List.length_cons,List.length_nil]
  have L':∀pc,(f1 (pc,(f5 (b,p,())).2.2.1,())).2.2.2.2.2.2.1.length≤5000:=fun pc=>by have:=L pc;omega
  refine⟨fun _=>⟨O1 _ (L' _),rfl,by dsimp only;omega,by dsimp only;omega,Nat.le_trans (O2 _ (L' _)) (L' _)⟩,fun _=>⟨fun _=>⟨O3 _ (L' _),rfl,by dsimp only;omega,by dsimp only;omega,Nat.le_trans (O4 _ (L' _)) (L' _)⟩,fun _=>⟨rfl,by dsimp only;omega,by dsimp only;omega,L' _⟩⟩⟩
end Go.TX.F
namespace Go.TX.F
open Go Go.AE Go.TX
theorem ahX {p1:Int×List Int×Int×Unit→Bool} {f1:Int×List Int×Int×Unit→Int×List Int×Int×Unit} (hp1:∀n b p,Bt b→0≤p→p<1000000000→p1 (n,b,p,())=true) (hf1:∀n b p,Bt b→0≤p→p<1000000000→Pk n b p (f1 (n,b,p,()))) {p2:Blk×Unit→Bool} {f2:Blk×Unit→Int×Int×Int×Int×Int×Int×List IOp×Unit} (hp2:∀b,b.ops.length<1000000→p2 (b,())=true) (hf2:∀b,b.ops.length<1000000→f2 (b,())=(b.pc,b.len,b.fin,b.x,b.y,b.k,b.ops,())) (c:Blk) (b:List Int) (p:Int) (hc:c.ops.length<1000000) (hb:Bt b) (h1:0≤p) (h2:p<900000000):J6 (std 0) p1 f1 p2 f2 (c,b,p,()) (fun y=>BkD 20 c.ops.length b p y):=by
  have R:=pkR hb hf1
  have P:=fun n p h1 h2=>hp1 n b p hb h1 h2
  by_cases z:(c.ops.length:Int)=0
  · dsimp only [J6,Alg.cl,Alg.cg,Alg.rb,Alg.bd,Alg.l1,Tup.q,Tup.o]
    simp (disch:=omega) only [RR,RB,hp2 c hc,hf2 c hc,z]
    exact⟨rfl,by dsimp only;omega,by dsimp only;omega,Nat.le_refl _⟩
  have B:=(hf1 c.ops.length b p hb h1 (by omega)).2.2
  have W:IntKind.i64.wrap ((f1 (c.ops.length,b,p,())).1-1)=(f1 (c.ops.length,b,p,())).1-1:=w64 (by omega) (by omega)
  dsimp only [J6,Alg.cl,Alg.cg,Alg.rb,Alg.bd,Alg.l1,Tup.q,Tup.o]
  simp (disch:=omega) only [RR,RB,hp2 c hc,hf2 c hc,R,P,z,List.length_set,W]
  repeat' (first | (refine And.intro ?_ ?_) | intro _)
  all_goals first | omega | exact⟨rfl,by dsimp only;omega,by dsimp only;omega,by dsimp only [Za];simp only [List.length_set,List.length_take,List.length_drop];omega⟩ | exact⟨rfl,by dsimp only;omega,by dsimp only;omega,by simp only [List.length_drop,List.length_take];omega⟩ | exact⟨rfl,by dsimp only;omega,by dsimp only;omega,Nat.le_refl _⟩
structure BoD (b:List Int) (p:Int) (y:Blk×List Int×Int×Unit):Prop where
  len:y.1.ops.length<100000
  b:y.2.1=b
  lo:p≤y.2.2.1
  hi:y.2.2.1≤p+5000
theorem ahY {p1:Int×List Int×Int×Unit→Bool} {f1:Int×List Int×Int×Unit→Bool×List Int×Int×Unit} (hp1:∀n b p,Bt b→0≤p→p<1000000000→p1 (n,b,p,())=true) (hf1:∀n b p,Bt b→0≤p→p<1000000000→(f1 (n,b,p,())).2.1=b∧(f1 (n,b,p,())).2.2.1=p+1) {p2:Int×List Int×Int×Unit→Bool} {f2:Int×List Int×Int×Unit→Int×List Int×Int×Unit} (hp2:∀n b p,Bt b→0≤p→p<1000000000→p2 (n,b,p,())=true) (hf2:∀n b p,Bt b→0≤p→p<1000000000→Pk n b p (f2 (n,b,p,()))) {p3:Blk×List Int×Int×Unit→Bool} {f3:Blk×List Int×Int×Unit→Int×Int×Int×Int×Int×Int×List Int×Int×List IOp×Unit} (hp3:∀c b p,c.ops.length<1000000→Bt b→0≤p→p<900000000→p3 (c,b,p,())=true) (hf3:∀c b p,c.ops.length<1000000→Bt b→0≤p→p<900000000→BkD 20 c.ops.length b p (f3 (c,b,p,()))) {p4:List Int×Int×Unit→Bool} {f4:List Int×Int×Unit→Int×Int×Int×Int×Int×Int×List Int×Int×List IOp×Unit} (hp4:∀b p,Bt b→0≤p→p<600000000→p4 (b,p,())=true) (hf4:∀b p,Bt b→0≤p→p<600000000→BkD 2000 5000 b p (f4 (b,p,()))) (n:Int) (b:List Int) (p:Int) (hb:Bt b) (h1:0≤p) (h2:p<500000000):Rc (std 0) p1 f1 p2 f2 p3 f3 p4 f4 (n,b,p,()) (fun y=>BoD b p y):=by
  obtain⟨a1,a2,a3,a4⟩:=hf4 b p hb h1 (by omega)
  have H4:=hp4 b p hb h1 (by omega)
  have R:=pkR hb hf2
  have P:=fun n p h1 h2=>hp2 n b p hb h1 h2
  have R1:=fun n p h1 h2=>(hf1 n b p hb h1 h2).1
  have R2:=fun n p h1 h2=>(hf1 n b p hb h1 h2).2
  have P1:=fun n p h1 h2=>hp1 n b p hb h1 h2
  dsimp only [Rc,Alg.cl,Alg.cg,Alg.rb,Alg.bd,Alg.l1,Tup.q,Tup.o]
  simp (disch:=omega) only [RR,RB,H4,a1,R,P,R1,R2,P1,List.length_cons,List.length_nil,List.length_append]
  repeat' (first | (refine And.intro ?_ ?_) | intro _)
  all_goals try omega
  all_goals try exact BoD.mk (show(f4 (b,p,())).2.2.2.2.2.2.2.2.1.length<100000 by omega) rfl (by dsimp only;omega) (by dsimp only;omega)
  all_goals try exact hp3 _ _ _ (show(f4 (b,p,())).2.2.2.2.2.2.2.2.1.length<1000000 by omega) hb (by omega) (by omega)
  all_goals try exact BoD.mk (show(_++ [_]).length<100000 by rw [List.length_append,List.length_singleton];omega) rfl (by dsimp only;omega) (by dsimp only;omega)
  all_goals try exact(fun h=>BoD.mk (Nat.lt_of_le_of_lt h.len (show(f4 (b,p,())).2.2.2.2.2.2.2.2.1.length<100000 by omega)) h.b (by have:=h.lo;dsimp only;omega) (by have:=h.hi;dsimp only;omega)) (hf3 _ _ _ (show(f4 (b,p,())).2.2.2.2.2.2.2.2.1.length<1000000 by omega) hb (by omega) (by omega))
  all_goals
    refine aA (fun(y:List Int×Int×Int×Int×Int×Int×Int×Int×Int×Int×Int×Int×Int×Int×List IOp×Unit)=>y.1=b∧p≤y.2.1∧y.2.1≤p+5000∧y.2.2.2.2.2.2.2.2.2.2.2.2.2.2.1.length<50000) (fun y=>50-y.2.2.2.2.2.2.2.2.2.2.2.2.2.2.1.length) ⟨rfl,by dsimp only;omega,by dsimp only;omega,by dsimp only;omega⟩ ?_
    rintro⟨(b':List Int),(q:Int),u1,u2,u3,u4,u5,u6,b1,b2,b3,b4,b5,b6,(ops:List IOp),⟨⟩⟩ hI
    dsimp only at hI ⊢
    obtain⟨rfl,h3,h4,h5⟩:=hI
    simp (disch:=omega) only [RR,List.length_append,List.length_cons,List.length_nil]
    refine⟨fun h=>⟨by omega,⟨by omega,by omega,by omega⟩,by omega⟩,fun h=>⟨show ops.length<100000 by omega,rfl,by dsimp only;omega,by dsimp only;omega⟩⟩
end Go.TX.F
namespace Go.TX.F
open Go Go.AE Go.TX
end Go.TX.F
namespace Go.TX.F
open Go Go.AE Go.TX
end Go.TX.F
namespace Go.TX.F
open Go Go.AE Go.TX
end Go.TX.F
namespace Go.TX.F
open Go Go.AE Go.TX
theorem acO (x y:IOp):aj4 .iop x y=decide (x=y):=rfl
theorem R6 {P:Prop} [Decidable P]:decide P=bp P:=by unfold bp;congr
theorem ZQ (a b:List IOp) (ha:a.length<1000000000):Rv (std 0) (a,b,()) (fun y=>y=(bp (a=b),())):=by
  dsimp only [Rv,Alg.cl,Alg.cg,Alg.rb,Alg.bd,Alg.l1,Tup.q,Tup.o]
  simp (disch:=omega) only [RR]
  refine⟨fun h=> ?_,fun h=> ?_⟩
  · rw [gZ (fun e=>h (by rw [e]))]
  have hl:a.length=b.length:=by omega
  refine aA (fun(y:List IOp×List IOp×Int×Int×Unit)=>y.1=a∧y.2.1=b∧y.2.2.1=a.length∧0≤y.2.2.2.1∧y.2.2.2.1≤a.length∧All y.2.2.2.1 (fun i=>a.getD i.toNat default=b.getD i.toNat default)) (fun y=>(a.length-y.2.2.2.1).toNat) ⟨rfl,rfl,rfl,by simp,by simp,All.zero⟩ ?_
  rintro⟨(l1:List IOp),(l2:List IOp),(n:Int),(i:Int),⟨⟩⟩ hI
  dsimp only at hI ⊢
  obtain⟨rfl,rfl,rfl,h1,h2,h3⟩:=hI
  simp (disch:=omega) only [RR,acO]
  refine⟨fun h4=>⟨by omega,by omega,by omega,by omega,fun h5=> ?_,fun h5=>⟨⟨by omega,by omega,h3.snoc h5⟩,by omega⟩⟩,fun h4=> ?_⟩
  · rw [gZ]
    intro e;rw [e]at h5;exact h5 rfl
  · rw [dF (zm hl (h3.le (by omega)))]
theorem an9 {p1:List IOp×List IOp×Unit→Bool} {f1:List IOp×List IOp×Unit→Bool×Unit} (hp1:∀a b,a.length<1000000000→p1 (a,b,())=true) (hf1:∀a b,a.length<1000000000→f1 (a,b,())=(bp (a=b),())) (a b:Blk) (ha:a.ops.length<1000000000):YP (std 0) p1 f1 (a,b,()) (fun y=>y=(bp (a=b),())):=by
  dsimp only [YP,Alg.cl,Alg.cg,Alg.rb,Alg.bd,Alg.l1,Tup.q,Tup.o]
  simp (disch:=omega) only [RR,RB,hp1 _ _ ha,hf1 _ _ ha]
  simp only [R6,←uL]
  refine Prod.ext (uM ?_) rfl
  cases a;cases b;simp only [Blk.mk.injEq]
  constructor<;>(intro h;simp only [h,and_self])
theorem aoa {p1:List ak×List ak×Unit→Bool} {f1:List ak×List ak×Unit→Bool×Unit} (hp1:∀a b,Sh a→p1 (a,b,())=true) (hf1:∀a b,Sh a→f1 (a,b,())=(decide (iQ a b=0),())) (a b:List ak) (ha:Sh a):YR (std 0) p1 f1 (a,b,()) (fun y=>y=(decide (iQ a b=0),())):=by
  dsimp only [YR,Alg.cl,Alg.cg,Alg.rb,Alg.bd,Alg.l1,Tup.q,Tup.o]
  simp (disch:=omega) only [RR,hp1 _ _ ha,hf1 _ _ ha]
theorem ahZ {p1:List ak×List ak×Unit→Bool} {f1:List ak×List ak×Unit→Bool×Unit} (hp1:∀a b,Sh a→p1 (a,b,())=true) (hf1:∀a b,Sh a→f1 (a,b,())=(decide (iQ a b=0),())) (a b:List (List ak)) (ha:ShP a):Rw (std 0) p1 f1 (a,b,()) (fun y=>y=(bp (a=b),())):=by
  have hlen:=ha.1
  dsimp only [Rw,Alg.cl,Alg.cg,Alg.rb,Alg.bd,Alg.l1,Tup.q,Tup.o]
  simp (disch:=omega) only [RR]
  refine⟨fun h=> ?_,fun h=> ?_⟩
  · rw [gZ (fun e=>h (by rw [e]))]
  have hl:a.length=b.length:=by omega
  refine aA (fun(y:List (List ak)×List (List ak)×Int×Int×Unit)=>y.1=b∧y.2.1=a∧y.2.2.1=a.length∧0≤y.2.2.2.1∧y.2.2.2.1≤a.length∧All y.2.2.2.1 (fun i=>a.getD i.toNat default=b.getD i.toNat default)) (fun y=>(a.length-y.2.2.2.1).toNat) ⟨rfl,rfl,rfl,by simp,by simp,All.zero⟩ ?_
  rintro⟨(l1:List (List ak)),(l2:List (List ak)),(n:Int),(i:Int),⟨⟩⟩ hI
  dsimp only at hI ⊢
  obtain⟨rfl,rfl,rfl,h1,h2,h3⟩:=hI
  simp (disch:=omega) only [RR,hp1 _ _ (ha.at _),hf1 _ _ (ha.at _),mh]
  refine⟨fun h4=>⟨by omega,by omega,by omega,by omega,fun h5=> ?_,fun h5=>⟨⟨by omega,by omega,h3.snoc h5⟩,by omega⟩⟩,fun h4=> ?_⟩
  · rw [gZ]
    intro e;rw [e]at h5;exact h5 rfl
  · rw [dF (zm hl (h3.le (by omega)))]
theorem aob {p1:List (List ak)×List (List ak)×Unit→Bool} {f1:List (List ak)×List (List ak)×Unit→Bool×Unit} (hp1:∀a b,ShP a→p1 (a,b,())=true) (hf1:∀a b,ShP a→f1 (a,b,())=(bp (a=b),())) (a b:List (List ak)) (ha:ShP a):YS (std 0) p1 f1 (a,b,()) (fun y=>y=(bp (a=b),())):=by
  dsimp only [YS,Alg.cl,Alg.cg,Alg.rb,Alg.bd,Alg.l1,Tup.q,Tup.o]
  simp (disch:=omega) only [RR,hp1 _ _ ha,hf1 _ _ ha]
theorem aoc {p1:List ak×List ak×Unit→Bool} {f1:List ak×List ak×Unit→Bool×Unit} (hp1:∀a b,Sh a→p1 (a,b,())=true) (hf1:∀a b,Sh a→f1 (a,b,())=(decide (iQ a b=0),())) {p2:List (List ak)×List (List ak)×Unit→Bool} {f2:List (List ak)×List (List ak)×Unit→Bool×Unit} (hp2:∀a b,ShP a→p2 (a,b,())=true) (hf2:∀a b,ShP a→f2 (a,b,())=(bp (a=b),())) (a b:Ev) (ha:ShE a):YT (std 0) p1 f1 p2 f2 (a,b,()) (fun y=>y=(bp (a=b),())):=by
  dsimp only [YT,Alg.cl,Alg.cg,Alg.rb,Alg.bd,Alg.l1,Tup.q,Tup.o]
  simp (disch:=omega) only [RR,RB,hp1 _ _ ha.1,hf1 _ _ ha.1,hp1 _ _ ha.2.1,hf1 _ _ ha.2.1,hp2 _ _ ha.2.2,hf2 _ _ ha.2.2,mh]
  simp only [R6,←uL]
  refine Prod.ext (uM ?_) rfl
  cases a;cases b;simp only [Ev.mk.injEq]
  constructor<;>(intro h;simp only [h,and_self])
theorem ah0 {p1:Ev×Ev×Unit→Bool} {f1:Ev×Ev×Unit→Bool×Unit} (hp1:∀a b,ShE a→p1 (a,b,())=true) (hf1:∀a b,ShE a→f1 (a,b,())=(bp (a=b),())) (a b:List Ev) (ha:VU a):Rx (std 0) p1 f1 (a,b,()) (fun y=>y=(bp (a=b),())):=by
  have hlen:=ha.1
  dsimp only [Rx,Alg.cl,Alg.cg,Alg.rb,Alg.bd,Alg.l1,Tup.q,Tup.o]
  simp (disch:=omega) only [RR]
  refine⟨fun h=> ?_,fun h=> ?_⟩
  · rw [gZ (fun e=>h (by rw [e]))]
  have hl:a.length=b.length:=by omega
  refine aA (fun(y:List Ev×List Ev×Int×Int×Unit)=>y.1=b∧y.2.1=a∧y.2.2.1=a.length∧0≤y.2.2.2.1∧y.2.2.2.1≤a.length∧All y.2.2.2.1 (fun i=>a.getD i.toNat default=b.getD i.toNat default)) (fun y=>(a.length-y.2.2.2.1).toNat) ⟨rfl,rfl,rfl,by simp,by simp,All.zero⟩ ?_
  rintro⟨(l1:List Ev),(l2:List Ev),(n:Int),(i:Int),⟨⟩⟩ hI
  dsimp only at hI ⊢
  obtain⟨rfl,rfl,rfl,h1,h2,h3⟩:=hI
  simp (disch:=omega) only [RR,hp1 _ _ (ha.at _),hf1 _ _ (ha.at _),bN,rX]
  refine⟨fun h4=>⟨by omega,by omega,by omega,by omega,fun h5=> ?_,fun h5=>⟨⟨by omega,by omega,h3.snoc h5⟩,by omega⟩⟩,fun h4=> ?_⟩
  · rw [gZ]
    intro e;rw [e]at h5;exact h5 rfl
  · rw [dF (zm hl (h3.le (by omega)))]
theorem aod {p1:List ak×List ak×Unit→Bool} {f1:List ak×List ak×Unit→Bool×Unit} (hp1:∀a b,Sh a→p1 (a,b,())=true) (hf1:∀a b,Sh a→f1 (a,b,())=(decide (iQ a b=0),())) {p2:List (List ak)×List (List ak)×Unit→Bool} {f2:List (List ak)×List (List ak)×Unit→Bool×Unit} (hp2:∀a b,ShP a→p2 (a,b,())=true) (hf2:∀a b,ShP a→f2 (a,b,())=(bp (a=b),())) {p3:List Ev×List Ev×Unit→Bool} {f3:List Ev×List Ev×Unit→Bool×Unit} (hp3:∀b a,VU b→p3 (b,a,())=true) (hf3:∀b a,VU b→f3 (b,a,())=(bp (b=a),())) (a b:Sym) (ha:ShY a):YW (std 0) p1 f1 p2 f2 p3 f3 (a,b,()) (fun y=>y=(bp (a=b),())):=by
  dsimp only [YW,Alg.cl,Alg.cg,Alg.rb,Alg.bd,Alg.l1,Tup.q,Tup.o]
  simp (disch:=omega) only [RR,RB,hp1 _ _ ha.x,hf1 _ _ ha.x,hp1 _ _ ha.y,hf1 _ _ ha.y,hp2 _ _ ha.r,hf2 _ _ ha.r,hp3 _ _ ha.e,hf3 _ _ ha.e,mh]
  simp only [R6,←uL]
  refine Prod.ext (uM ?_) rfl
  cases a;cases b;simp only [Sym.mk.injEq]
  constructor<;>(intro h;simp only [h,and_self])
theorem aq1 {p1:Blk×Unit→Bool} {f1:Blk×Unit→Bool×Unit} (hp1:∀b,b.ops.length<1000000000→p1 (b,())=true) (hf1:∀b,b.ops.length<1000000000→f1 (b,())=(bp (bJ b),())) {p2:Blk×Blk×Unit→Bool} {f2:Blk×Blk×Unit→Bool×Unit} (hp2:∀a b,a.ops.length<1000000000→p2 (a,b,())=true) (hf2:∀a b,a.ops.length<1000000000→f2 (a,b,())=(bp (a=b),())) {p3:Unit→Bool} {f3:Unit→List Atom×List (List ak)×Unit} (hp3:p3 ()=true) (hf3:(f3 ()).1=t4) {p4:List Atom×Blk×Unit→Bool} {f4:List Atom×Blk×Unit→List Atom×Sym×Unit} (hp4:∀t b,ShT t→b.ops.length<1000000000→p4 (t,b,())=true) (hf4:∀t b,ShT t→b.ops.length<1000000000→f4 (t,b,())=((bK t b).1,(bK t b).2,())) {p5:Sym×Sym×Unit→Bool} {f5:Sym×Sym×Unit→Bool×Unit} (hp5:∀a b,ShY a→p5 (a,b,())=true) (hf5:∀a b,ShY a→f5 (a,b,())=(bp (a=b),())) (b c:Blk) (hb:b.ops.length<1000000000) (hc:c.ops.length<1000000000):afE (std 0) p1 f1 p2 f2 p3 f3 p4 f4 p5 f5 (b,c,()) (fun y=>y=(chk b c,())):=by
  have s4:ShT t4:=ZA.1.sh
  have y1:=Kn t4 b
  dsimp only [afE,Alg.cl,Alg.cg,Alg.rb,Alg.bd,Alg.l1,Tup.q,Tup.o]
  simp (disch:=omega) only [RR,RB,hp1 b hb,hf1 b hb,hp1 c hc,hf1 c hc,hp2 b c hb,hf2 b c hb,hp3,hf3,hp4 t4 b s4 hb,hf4 t4 b s4 hb,hp4 _ c y1.2 hc,hf4 _ c y1.2 hc,hp5 _ _ y1.1,hf5 _ _ y1.1,bN,rX]
  unfold chk
  refine⟨fun h=> ?_,fun h=>⟨fun e=> ?_,fun e=> ?_⟩⟩
  · rw [gZ];rintro⟨h1,h2,h3,h4,_⟩;simp_all
  · rw [dF];exact⟨h.1.1.1,h.1.1.2,h.1.2,h.2,Or.inl e⟩
  · refine Prod.ext (uM ?_) rfl
    exact⟨fun g=>⟨h.1.1.1,h.1.1.2,h.1.2,h.2,Or.inr g⟩,fun g=>g.2.2.2.2.resolve_left e⟩
end Go.TX.F
namespace Go.TX.F
open Go Go.AE Go.TX
theorem mkB (p l o f x y k):Co.mk .blk (p,l,o,f,x,y,k,())=Blk.mk p l o f x y k:=rfl
structure abY (nm:List Int) (fin x y:Int) (ops:List IOp):Prop where
  op:∀i:Int,0≤i→i<ops.length→(hX ((ops).getD (i).toNat default)→0≤(((ops).getD (i).toNat default)).x∧(((ops).getD (i).toNat default)).x<nm.length)∧(hY ((ops).getD (i).toNat default)→0≤(((ops).getD (i).toNat default)).y∧(((ops).getD (i).toNat default)).y<nm.length)
  x:fin≠1→0≤x∧x<nm.length
  y:3≤fin→0≤y∧y<nm.length
  l:ops.length<1000000000
theorem aoe {p1:Blk×Unit→Bool} {f1:Blk×Unit→Bool×Bool×Bool×Unit} (hp1:∀b,p1 (b,())=true) (hf1:∀b,f1 (b,())=(decide (b.fin≠1),decide (3≤b.fin),decide (b.fin≠2),())) {p2:IOp×Unit→Bool} {f2:IOp×Unit→Bool×Bool×Bool×Bool×Unit} (hp2:∀o,p2 (o,())=true) (hf2:∀o,f2 (o,())=(decide (hX o),decide (hY o),decide (hK o),decide (evO o),())) (nm:List Int) (pc len fin x y k:Int) (ops:List IOp) (h:abY nm fin x y ops):Y1 (std 0) p1 f1 p2 f2 (nm,pc,len,fin,x,y,k,ops,()) (fun z=>z=(pc,len,fin,(if fin=1 then x else((nm).getD (x).toNat default)),(if 3≤fin then((nm).getD (y).toNat default)else y),k,ops.map (ren nm),())):=by
  have hl:=h.l
  dsimp only [Y1,Alg.cl,Alg.cg,Alg.rb,Alg.bd,Alg.l1,Tup.q,Tup.o]
  simp (disch:=omega) only [RR,RB]
  refine aA (fun(z:List Int×Int×Int×Int×Int×Int×Int×Int×Int×List IOp×Unit)=>z.1=nm∧z.2.1=ops.length∧0≤z.2.2.1∧z.2.2.1≤ops.length∧z.2.2.2=(pc,len,fin,x,y,k,(ops.take z.2.2.1.toNat).map (ren nm)++ops.drop z.2.2.1.toNat,())) (fun z=>((ops.length:Int)-z.2.2.1).toNat) ⟨rfl,rfl,by dsimp only;omega,by dsimp only;omega,rfl⟩ ?_
  rintro⟨(nm':List Int),(n:Int),(i:Int),(pc':Int),(len':Int),(fin':Int),(x':Int),(y':Int),(k':Int),(ops':List IOp),⟨⟩⟩ hI
  dsimp only at hI ⊢
  simp only [Prod.mk.injEq,and_true]at hI
  obtain⟨rfl,rfl,h1,h2,rfl,rfl,rfl,rfl,rfl,rfl,rfl⟩:=hI
  have fl:((ops.take i.toNat).map (ren nm')).length=i.toNat:=by rw [List.length_map,List.length_take];omega
  have ln:=Cj (l:=ops) fl (by omega)
  by_cases c:i<ops.length
  · obtain⟨ox,oy⟩:=h.op i h1 c
    have ek:=R5 (d:=default) (l:=ops) fl (by omega)
    have ms:=fun q=>Ci (x:=q) (l:=ops) fl (by omega)
    have mk:=Oy (d:=default) (f:=(ops.take i.toNat).map (ren nm')) (l:=ops) (k:=i.toNat) (by omega)
    have tk:=iK (d:=default) (l:=ops) h1 c rfl
    have m2:∀q:IOp,(((ops.take i.toNat).map (ren nm')++ [q])++ops.drop (i.toNat+1)).getD i.toNat default=q:=fun q=>by
      rw [getD_lt (by rw [List.length_append,List.length_append,fl];simp only [List.length_cons,List.length_nil];omega),List.getElem_append_left (by rw [List.length_append,fl];simp),List.getElem_append_right (by omega)];simp only [fl,Nat.sub_self,List.getElem_cons_zero]
    have m3:∀q r:IOp,(((ops.take i.toNat).map (ren nm')++ [q])++ops.drop (i.toNat+1)).set i.toNat r=((ops.take i.toNat).map (ren nm')++ [r])++ops.drop (i.toNat+1):=fun q r=>by
      rw [List.set_append_left _ _ (by rw [List.length_append,fl];simp),List.set_append_right _ _ (by omega),fl,Nat.sub_self];rfl
    have m4:∀q:IOp,(((ops.take i.toNat).map (ren nm')++ [q])++ops.drop (i.toNat+1)).length=ops.length:=fun q=>by
      rw [List.length_append,List.length_append,fl,List.length_drop];simp only [List.length_cons,List.length_nil];omega
    rw [mk]at ek ln ms ⊢
    generalize ((ops).getD (i).toNat default)=o at*
    simp (disch:=omega) only [RR,RB,hp2,hf2,m2,m3,m4,c]
    have G:∀q:IOp,q=ren nm' o→(pc',len',fin',x',y',k',(ops.take i.toNat).map (ren nm')++ [q]++ops.drop (i.toNat+1),())=(pc',len',fin',x',y',k',(ops.take (i+1).toNat).map (ren nm')++ops.drop (i+1).toNat,()):=fun q e=>by
      rw [e,←tk,List.map_append,show(i+1).toNat=i.toNat+1 by omega];rfl
    refine⟨h1,h1,fun d=>⟨(ox d).1,(ox d).2,h1,h1,fun e=>⟨(oy e).1,(oy e).2,h1,h1,⟨by omega,by omega,G _ ?_⟩,by omega⟩,fun e=>⟨⟨by omega,by omega,G _ ?_⟩,by omega⟩⟩,fun d=>⟨fun e=>⟨(oy e).1,(oy e).2,h1,h1,⟨by omega,by omega,G _ ?_⟩,by omega⟩,fun e=>⟨⟨by omega,by omega,G _ ?_⟩,by omega⟩⟩⟩
    all_goals unfold ren
    · rw [if_pos d,if_pos e]
    · rw [if_pos d,if_neg e]
    · rw [if_neg d,if_pos e]
    · rw [if_neg d,if_neg e]
  · have hx:=h.x
    have hy:=h.y
    have z:(ops.take i.toNat).map (ren nm')++ops.drop i.toNat=ops.map (ren nm'):=by rw [List.take_of_length_le (by omega),List.drop_of_length_le (by omega),List.append_nil]
    rw [z]
    simp (disch:=omega) only [RR,RB,hp1,hf1,c,mkB]
    refine⟨fun d=>⟨(hx d).1,(hx d).2,fun e=>⟨(hy e).1,(hy e).2,?_⟩,fun e=> ?_⟩,fun d=>⟨fun e=>⟨(hy e).1,(hy e).2,?_⟩,fun e=> ?_⟩⟩
    · rw [if_neg (show¬fin'=1 from d),if_pos (show 3≤fin' from e)]
    · rw [if_neg (show¬fin'=1 from d),if_neg (show¬3≤fin' from e)]
    · rw [if_pos (show fin'=1 from Classical.byContradiction d),if_pos (show 3≤fin' from e)]
    · rw [if_pos (show fin'=1 from Classical.byContradiction d),if_neg (show¬3≤fin' from e)]
theorem aof {p1:List Int×Int×Int×Int×Int×Int×Int×List IOp×Unit→Bool} {f1:List Int×Int×Int×Int×Int×Int×Int×List IOp×Unit→Int×Int×Int×Int×Int×Int×List IOp×Unit} (hp1:∀(nm:List Int) pc len fin x y k ops,abY nm fin x y ops→p1 (nm,pc,len,fin,x,y,k,ops,())=true) (hf1:∀(nm:List Int) pc len fin x y k ops,abY nm fin x y ops→f1 (nm,pc,len,fin,x,y,k,ops,())=(pc,len,fin,(if fin=1 then x else((nm).getD (x).toNat default)),(if 3≤fin then((nm).getD (y).toNat default)else y),k,ops.map (ren nm),())) (b:Blk) (kp:List Bool) (ok:bJ b) (hk:kp.length=b.ops.length):Y2 (std 0) p1 f1 (b,kp,()) (fun y=>y=bk7 (eP b kp)):=by
  have n48:=ok.sz
  dsimp only [Y2,Alg.cl,Alg.cg,Alg.rb,Alg.bd,Alg.l1,Tup.q,Tup.o]
  simp (disch:=omega) only [RR,RB]
  refine⟨by omega,by omega,aA (fun(y:List Bool×List IOp×Int×Int×Int×Int×Int×Int×Int×Int×List Int×Int×Int×Int×Int×Int×Int×List IOp×Unit)=>y.1=kp∧y.2.1=b.ops∧y.2.2.1=b.ops.length∧0≤y.2.2.2.1∧y.2.2.2.1≤b.ops.length∧y.2.2.2.2.2.2.2.2.2.2=((kpS b.ops kp y.2.2.2.1.toNat).1++(List.replicate b.ops.length (0:Int)).drop y.2.2.2.1.toNat,b.pc,b.len,b.fin,b.x,b.y,b.k,(kpS b.ops kp y.2.2.2.1.toNat).2,())) (fun y=>((b.ops.length:Int)-y.2.2.2.1).toNat) ⟨rfl,rfl,rfl,by dsimp only;omega,by dsimp only;omega,?_⟩ ?_⟩
  · rfl
  rintro⟨(kp':List Bool),(ops:List IOp),(n:Int),(i:Int),u1,u2,u3,u4,u5,u6,(nm:List Int),(pc:Int),(len:Int),(fin:Int),(x:Int),(y:Int),(k:Int),(out:List IOp),⟨⟩⟩ hI
  dsimp only at hI ⊢
  simp only [Prod.mk.injEq,and_true]at hI
  obtain⟨rfl,rfl,rfl,h1,h2,rfl,rfl,rfl,rfl,rfl,rfl,rfl,rfl⟩:=hI
  obtain⟨l1,l2⟩:=jL b.ops kp' i.toNat
  have rl:(List.replicate b.ops.length (0:Int)).length=b.ops.length:=List.length_replicate
  have ln:=Cj (l:=List.replicate b.ops.length (0:Int)) l1 (by omega)
  have ms:=fun(q:Int) (h:i<b.ops.length)=>Ci (x:=q) (l:=List.replicate b.ops.length (0:Int)) l1 (by omega)
  have fin:¬i<b.ops.length→kpS b.ops kp' i.toNat=kpS b.ops kp' b.ops.length:=fun h=>by rw [show i.toNat=b.ops.length by omega]
  have nx:kpS b.ops kp' (i+1).toNat=((kpS b.ops kp' i.toNat).1++ [((kpS b.ops kp' i.toNat).2.length:Int)],if kp'.getD i.toNat default=true then(kpS b.ops kp' i.toNat).2++ [((b.ops).getD (i).toNat default)]else(kpS b.ops kp' i.toNat).2):=by rw [show(i+1).toNat=i.toNat+1 by omega];rfl
  have kb:eP b kp'=Ko (kpS b.ops kp' b.ops.length).1 b (kpS b.ops kp' b.ops.length).2:=rfl
  have en:=ok.en
  by_cases c:i<b.ops.length
  · have ms:=fun q=>ms q c
    generalize hT:kpS b.ops kp' (i+1).toNat=T at*
    generalize kpS b.ops kp' i.toNat=S at*
    simp (disch:=omega) only [RR,RB,ln,ms,c,List.length_append,List.length_cons,List.length_nil,GJ]
    rw [hT,nx,rl,show(i+1).toNat=i.toNat+1 by omega]
    refine⟨h1,h1,c,h1,c,h1,by omega,fun d=>⟨by omega,⟨by omega,by omega,?_⟩,by omega⟩,fun d=>⟨⟨by omega,by omega,?_⟩,by omega⟩⟩
    · rw [if_pos d]
    · rw [d,if_neg (by decide)]
  · have e:=fin c
    have z:(kpS b.ops kp' i.toNat).1++(List.replicate b.ops.length (0:Int)).drop i.toNat=(kpS b.ops kp' b.ops.length).1:=by
      rw [List.drop_of_length_le (by rw [rl];omega),List.append_nil,e]
    have R:abY (kpS b.ops kp' b.ops.length).1 b.fin b.x b.y (kpS b.ops kp' b.ops.length).2:=by
      obtain⟨q1,q2⟩:=jL b.ops kp' b.ops.length
      refine⟨fun m m0 m1=> ?_,fun d=> ?_,fun d=> ?_,by omega⟩
      · obtain⟨j,j1,j2,j3⟩:=Kr b.ops kp' (n:=b.ops.length) (m:=m.toNat) (by omega)
        have a:=(Ay b.ops kp' j1 j2).2
        rw [j3]at a
        rw [a,q1]
        have o:=ok.op j (by omega) (by omega)
        rw [show(j:Int).toNat=j from rfl]at o
        exact⟨fun d=>⟨(o.x1 d).1,by have:=(o.x1 d).2.1;omega⟩,fun d=>⟨(o.y1 d).1,by have:=(o.y1 d).2.1;omega⟩⟩
      · rw [q1];exact⟨(en.x1 d).1,(en.x1 d).2.1⟩
      · rw [q1];exact⟨(en.y1 d).1,(en.y1 d).2.1⟩
    rw [z,e,kb]
    generalize kpS b.ops kp' b.ops.length=N at*
    simp (disch:=omega) only [RR,RB,c,hp1 N.1 b.pc b.len b.fin b.x b.y b.k N.2 R,hf1 N.1 b.pc b.len b.fin b.x b.y b.k N.2 R]
    rfl
end Go.TX.F
namespace Go.TX.F
open Go Go.AE Go.TX
end Go.TX.F
namespace Go.TX.F
open Go Go.AE Go.TX
theorem aog {p1:Blk×Unit→Bool} {f1:Blk×Unit→Bool×Bool×Bool×Unit} (hp1:∀b,p1 (b,())=true) (hf1:∀b,f1 (b,())=(decide (b.fin≠1),decide (3≤b.fin),decide (b.fin≠2),())) {p2:IOp×Unit→Bool} {f2:IOp×Unit→Bool×Bool×Bool×Bool×Unit} (hp2:∀o,p2 (o,())=true) (hf2:∀o,f2 (o,())=(decide (hX o),decide (hY o),decide (hK o),decide (evO o),())) (b:Blk) (ok:bJ b):Y3 (std 0) p1 f1 p2 f2 (b,()) (fun y=>y=(us b b.ops.length,())):=by
  have n48:=ok.sz
  have en:=ok.en
  have ex:¬b.fin=1→0≤b.x∧b.x<b.ops.length:=fun c=>by have:=en.x1 c;exact⟨this.1,this.2.1⟩
  have ey:3≤b.fin→0≤b.y∧b.y<b.ops.length:=fun c=>by have:=en.y1 c;exact⟨this.1,this.2.1⟩
  dsimp only [Y3,Alg.cl,Alg.cg,Alg.rb,Alg.bd,Alg.l1,Tup.q,Tup.o]
  simp (disch:=omega) only [RR,RB,hp1,hf1,List.length_replicate,List.length_set,Int.toNat_natCast]
  refine⟨by omega,by omega,fun c=>⟨(ex c).1,(ex c).2,(ex c).1,(ex c).2,fun d=>⟨(ey d).1,(ey d).2,(ey d).1,(ey d).2,?_⟩,fun d=> ?_⟩,fun c=>⟨fun d=>⟨(ey d).1,(ey d).2,(ey d).1,(ey d).2,?_⟩,fun d=> ?_⟩⟩
  all_goals
    refine aA (fun(y:Int×Blk×List Bool×Unit)=> -1≤y.1∧y.1<b.ops.length∧y.2.1=b∧y.2.2.1=us b (b.ops.length-1-y.1).toNat) (fun y=>(y.1+1).toNat) ⟨by dsimp only;omega,by dsimp only;omega,rfl,?_⟩ ?_
    · dsimp only
      rw [show(b.ops.length-1- ((b.ops.length:Int)-1)).toNat=0 by omega]
      show _=us0 b
      unfold us0
      dsimp only
      first
        | rw [if_neg (show¬b.fin=1 from c),if_pos (show 3≤b.fin from d)]
        | rw [if_neg (show¬b.fin=1 from c),if_neg (show¬3≤b.fin from d)]
        | (rw [if_pos (show b.fin=1 from Classical.byContradiction c),if_pos (show 3≤b.fin from d)])
        | (rw [if_pos (show b.fin=1 from Classical.byContradiction c),if_neg (show¬3≤b.fin from d)])
    rintro⟨(j:Int),(b2:Blk),(ms:List Bool),⟨⟩⟩ hI
    dsimp only at hI ⊢
    obtain⟨j0,j1,rfl,rfl⟩:=hI
    have ul:=rG b2 (b2.ops.length-1-j).toNat
    have us1:0≤j→us b2 (b2.ops.length-1- (j-1)).toNat=usO ((b2.ops).getD (j).toNat default) j.toNat (us b2 (b2.ops.length-1-j).toNat):=fun g=>by
      rw [show(b2.ops.length-1- (j-1)).toNat=(b2.ops.length-1-j).toNat+1 by omega]
      show usO (b2.ops.getD (b2.ops.length-1- (b2.ops.length-1-j).toNat) default) (b2.ops.length-1- (b2.ops.length-1-j).toNat) _=_
      rw [show b2.ops.length-1- (b2.ops.length-1-j).toNat=j.toNat by omega]
    have ue:¬0≤j→us b2 (b2.ops.length-1-j).toNat=us b2 b2.ops.length:=fun g=>by rw [show(b2.ops.length-1-j).toNat=b2.ops.length by omega]
    generalize us b2 (b2.ops.length-1-j).toNat=U at us1 ue ul ⊢
    by_cases g:0≤j
    · have o:=ok.op j g j1
      have us1:=us1 g
      have ox:=fun c:hX ((b2.ops).getD (j).toNat default)=>(o.x1 c)
      have oy:=fun c:hY ((b2.ops).getD (j).toNat default)=>(o.y1 c)
      unfold usO at us1
      generalize hq:((b2.ops).getD (j).toNat default)=q at*
      have sj:∀x:Bool,(U.set j.toNat x).getD j.toNat default=x:=fun x=>by rw [getD_lt (by rw [List.length_set];omega),List.getElem_set_self]
      simp (disch:=omega) only [RR,RB,hp2,hf2,ul,List.length_set,sj,hq,g,eq_true g]
      rw [us1]
      by_cases w:(U.getD j.toNat default || decide (4≤q.kind))=true
      · have w2:U.getD j.toNat default=true∨4≤q.kind:=by rw [Bool.or_eq_true,decide_eq_true_eq]at w;exact w
        rw [if_pos w,w]
        refine⟨j1,j1,j1,j1,j1,j1,j1,fun e=> ?_,fun _=>⟨fun e=>⟨(ox e).1,by have:=(ox e).2.1;omega,(ox e).1,by have:=(ox e).2.1;omega,fun e'=>⟨(oy e').1,by have:=(oy e').2.1;omega,(oy e').1,by have:=(oy e').2.1;omega,⟨by omega,by omega,?_⟩,by omega⟩,fun e'=>⟨⟨by omega,by omega,?_⟩,by omega⟩⟩,fun e=>⟨fun e'=>⟨(oy e').1,by have:=(oy e').2.1;omega,(oy e').1,by have:=(oy e').2.1;omega,⟨by omega,by omega,?_⟩,by omega⟩,fun e'=>⟨⟨by omega,by omega,?_⟩,by omega⟩⟩⟩⟩
        · rcases w2 with w2 | w2
          · rw [e.1]at w2;cases w2
          · exact absurd w2 e.2
        all_goals dsimp only
        · rw [if_pos e,if_pos e']
        · rw [if_pos e,if_neg e']
        · rw [if_neg e,if_pos e']
        · rw [if_neg e,if_neg e']
      · have w1:(U.getD j.toNat default || decide (4≤q.kind))=false:=by simpa using w
        rw [if_neg w,w1]
        have w3:U.getD j.toNat default=false:=by rw [Bool.or_eq_false_iff]at w1;exact w1.1
        have ws:U.set j.toNat false=U:=by rw [←w3,getD_lt (show j.toNat<U.length by omega),List.set_getElem_self]
        refine⟨j1,j1,j1,j1,j1,j1,j1,fun _=>⟨⟨by omega,by omega,ws⟩,by omega⟩,fun e=> ?_⟩
        exfalso
        rcases e with e | e
        · rw [w3]at e;cases e
        · rw [decide_eq_true e,Bool.or_true]at w;exact w rfl
    · simp (disch:=omega) only [RR,RB,g,eq_false g,ue g]
theorem aoh {p1:Blk×List Bool×Unit→Bool} {f1:Blk×List Bool×Unit→Int×Int×Int×Int×Int×Int×List IOp×Unit} (hp1:∀b kp,bJ b→kp.length=b.ops.length→p1 (b,kp,())=true) (hf1:∀b kp,bJ b→kp.length=b.ops.length→f1 (b,kp,())=bk7 (eP b kp)) {p2:Blk×Unit→Bool} {f2:Blk×Unit→List Bool×Unit} (hp2:∀b,bJ b→p2 (b,())=true) (hf2:∀b,bJ b→f2 (b,())=(us b b.ops.length,())) {p3:Blk×Unit→Bool} {f3:Blk×Unit→Bool×Unit} (hp3:∀b,b.ops.length<1000000000→p3 (b,())=true) (hf3:∀b,b.ops.length<1000000000→f3 (b,())=(bp (bJ b),())) (b:Blk) (hb:b.ops.length<1000000):Y4 (std 0) p1 f1 p2 f2 p3 f3 (b,()) (fun y=>y=(bO b,())):=by
  dsimp only [Y4,Alg.cl,Alg.cg,Alg.rb,Alg.bd,Alg.l1,Tup.q,Tup.o]
  simp (disch:=omega) only [RR,RB,hp3 b (by omega),hf3 b (by omega)]
  refine⟨fun h=>by unfold bO;rw [h,if_neg (by decide)];rfl,fun h=> ?_⟩
  have ok:=bN.1 h
  have ul:=rG b b.ops.length
  rw [ow ok,hf2 b ok,hf1 _ _ ok ul]
  exact⟨hp2 b ok,hp1 _ _ ok ul,rfl⟩
theorem aoi {p1:Blk×Unit→Bool} {f1:Blk×Unit→List Bool×Unit} (hp1:∀b,bJ b→p1 (b,())=true) (hf1:∀b,bJ b→f1 (b,())=(us b b.ops.length,())) {p2:Blk×Unit→Bool} {f2:Blk×Unit→Bool×Unit} (hp2:∀b,b.ops.length<1000000000→p2 (b,())=true) (hf2:∀b,b.ops.length<1000000000→f2 (b,())=(bp (bJ b),())) (b:Blk) (hb:b.ops.length<1000000):Y7 (std 0) p1 f1 p2 f2 (b,()) (fun y=>y=(jM b,())):=by
  dsimp only [Y7,Alg.cl,Alg.cg,Alg.rb,Alg.bd,Alg.l1,Tup.q,Tup.o]
  simp (disch:=omega) only [RR,RB,hp2 b (by omega),hf2 b (by omega)]
  unfold jM
  refine⟨fun h=>by rw [h,if_neg (by decide)],fun h=> ?_⟩
  rw [if_pos h,hf1 b (bN.1 h)]
  exact⟨hp1 b (bN.1 h),rfl⟩
theorem acP (a b:Blk) (ha:a.ops.length<1000000000):YX (std 0) (a,b,()) (fun y=>y=(bp (a=b),())):=by
  dsimp only [YX,Alg.cl,Alg.cg,Alg.rb,Alg.bd,Alg.l1,Tup.q,Tup.o]
  simp (disch:=omega) only [RR,RB]
  refine⟨fun h=> ?_,fun h=> ?_⟩
  · rw [gZ];rintro rfl;simp at h
  have hl:a.ops.length=b.ops.length:=by omega
  refine aA (fun(y:Int×Blk×Blk×Unit)=>y.2.1=a∧y.2.2.1=b∧0≤y.1∧y.1≤a.ops.length∧All y.1 (fun i=>a.ops.getD i.toNat default=b.ops.getD i.toNat default)) (fun y=>(a.ops.length-y.1).toNat) ⟨rfl,rfl,by simp,by simp,All.zero⟩ ?_
  rintro⟨(i:Int),(a':Blk),(b':Blk),⟨⟩⟩ hI
  dsimp only at hI ⊢
  obtain⟨rfl,rfl,h1,h2,h3⟩:=hI
  simp (disch:=omega) only [RR,RB,acO]
  refine⟨fun h4=>⟨by omega,by omega,by omega,by omega,fun h5=> ?_,fun h5=>⟨⟨by omega,by omega,h3.snoc h5⟩,by omega⟩⟩,fun h4=> ?_⟩
  · rw [gZ];rintro rfl;exact h5 rfl
  · have e:=zm hl (h3.le (by omega))
    rw [dF]
    cases a';cases b';simp_all
end Go.TX.F
namespace Go.TX.F
open Go Go.AE Go.TX
theorem ah1 {p1:Blk×Unit→Bool} {f1:Blk×Unit→Int×Int×Int×Int×Int×Int×List IOp×Unit} (hp1:∀b,b.ops.length<1000000→p1 (b,())=true) (hf1:∀b,b.ops.length<1000000→f1 (b,())=bk7 (dB b)) {p2:List Int×Unit→Bool} {f2:List Int×Unit→List Int×Int×Unit} (hp2:∀b,By b→b.length<1000000000→p2 (b,())=true) (hf2:∀b,By b→b.length<1000000000→Bt (f2 (b,())).1∧(f2 (b,())).2.1=0) {p3:Int×List Int×Int×Unit→Bool} {f3:Int×List Int×Int×Unit→Int×List Int×Int×Unit} (hp3:∀n b p,Bt b→0≤p→p<1000000000→p3 (n,b,p,())=true) (hf3:∀n b p,Bt b→0≤p→p<1000000000→Pk n b p (f3 (n,b,p,()))) {p4:Int×List Int×Int×Unit→Bool} {f4:Int×List Int×Int×Unit→Blk×List Int×Int×Unit} (hp4:∀n b p,Bt b→0≤p→p<500000000→p4 (n,b,p,())=true) (hf4:∀n b p,Bt b→0≤p→p<500000000→BoD b p (f4 (n,b,p,()))) (c:List Int) (hc:By c) (hl:c.length<1000000000):Ry (std 0) p1 f1 p2 f2 p3 f3 p4 f4 (c,()) (fun y=>y.1.ops.length<100000):=by
  obtain⟨hb,e0⟩:=hf2 c hc hl
  generalize hbe:(f2 (c,())).1=b at hb
  have R:=pkR hb hf3
  have P:=fun n p h1 h2=>hp3 n b p hb h1 h2
  have B:=fun(q:Int) h1 h2=>hf4 14 b q hb h1 h2
  have Bp:=fun(q:Int) h1 h2=>hp4 14 b q hb h1 h2
  dsimp only [Ry,Alg.cl,Alg.cg,Alg.rb,Alg.bd,Alg.l1,Tup.q,Tup.o]
  simp (disch:=omega) only [RR,hp2 c hc hl,hbe,e0,R,P]
  have b1:=(B (0+1) (by omega) (by omega)).1
  refine⟨fun _=>⟨Bp _ (by omega) (by omega),hp1 _ (by omega),?_⟩,fun _=>⟨Bp _ (by omega) (by omega),b1⟩⟩
  rw [hf1 _ (by omega)]
  exact Nat.lt_of_le_of_lt (rJ _) b1
theorem ah2 {p1:List Int×Unit→Bool} {f1:List Int×Unit→Blk×Unit} (hp1:∀c,By c→c.length<1000000000→p1 (c,())=true) (hf1:∀c,By c→c.length<1000000000→(f1 (c,())).1.ops.length<100000) (c:List Int) (hc:By c) (hl:c.length<1000000000):Rz (std 0) p1 f1 (c,()) (fun y=>y.1.ops.length<100000):=by
  dsimp only [Rz,Alg.cl,Alg.cg,Alg.rb,Alg.bd,Alg.l1,Tup.q,Tup.o]
  simp (disch:=omega) only [RR,hp1 c hc hl]
  exact hf1 c hc hl
theorem aoj {p1:Blk×Blk×Unit→Bool} {f1:Blk×Blk×Unit→Bool×Unit} (hp1:∀b c,b.ops.length<1000000000→c.ops.length<1000000000→p1 (b,c,())=true) (hf1:∀b c,b.ops.length<1000000000→c.ops.length<1000000000→f1 (b,c,())=(chk b c,())) {p2:Blk×Unit→Bool} {f2:Blk×Unit→Bool×Unit} (hp2:∀b,b.ops.length<1000000000→p2 (b,())=true) (hf2:∀b,b.ops.length<1000000000→f2 (b,())=(bp (bJ b),())) {p3:Blk×Unit→Bool} {f3:Blk×Unit→Blk×Unit} (hp3:∀b,b.ops.length<1000000→p3 (b,())=true) (hf3:∀b,b.ops.length<1000000→f3 (b,())=(bO b,())) {p4:Blk×Unit→Bool} {f4:Blk×Unit→List Bool×Unit} (hp4:∀b,b.ops.length<1000000→p4 (b,())=true) (hf4:∀b,b.ops.length<1000000→f4 (b,())=(jM b,())) {p5:Blk×Blk×Unit→Bool} {f5:Blk×Blk×Unit→Bool×Unit} (hp5:∀a b,a.ops.length<1000000000→p5 (a,b,())=true) (hf5:∀a b,a.ops.length<1000000000→f5 (a,b,())=(bp (a=b),())) {p6:Unit→Bool} {f6:Unit→Bool×Unit} (hp6:p6 ()=true) (hf6:f6 ()=(true,())) {p7:List Int×Unit→Bool} {f7:List Int×Unit→Blk×Unit} (hp7:∀c,By c→c.length<1000000000→p7 (c,())=true) (hf7:∀c,By c→c.length<1000000000→(f7 (c,())).1.ops.length<100000) {p8:Blk×Unit→Bool} {f8:Blk×Unit→Bool×Unit} (hp8:∀b,b.ops.length<1000000000→p8 (b,())=true) (hf8:∀b,b.ops.length<1000000000→f8 (b,())=(bp (bJ b),())) {p9:Blk×Unit→Bool} {f9:Blk×Unit→Int×Int×Int×Int×Int×Int×List IOp×Unit} (hp9:∀b,b.ops.length<1000000→p9 (b,())=true) (hf9:∀b,b.ops.length<1000000→f9 (b,())=bk7 (bO b)) {p10:Blk×Unit→Bool} {f10:Blk×Unit→List Bool×Unit} (abW:∀b,b.ops.length<1000000→p10 (b,())=true) (ahx:∀b,b.ops.length<1000000→f10 (b,())=(jM b,())) (c:List Int) (hc:By c):Y8 (std 0) p1 f1 p2 f2 p3 f3 p4 f4 p5 f5 p6 f6 p7 f7 p8 f8 p9 f9 p10 f10 (c,()) (fun y=>y=(true,())):=by
  dsimp only [Y8,Alg.cl,Alg.cg,Alg.rb,Alg.bd,Alg.l1,Tup.q,Tup.o]
  simp (disch:=omega) only [RR]
  by_cases hl:1048576< (c.length:Int)
  · simp (disch:=omega) only [RR,hl]
  · have D:=hf7 c hc (by omega)
    have P:=hp7 c hc (by omega)
    generalize (f7 (c,())).1=b at D ⊢
    have le:=rH b
    have b1:b.ops.length<1000000:=by omega
    have b2:(bO b).ops.length<1000000:=by omega
    have mE:∀c:Blk,Co.mk .blk (c.pc,c.len,c.ops,c.fin,c.x,c.y,c.k,())=c:=fun _=>rfl
    simp (disch:=omega) only [RR,hl,P,RB,hp3 b b1,hf3 b b1,hp9 b b1,hf9 b b1,hp4 b b1,hf4 b b1,abW b b1,ahx b b1,mE,hp5 _ (bO b) (show(bO b).ops.length<1000000000 by omega),hf5 _ (bO b) (show(bO b).ops.length<1000000000 by omega),dF True.intro,hp8 b (by omega),hf8 b (by omega),hp6,hf6]
    refine⟨fun h=>by rw [(ahq (rX.1 h)).2.2.1];unfold jM;rw [h,if_neg (by decide)];rfl,fun h=> ?_⟩
    have ok:=bN.1 h
    have lk:=G7 ok
    have tw:=Ib ok
    have xo:=lk.oc
    have U:=Ou ok
    have ul:=rG b b.ops.length
    have kl:(bO b).ops.length=(kpS b.ops (us b b.ops.length) b.ops.length).2.length:=by rw [ow ok];exact zB _ _
    have ue:jM b=us b b.ops.length:=by unfold jM;rw [if_pos h]
    rw [ue]
    generalize bO b=x at*
    refine aA (fun(y:Int×Int×Blk×Blk×List Bool×Unit)=>0≤y.2.1∧y.2.1≤b.ops.length∧y.2.2.1=b∧y.2.2.2.1=x∧y.2.2.2.2.1=us b b.ops.length∧y.1=((kpS b.ops (us b b.ops.length) y.2.1.toNat).2.length:Int)) (fun y=>(b.ops.length-y.2.1).toNat) ⟨by simp,by simp,rfl,rfl,rfl,rfl⟩ ?_
    rintro⟨(n:Int),(i:Int),(b':Blk),(x':Blk),(m:List Bool),⟨⟩⟩ hI
    dsimp only at hI ⊢
    obtain⟨i0,i1,rfl,rfl,rfl,rfl⟩:=hI
    have suc:=abU b'.ops (us b' b'.ops.length) i.toNat
    have uk:=U.k i.toNat (Nat.zero_le _)
    obtain⟨_,q2⟩:=jL b'.ops (us b' b'.ops.length) i.toNat
    have en:¬i<b'.ops.length→(kpS b'.ops (us b' b'.ops.length) i.toNat).2.length=x'.ops.length:=fun g=>by rw [kl,show i.toNat=b'.ops.length by omega]
    rw [show i.toNat+1=(i+1).toNat by omega]at suc
    have z:(us b' b'.ops.length).length=b'.ops.length:=ul
    generalize us b' b'.ops.length=M at*
    by_cases g:i<b'.ops.length
    · simp (disch:=omega) only [RR,RB,g,z]
      refine⟨i0,i0,fun e=>⟨⟨by omega,by omega,by rw [suc,if_pos e];omega⟩,by omega⟩,fun e=>⟨i0,fun k4=> ?_,fun _=>⟨⟨by omega,by omega,by rw [suc,e,if_neg (by decide)];omega⟩,by omega⟩⟩⟩
      rw [uk (by omega) k4]at e;cases e
    · have en:=en g
      simp (disch:=omega) only [RR,RB,g,z,hp1 b' x' (by omega) (by omega),hf1 b' x' (by omega) (by omega),lk.chk,hp3 x' b2,hf3 x' b2,tw,hp5 x' x' (by omega),hf5 x' x' (by omega),hp2 x' (by omega),hf2 x' (by omega),dF True.intro,dF xo,en]
      simp
end Go.TX.F
namespace Go.TX.F
open Go Go.AE Go.TX
def ShC (l:List Cer):Prop:=l.length<1000∧∀q∈l,q.base.ops.length<1000000∧q.made.ops.length<1000000
theorem ShC.at {l:List Cer} (h:ShC l) (i:Nat):(l.getD i default).base.ops.length<1000000∧(l.getD i default).made.ops.length<1000000:=by
  by_cases c:i<l.length
  · rw [getD_lt c];exact h.2 _ (List.getElem_mem _)
  · rw [List.getD_eq_getElem?_getD,List.getElem?_eq_none (by omega)];exact⟨by decide,by decide⟩
theorem ShC.add {l:List Cer} (h:ShC l) (n:l.length<999) {q:Cer} (h1:q.base.ops.length<1000000) (h2:q.made.ops.length<1000000):ShC (l++ [q]):=by
  refine⟨by rw [List.length_append,List.length_singleton];omega,fun c g=> ?_⟩
  rw [List.mem_append,List.mem_singleton]at g
  rcases g with g | rfl
  · exact h.2 c g
  · exact⟨h1,h2⟩
end Go.TX.F
namespace Go.TX
open Go Go.AE
theorem enters_of {P:Program} {f:FuncId} {fn:Func} {c:Code} (hf:P.funcs[f]? =some fn) (hname:(fn.name== "runtime.NumGoroutine")=false) (hb:fn.body=some c):Enters P f:=by
  intro args w
  have h1:fn.name≠ "runtime.NumGoroutine" :=by simpa using hname
  simp [callFunc,hf,h1,hb,mark]
def UH (P:Program):Nat→List Field→Bool
  | _,[]=>true
  | k,f::fs=> !(f.name== "_")&&f.offset==k&& (match P.underlying f.type with | some (.int _)=>true | _=>false)&&UH P (k+1) fs
theorem UJ {P:Program} (w:World) (d:Nat) (xs ys:List Int) (hl:xs.length=ys.length):∀(fs:List Field) (k:Nat),UH P k fs=true→k+fs.length=xs.length→
    (Op.eqFields (d+1) (xs.map (Value.int .i64)).toArray (ys.map (Value.int .i64)).toArray fs).run P w= .ok (xs.drop k==ys.drop k) w
  | [],k,_,h2=>by
    rw [List.drop_eq_nil_of_le (show xs.length≤k by simp only [List.length_nil]at h2;omega),List.drop_eq_nil_of_le (show ys.length≤k by simp only [List.length_nil]at h2;omega)]
    simp [Op.eqFields]
  | f::fs,k,h1,h2=>by
    simp only [List.length_cons]at h2
    simp only [UH,Bool.and_eq_true,Bool.not_eq_true',beq_eq_false_iff_ne,beq_iff_eq]at h1
    obtain⟨⟨⟨n1,n2⟩,n3⟩,n4⟩:=h1
    have hk:k<xs.length:=by omega
    have hk':k<ys.length:=by omega
    obtain⟨kd,hu⟩:∃kd,P.underlying f.type=some (.int kd):=by
      cases hu:P.underlying f.type with
      | none=>rw [hu]at n3;cases n3
      | some z=>cases z<;>(first | exact⟨_,rfl⟩ | (rw [hu]at n3;cases n3))
    have pk:P.plainKey f.type=true:=by unfold Program.plainKey;rw [hu]
    have p1:=run_part_plain w pk (xs:=(xs.map (Value.int .i64)).toArray) (off:=f.offset) (v:= .int .i64 xs[k]) (by rw [n2];simp [hk])
    have p2:=run_part_plain w pk (xs:=(ys.map (Value.int .i64)).toArray) (off:=f.offset) (v:= .int .i64 ys[k]) (by rw [n2];simp [hk'])
    have ih:=UJ w d xs ys hl fs (k+1) n4 (by omega)
    simp only [Op.eqFields,if_pos n1,Sem.run_bind,p1,p2,Result.andThen_ok,run_equalIn_int w d f.type .i64 kd _ _ hu]
    have e:(xs.drop k==ys.drop k)=((xs[k]==ys[k])&& (xs.drop (k+1)==ys.drop (k+1))):=by rw [List.drop_eq_getElem_cons hk,List.drop_eq_getElem_cons hk'];rfl
    rw [e]
    by_cases c:(xs[k]==ys[k])=true
    · rw [c]
      simp only [Bool.not_true,Bool.false_eq_true,if_false,ih,Bool.true_and]
    · have c2:(xs[k]==ys[k])=false:=by simpa using c
      rw [c2]
      simp only [Bool.not_false,if_true,Sem.run_pure,Bool.false_and]
theorem ah3 {P:Program} {t:TypeId} {n:Nat} (hu:P.underlying t=some (.struct (P.fieldsOf t))) (hs:P.stoodInHeld t=false) (hg:P.eqGuardType P.depth t=false) (hf:UH P 0 (P.fieldsOf t).toList=true) (hn:(P.fieldsOf t).size=n) (xs ys:List Int) (hx:xs.length=n) (hy:ys.length=n) (w:World):
    (Op.equal t (.agg (xs.map (Value.int .i64)).toArray) (.agg (ys.map (Value.int .i64)).toArray)).run P w= .ok (xs==ys) w∧
    (eqGuard .eql t (.tmp 0) (.tmp 0) (.agg (xs.map (Value.int .i64)).toArray) (.agg (ys.map (Value.int .i64)).toArray)).run P w= .ok () w:=by
  refine⟨?_,run_eqGuard_agg w _ _ _ _ _ _ hg⟩
  show(Op.equalIn (9999+1) t _ _).run P w=_
  rw [run_equalIn_struct w 9999 t _ _ hu hs,UJ w 9998 xs ys (by omega) _ 0 hf (by rw [Array.length_toList];omega)]
  rfl
noncomputable def never (s:Sig):Ct aC s:={pre:=fun _=>false,fn:=fun _=>Classical.choice (tZ _)}
theorem jN {E:Tab} {f:FuncId} {s:Sig} (h:Enters E.P f):cB E f (bY (never s)) where
  enters:=h
  calls:=by
    rintro args hh n K ⟨m,vs,h2,h3,h4,h5,cr,h6,h7,h8⟩
    exfalso
    unfold qX at h6
    split at h6
    · split at h6
      · split at h6
        · split at h6
          · cases h6
            have:=h7 false (List.mem_append_right _ (List.mem_singleton.2 rfl))
            cases this
          · cases h6
        · cases h6
      · cases h6
    · cases h6
abbrev aq2:Sig:={args:=[.c (.rows true .u8)],objs:=[],res:=[.c .bool],dL:=[]}
def entry (W:World):Ctx:={K:=fun _ b=>b<W.heap.size,μ:=fun _=>none,n:=0}
theorem R7 (W:World):bE (entry W) W []:=
  ⟨fun l o h=>(by cases h),fun l o l' o' b h=>(by cases h),fun f b ⟨l,o,h,_⟩=>(by cases h),fun f b h=>h,fun b h=>h⟩
theorem Oz {W W':World} {c':Ctx} {h':Heap} (g:Grow (entry W) W [] c' W' h'):RowKit.Below W.heap.size W W':=
  ⟨g.os,g.tape,g.output,g.size,fun k hk=>g.kept k hk fun⟨l,o,h,_⟩=>by cases h⟩
theorem abZ {c:Ctx} {w:World} {v:Value} {r:PV} {N:NM} {b:Bool} (h1:bD c w v r) (h2:PVR N r (.c (.d true (.bool b)))):v= .bool b:=by
  cases h2 with
  | one h=>
    cases h with
    | c h=>
      cases h with
      | d h3 _=>
        subst h3
        cases h1 with
        | c _ _ h4=>cases h4 with
          | d _ _ _ h5=>cases h5;rfl
    | agg h=>cases h
theorem aq3 {E:Tab} {f:FuncId} {c:Ct aC aq2} (hc:cB E f (bY c)) {xs:List Int} {W:World} {v:Value} (hv:dJ (fun b=>b<W.heap.size) W v (.rows 1 (aL .u8 xs)))
    (hg:qK E (entry W) W) (hp:c.pre (xs,())=true):Go.Calls E.P f #[v] W fun e W'=>e= .returned (.bool (c.fn (xs,())).1)∧RowKit.Below W.heap.size W W':=by
  refine(hc.calls [.c (.d true (.rows 1 (aL .u8 xs)))] [] 0 (fun r _ _=>PVR (nmh []) r (.c (.d true (.bool (c.fn (xs,())).1)))) ?_ (entry W) W [v] rfl (.cons (.c _ _ (.d true _ _ hv)) .nil) (R7 W) hg).mono ?_
  · refine⟨0,[.c (.d true (.rows .u8 xs))],[],.cons (.one (.c (.d rfl fun _=> .inl rfl))) .nil,⟨fun l o h=>(by cases h),fun _ _=>rfl⟩,rfl,_,rfl,?_,_,_,rfl,?_⟩
    · intro b hb
      rcases List.mem_append.1 hb with h | h
      · cases h
      · rw [List.mem_singleton]at h;rw [h];exact hp
    · intro r _ _ h _ _ _;exact h
  · rintro e W' he
    cases e with
    | returned u=>
      obtain⟨c',r,h',j,g,_,_,h1,h2⟩:=he
      exact⟨by rw [abZ h1 h2],Oz g⟩
    | outgrown=>exact he.elim
    | panicked _=>exact he.elim
open Go.RowKit Go.ChangeShapes Go.WideShapes Go.ChangeAt in
theorem ZR {H:Type} {enc:TypeId×Value→H} {P:Program} {t e:TypeId} (ht:P.underlying t=some (.slice e)) (he:P.underlying e=some (.int .u8)) (hc:P.cellsOf e=1) {W:World} {base:Nat} {v:Value} {d:DataW H} {p:List MemPlace}
    (hval:Value.okWide P W .any base t v) (h:DataW.Trod enc P W 0 (fun _=>true) true t v d p) (hlt:∀x∈p,x.block<W.heap.size):
    ∃xs:List Int,dJ (fun b=>b<W.heap.size) W v (.rows 1 (aL .u8 xs))∧∀z∈xs,0≤z∧z≤255:=by
  obtain⟨a0,len,cap,rfl⟩:=okWide_slice ht hval
  obtain⟨fuel,hf⟩:=h
  rcases open_ints ht he hc hf with⟨hcs,hx⟩ | ⟨a,len',cap',zs,hcs,_,hl,hm,hz,hx,hcell,hwz⟩
  · simp [Value.cells]at hcs
    obtain⟨rfl,rfl,rfl⟩:=hcs
    exact⟨[],.none _ _ _,fun _ h=>by cases h⟩
  · simp [Value.cells]at hcs
    obtain⟨rfl,rfl,rfl⟩:=hcs
    simp only [Prod.mk.injEq]at hx
    obtain⟨rfl,rfl⟩:=hx
    simp only [if_true]at hz
    have rng:∀z∈zs,0≤z∧z≤255:=fun z hz=>by
      obtain⟨i,hi,rfl⟩:=List.getElem_of_mem hz
      have:=range_u8 hwz i
      rwa [List.getElem?_eq_getElem hi]at this
    refine⟨zs.take len,?_,fun z h=>rng z (List.mem_of_mem_take h)⟩
    by_cases h0:len=0
    · subst h0;exact .none _ _ _
    · obtain⟨b,off,spot⟩:=a
      have hspot:spot=none:=by simpa [Addr.add]using World.cell?_spot (hcell 0 (by omega))
      subst hspot
      have hbW:b<W.heap.size:=hlt (.cell b off) (MemPlace.mem_row.2 ⟨0,by omega,by simp⟩)
      have hlen:(aL .u8 (zs.take len)).length=len:=by simp only [aL,List.length_map,List.length_take];omega
      have hget:∀i,i<len→(aL .u8 (zs.take len)).getD i []=[.int .u8 (zs.getD i 0)]:=fun i hi=>by
        simp only [aL,List.getD,List.getElem?_map,List.getElem?_take_of_lt hi,List.getElem?_eq_getElem (show i<zs.length by omega)]
        rfl
      refine .rows b off cap 1 len _ (fun i j=> .int .u8 (zs.getD i 0)) hbW hlen.symm hl (fun i j hi hj=> ?_) (fun i hi=> ?_) (fun i j hi hj=> ?_)
      · rw [hlen]at hi
        have:=hcell i (by omega)
        rw [add_plain]at this
        rw [show off+i*1+j=off+i by omega]
        exact this
      · rw [hlen]at hi;rw [hget i hi];rfl
      · rw [hlen]at hi
        have hj0:j=0:=by omega
        subst hj0
        unfold gd;rw [hget i hi];exact .int _ _
end Go.TX
namespace Go.TX.Seat
open Go Go.AE Go.TX Go.TX.F Go.Proofs
set_option maxRecDepth 100000
theorem aq4:∀t n,E.ieq t=some n→∀(xs ys:List Int),xs.length=n→ys.length=n→∀w,
    (Op.equal t (.agg (xs.map (Value.int .i64)).toArray) (.agg (ys.map (Value.int .i64)).toArray)).run E.P w= .ok (xs==ys) w∧
    (eqGuard .eql t (.tmp 0) (.tmp 0) (.agg (xs.map (Value.int .i64)).toArray) (.agg (ys.map (Value.int .i64)).toArray)).run E.P w= .ok () w:=by
  intro t n h
  obtain⟨c,hc,rfl⟩:∃c,ieq t=some c∧c.size=n:=by
    have h':(ieq t).map (fun c=>c.size)=some n:=h
    cases hi:ieq t with
    | none=>rw [hi]at h';cases h'
    | some c=>rw [hi]at h';cases h';exact⟨c,rfl,rfl⟩
  unfold ieq at hc
  split at hc
  all_goals first | (cases hc;exact ah3 (by kernel_rfl) (by kernel_rfl) (by kernel_rfl) (by kernel_rfl) (by kernel_rfl)) | cases hc
theorem hE:aI E:=⟨aqP,aq4⟩
theorem aq5:∀t c,X.ieq t=some c→(c= .ins∧E.ieq t=some 4)∨(c= .iop∧E.ieq t=some 5):=by
  intro t c h
  have h:ieq t=some c:=h
  have e:E.ieq t=(ieq t).map fun c=>c.size:=rfl
  rw [e,h]
  unfold ieq at h
  split at h
  all_goals first | (cases h;first | exact Or.inl ⟨rfl,rfl⟩ | exact Or.inr ⟨rfl,rfl⟩) | cases h
theorem xok:XOK X E:=⟨rfl,fun g c h=>(by cases h),aq5⟩
theorem hm:E.P.follows .mixedOrders=true:=by kernel_rfl
theorem hlN:∀p∈([]:List (FuncId×Sigma (Ct aC))),cB E p.1 (bY p.2.2):=fun _ h=>by cases h
theorem hlC {f:FuncId} {s:Sig} {c:Ct aC s} {l:List (FuncId×Sigma (Ct aC))} (h:cB E f (bY c)) (r:∀p∈l,cB E p.1 (bY p.2.2)):∀p∈(f,⟨s,c⟩)::l,cB E p.1 (bY p.2.2):=fun p hp=>by
  rcases List.mem_cons.1 hp with rfl | hp
  · exact h
  · exact r p hp
@[reducible] def _root_.Go.TX.Fn.c {E : Tab} {f : FuncId} {s : Sig} {F : gT s.inp → (gT s.out → Prop) → Prop} {c : Ct aC s} (_ : Fn E f F c) : Ct aC s := c
theorem mk {lk:aG} {f:FuncId} {fn:Func} (hf:E.P.funcs[f]? =some fn) {l:List (FuncId×Sigma (Ct aC))} (hl:∀p∈l,cB E p.1 (bY p.2.2)) {ord:List (Nat×List fG)} {s:Sig} {an:Ann}
    {F:gT s.inp→(gT s.out→Prop)→Prop} (h:Ru X E (std 0) ord an s fn l F) (hb:fn.body.isSome=true:=by rfl) (hn:(fn.name== "runtime.NumGoroutine")=false:=by kernel_rfl):Fn E f F (cn F):=aqb hE xok hm hf hb (fun _=>enters_of hf hn) hl h
theorem ZT {E:Tab} {f:FuncId} {c:Ct aC {args:=[.c (.int .u64)],objs:=[],res:=[.c (.int .i64)],dL:=[]}} {g:Int→Int} (hent:Enters E.P f) (hg:(fun x:Int=>(c.fn (x,())).1)=g)
    (h:∀(x:Int) (w:World),c.pre (x,())=true→Go.Calls E.P f #[.int .u64 x] w fun e w'=>e= .returned (.int .i64 (g x))∧w'=w):cB E f (bY c) where
  enters:=hent
  calls:=by
    rintro args hh n K ⟨m,qs,hs,hargs,HR,hlen,cr,hcall,abp,v,kT,hvk,hK⟩ c1 w vs hcn qz Hh Gl
    have key:∀f0 (x:Int),qs=[.c (.d f0 (.int .u64 x))]→qX (std m) hs {args:=[.c (.int .u64)],objs:=[],res:=[.c (.int .i64)],dL:=[]} c qs=some {ck:=[c.pre (x,())],ts:=[.i],y:=c.fn (x,()),touched:=[],pure:=true,k:=fun y=>some (.c (.d true (.int .i64 y.1)),hs)}:=by
      intro f0 x e;subst e;rfl
    have hq:∃f0 x,qs=[.c (.d f0 (.int .u64 x))]:=by
      unfold qX at hcall
      cases qs with
      | nil=>simp [nW]at hcall
      | cons q r=>
        cases r with
        | cons q2 r2=>
          exfalso
          simp only [nW]at hcall
          cases hx:H8 (std m) hs (.c (.int .u64)) q (es0 (std m) 0 [])with
          | none=>rw [hx]at hcall;simp at hcall
          | some s=>rw [hx]at hcall;simp [nW]at hcall
        | nil=>
          simp only [nW]at hcall
          cases q with
          | c y=>
            simp only [H8,extC]at hcall
            cases y with
            | d f0 y=>
              cases y with
              | int k x=>
                by_cases hk:IntKind.u64=k
                · subst hk;exact⟨f0,x,rfl⟩
                · simp [hk]at hcall
              | _=>simp at hcall
            | _=>simp at hcall
          | _=>simp [H8]at hcall
    obtain⟨f0,x,rfl⟩:=hq
    rw [key f0 x rfl]at hcall
    simp only [Option.some.injEq]at hcall
    subst hcall
    simp only [Option.some.injEq,Prod.mk.injEq]at hvk
    obtain⟨rfl,rfl⟩:=hvk
    have hpre:=abp _ (List.mem_singleton.2 rfl)
    have hv:vs=[.int .u64 x]:=by
      cases hargs with
      | cons h1 h2=>
        cases h2
        cases qz with
        | cons h3 h4=>
          cases h4
          cases h1 with
          | one h1=>
            cases h1 with
            | c h1=>
              cases h1 with
              | d h5 _=>
                subst h5
                cases h3 with
                | c _ _ h6=>cases h6 with
                  | d _ _ _ h7=>cases h7;rfl
            | agg h1=>cases h1
    subst hv
    refine(h x w hpre).mono ?_
    rintro e w' ⟨rfl,rfl⟩
    refine⟨c1,.c (.d true (.int .i64 (g x))),hh,0,.refl _ _ _,Hh,hcn,.c _ _ (.d _ _ _ (.int _ _)),hK _ _ _ ?_ HR (.refl _ _ _) hlen⟩
    rw [←hg]
    exact .one (.c (.d rfl fun _=> .inl rfl))
end Go.TX.Seat
namespace Go.TX.F
open Go Go.AE Go.TX Go.TX.Seat Go.Proofs
set_option maxRecDepth 100000
def Kv:=mk Tryz.func59 hlN (afL (std 0))
noncomputable def GA:=Kv.c
def ah4:=fun b hb hl=>(Kv.cs (Zu b hb hl)).1
def ah5:=fun b hb hl=>(Kv.cs (Zu b hb hl)).2
def nJ:=mk Tryz.func61 hlN (afM (std 0))
noncomputable def bH:=nJ.c
def uU:=fun n b p hb h1 h2=>(nJ.cs (Zv n b p hb h1 h2)).1
def uV:=fun n b p hb h1 h2=>(nJ.cs (Zv n b p hb h1 h2)).2
def pU:=mk Tryz.func89 hlN (afN (std 0))
noncomputable def bS:=pU.c
def uW:=fun a b c=>(pU.cs (Zl a b c)).1
def uX:=fun a b c=>(pU.cs (Zl a b c)).2
def R8:=mk Tryz.func158 (hlC nJ.ok hlN) (afO (std 0) bH)
noncomputable def Gg:=R8.c
def qE:=fun n b p hb h1 h2=>R8.cs (ahk uU uV n b p hb h1 h2)
def ah6:=fun n b p hb h1 h2=>(qE n b p hb h1 h2).1
def ah7:=fun n b p hb h1 h2=>(qE n b p hb h1 h2).2
def Kw:=mk Tryz.func170 hlN (afP (std 0))
noncomputable def FN:=Kw.c
def ah8:=fun a=>(Kw.cs (Zo a)).1
def ah9:=fun a=>(Kw.cs (Zo a)).2
def Az:=mk Tryz.func156 hlN (afQ (std 0))
noncomputable def jc:=Az.c
def R9:=fun a=>(Az.cs (Zm a)).1
def Sb:=fun a=>(Az.cs (Zm a)).2
def Sc:=mk Tryz.func192 (hlC pU.ok hlN) (afR (std 0) bS)
noncomputable def FJ:=Sc.c
def uY:=fun k=>Sc.cs (ahr uW uX k)
def aia:=fun k=>(uY k).1
def aib:=fun k=>(uY k).2
def Ky:=mk Tryz.func157 (hlC Sc.ok hlN) (afS (std 0) FJ)
noncomputable def o8:=Ky.c
def zC:=fun ops x n h1=>Ky.cs (ahs aia aib ops x n h1)
def ZU:=fun ops x n h1=>(zC ops x n h1).1
def ZV:=fun ops x n h1=>(zC ops x n h1).2
def Sd:=mk Tryz.func90 (hlC Az.ok (hlC pU.ok (hlC Ky.ok hlN))) (afT (std 0) jc bS o8)
noncomputable def FL:=Sd.c
def BI:=fun ops i len h0 h1 h3=>Sd.cs (aht R9 Sb uW uX ZU ZV ops i len h0 h1 h3)
def aic:=fun ops i len h0 h1 h3=>(BI ops i len h0 h1 h3).1
def aie:=fun ops i len h0 h1 h3=>(BI ops i len h0 h1 h3).2
def Sg:=mk Tryz.func91 (hlC Az.ok (hlC Ky.ok hlN)) (afU (std 0) jc o8)
noncomputable def FK:=Sg.c
def zD:=fun b=>Sg.cs (ahu R9 Sb ZU ZV b)
def aif:=fun b=>(zD b).1
def aii:=fun b=>(zD b).2
def uZ:=mk Tryz.func30 (hlC pU.ok (hlC Sg.ok (hlC Sd.ok hlN))) (afV (std 0) bS FK FL)
noncomputable def dx:=uZ.c
def BJ:=fun b h2=>uZ.cs (ahv uW uX aif aii aic aie b h2)
def AA:=fun b h2=>(BJ b h2).1
def AB:=fun b h2=>(BJ b h2).2
def Si:=mk Tryz.func115 (hlC Kw.ok (hlC Az.ok hlN)) (afW (std 0) FN jc)
noncomputable def FQ:=Si.c
def zF:=fun op a b=>Si.cs (ahi R9 Sb ah8 ah9 op a b)
def aij:=fun op a b=>(zF op a b).1
def aik:=fun op a b=>(zF op a b).2
def AJ:=mk Tryz.func113 hlN (afX (std 0))
noncomputable def jd:=AJ.c
def Sj:=fun b hb=>(AJ.cs (ZK b hb)).1
def Sk:=fun b hb=>(AJ.cs (ZK b hb)).2
def G9:=mk Tryz.func125 (hlC pU.ok hlN) (afY (std 0) bS)
noncomputable def o9:=G9.c
def ZW:=fun o al hk hx hy=>(G9.cs (ZN uW uX o al hk hx hy)).1
def ZX:=fun o al hk hx hy=>(G9.cs (ZN uW uX o al hk hx hy)).2
def Hg:=mk Tryz.func54 (hlC uZ.ok (hlC G9.ok (hlC AJ.ok hlN))) (afZ (std 0) dx o9 jd)
noncomputable def je:=Hg.c
def u7:=fun b hb=>Hg.cs (ahV AA AB ZW ZX Sj Sk b hb)
def Sl:=fun b hb=>(u7 b hb).1
def Sn:=fun b hb=>(u7 b hb).2
def Hl:=mk Tryz.func114 hlN (af0 (std 0))
noncomputable def pq:=Hl.c
def ZY:=fun ops k=>(Hl.cs (ZL ops k)).1
def Z0:=fun ops k=>(Hl.cs (ZL ops k)).2
def Kz:=mk Tryz.func171 hlN (af2 (std 0))
noncomputable def FP:=Kz.c
def ail:=fun b k=>(Kz.cs (ZM b k)).1
def ain:=fun b k=>(Kz.cs (ZM b k)).2
def Sq:=mk Tryz.func116 (hlC Kz.ok (hlC Hl.ok hlN)) (af3 (std 0) FP pq)
noncomputable def FR:=Sq.c
def vg:=fun b h=>Sq.cs (ahM ail ain ZY Z0 b h)
def aio:=fun b h=>(vg b h).1
def aip:=fun b h=>(vg b h).2
end Go.TX.F
namespace Go.TX.F
open Go Go.AE Go.TX Go.TX.Seat Go.Proofs
set_option maxRecDepth 100000
def Sr:=mk Tryz.func42 (hlC uZ.ok (hlC Si.ok (hlC Sq.ok (hlC Hl.ok (hlC AJ.ok hlN))))) (af4 (std 0) dx FQ FR pq jd)
noncomputable def FU:=Sr.c
def rZ:=fun b hb=>Sr.cs (ahP AA AB aij aik aio aip ZY Z0 Sj Sk b hb)
def aiq:=fun b hb=>(rZ b hb).1
def air:=fun b hb=>(rZ b hb).2
def KA:=mk Tryz.func118 hlN (af5 (std 0))
noncomputable def FT:=KA.c
def ais:=fun ops k h0 h1 h2=>(KA.cs (ZO ops k h0 h1 h2)).1
def ait:=fun ops k h0 h1 h2=>(KA.cs (ZO ops k h0 h1 h2)).2
def KC:=mk Tryz.func119 (hlC G9.ok hlN) (af6 (std 0) o9)
noncomputable def pz:=KC.c
def vk:=fun b kp ok hk=>KC.cs (ahR ZW ZX b kp ok hk)
def Z4:=fun b kp ok hk=>(vk b kp ok hk).1
def Z5:=fun b kp ok hk=>(vk b kp ok hk).2
def Sv:=mk Tryz.func45 (hlC uZ.ok (hlC KC.ok (hlC KA.ok hlN))) (af7 (std 0) dx pz FT)
noncomputable def FV:=Sv.c
def vo:=fun b hb=>Sv.cs (ahT AA AB Z4 Z5 ais ait b hb)
def aiu:=fun b hb=>(vo b hb).1
def aiv:=fun b hb=>(vo b hb).2
def KD:=mk Tryz.func50 (hlC uZ.ok (hlC pU.ok hlN)) (af8 (std 0) dx bS)
noncomputable def pE:=KD.c
def vw:=fun b hb=>KD.cs (ahQ AA AB uW uX b hb)
def Z6:=fun b hb=>(vw b hb).1
def Z7:=fun b hb=>(vw b hb).2
def KE:=mk Tryz.func49 (hlC uZ.ok (hlC KD.ok (hlC KC.ok hlN))) (af9 (std 0) dx pE pz)
noncomputable def pF:=KE.c
def vB:=fun b hb=>KE.cs (ahS AA AB Z6 Z7 Z4 Z5 b hb)
def Z8:=fun b hb=>(vB b hb).1
def Z9:=fun b hb=>(vB b hb).2
def Sw:=mk Tryz.func57 (hlC Sr.ok (hlC Hg.ok (hlC KE.ok (hlC Sv.ok hlN)))) (aga (std 0) FU je pF FV)
noncomputable def F8:=Sw.c
def xD:=fun b hb=>Sw.cs (ahN aiq air Sl Sn Z8 Z9 aiu aiv b hb)
def aiw:=fun b hb=>(xD b hb).1
def aix:=fun b hb=>(xD b hb).2
def Sy:=mk Tryz.func204 (hlC nJ.ok hlN) (agb (std 0) bH)
noncomputable def FX:=Sy.c
def xE:=fun b p hb h1 h2=>Sy.cs (ahJ uU uV b p hb h1 h2)
def aiy:=fun b p hb h1 h2=>(xE b p hb h1 h2).1
def aiz:=fun b p hb h1 h2=>(xE b p hb h1 h2).2
def Sz:=mk Tryz.func222 hlN (agc (std 0))
noncomputable def FW:=Sz.c
def aiA:=fun i=>(Sz.cs (ahy i)).1
def KF:=mk Tryz.func206 (hlC pU.ok (hlC Sz.ok hlN)) (agd (std 0) bS FW)
noncomputable def pI:=KF.c
def KG:=fun i=>KF.cs (ahz uW uX aiA i)
def aac:=fun i=>(KG i).1
def KH:=mk Tryz.func207 hlN (agf (std 0))
noncomputable def pG:=KH.c
def aad:=fun i=>(KH.cs (ahA i)).1
def KJ:=mk Tryz.func205 (hlC KH.ok (hlC KF.ok hlN)) (agh (std 0) pG pI)
noncomputable def pJ:=KJ.c
def Ho:=fun i=>KJ.cs (ahB aad aac i)
def aae:=fun i=>(Ho i).1
def SA:=mk Tryz.func182 (hlC Sy.ok (hlC nJ.ok (hlC KJ.ok hlN))) (agi (std 0) FX bH pJ)
noncomputable def FY:=SA.c
def vC:=fun b p hb h1 h2=>SA.cs (ahK aiy aiz uU uV aae b p hb h1 h2)
def aiB:=fun b p hb h1 h2=>(vC b p hb h1 h2).1
def aiC:=fun b p hb h1 h2=>(vC b p hb h1 h2).2
def SB:=mk Tryz.func139 (hlC SA.ok (hlC nJ.ok hlN)) (agj (std 0) FY bH)
noncomputable def F9:=SB.c
def vD:=fun b p hb h1 h2=>SB.cs (ahL aiB aiC uU uV b p hb h1 h2)
def aiD:=fun b p hb h1 h2=>(vD b p hb h1 h2).1
def aiE:=fun b p hb h1 h2=>(vD b p hb h1 h2).2
def SE:=mk Tryz.func183 (hlC KH.ok (hlC KF.ok (hlC pU.ok (hlC KJ.ok hlN)))) (agk (std 0) pG pI bS pJ)
noncomputable def F5:=SE.c
def KL:=fun pc l hl=>SE.cs (ahC aad aac uW uX aae pc l hl)
def aiF:=fun pc l hl=>(KL pc l hl).1
def vE:=mk Tryz.func208 hlN (agl (std 0))
noncomputable def eX:=vE.c
def yF:=fun a1 a2 a3 a4 a5 a6 o ops hl=>(vE.cs (ZG a1 a2 a3 a4 a5 a6 o ops hl)).1
def yG:=fun a1 a2 a3 a4 a5 a6 o ops hl=>(vE.cs (ZG a1 a2 a3 a4 a5 a6 o ops hl)).2
def Hq:=mk Tryz.func209 (hlC vE.ok hlN) (agm (std 0) eX)
noncomputable def pO:=Hq.c
def aaf:=fun a1 a2 a3 a4 a5 a6 k x ops hl=>(Hq.cs (ZI yF yG a1 a2 a3 a4 a5 a6 k x ops hl)).1
def aag:=fun a1 a2 a3 a4 a5 a6 k x ops hl=>(Hq.cs (ZI yF yG a1 a2 a3 a4 a5 a6 k x ops hl)).2
def yH:=mk Tryz.func210 (hlC vE.ok hlN) (agn (std 0) eX)
noncomputable def gJ:=yH.c
def Hr:=fun a1 a2 a3 a4 a5 a6 k ops hl=>(yH.cs (ZH yF yG a1 a2 a3 a4 a5 a6 k ops hl)).1
def Ht:=fun a1 a2 a3 a4 a5 a6 k ops hl=>(yH.cs (ZH yF yG a1 a2 a3 a4 a5 a6 k ops hl)).2
def KM:=mk Tryz.func211 (hlC yH.ok (hlC vE.ok hlN)) (agp (std 0) gJ eX)
noncomputable def pK:=KM.c
def r9:=fun a1 a2 a3 a4 a5 a6 k a o ops hl=>KM.cs (ahD Hr Ht yF yG a1 a2 a3 a4 a5 a6 k a o ops hl)
def aah:=fun a1 a2 a3 a4 a5 a6 k a o ops hl=>(r9 a1 a2 a3 a4 a5 a6 k a o ops hl).1
def aai:=fun a1 a2 a3 a4 a5 a6 k a o ops hl=>(r9 a1 a2 a3 a4 a5 a6 k a o ops hl).2
def SF:=mk Tryz.func212 hlN (agq (std 0))
noncomputable def F4:=SF.c
def aiG:=fun k hk=>(SF.cs (ahF k hk)).1
def SG:=mk Tryz.func213 (hlC yH.ok (hlC vE.ok (hlC KM.ok (hlC Hq.ok hlN)))) (agr (std 0) gJ eX pK pO)
noncomputable def F3:=SG.c
def vF:=fun a1 a2 a3 a4 a5 a6 i k ops hl=>SG.cs (ahE Hr Ht yF yG aah aai aaf aag a1 a2 a3 a4 a5 a6 i k ops hl)
def aiH:=fun a1 a2 a3 a4 a5 a6 i k ops hl=>(vF a1 a2 a3 a4 a5 a6 i k ops hl).1
def aiI:=fun a1 a2 a3 a4 a5 a6 i k ops hl=>(vF a1 a2 a3 a4 a5 a6 i k ops hl).2
def KN:=mk Tryz.func214 (hlC yH.ok hlN) (ags (std 0) gJ)
noncomputable def FZ:=KN.c
def aiJ:=fun a1 a2 a3 a4 a5 a6 i ops hl=>(KN.cs (ZJ Hr Ht a1 a2 a3 a4 a5 a6 i ops hl)).1
def aiK:=fun a1 a2 a3 a4 a5 a6 i ops hl=>(KN.cs (ZJ Hr Ht a1 a2 a3 a4 a5 a6 i ops hl)).2
def SH:=mk Tryz.func184 (hlC yH.ok (hlC KN.ok (hlC vE.ok (hlC SG.ok (hlC KM.ok (hlC Hq.ok (hlC SF.ok hlN))))))) (agt (std 0) gJ FZ eX F3 pK pO F4)
noncomputable def F6:=SH.c
def zG:=fun a1 a2 a3 a4 a5 a6 i k ops hk hl=>SH.cs (ahG Hr Ht aiJ aiK yF yG aiH aiI aah aai aaf aag aiG a1 a2 a3 a4 a5 a6 i k ops hk hl)
def aiL:=fun a1 a2 a3 a4 a5 a6 i k ops hk hl=>(zG a1 a2 a3 a4 a5 a6 i k ops hk hl).1
def aiM:=fun a1 a2 a3 a4 a5 a6 i k ops hk hl=>(zG a1 a2 a3 a4 a5 a6 i k ops hk hl).2
def SK:=mk Tryz.func140 (hlC SE.ok (hlC SH.ok hlN)) (agu (std 0) F5 F6)
noncomputable def F7:=SK.c
def su:=fun pc l hl hk=>SK.cs (ahH aiF aiL aiM pc l hl hk)
def aiN:=fun pc l hl hk=>(su pc l hl hk).1
def aiO:=fun pc l hl hk=>(su pc l hl hk).2
def SL:=mk Tryz.func66 (hlC SK.ok (hlC Sw.ok (hlC Hg.ok (hlC nJ.ok (hlC SB.ok hlN))))) (agv (std 0) F7 F8 je bH F9)
noncomputable def Gi:=SL.c
def sw:=fun b p hb h1 h2=>SL.cs (ahW aiN aiO aiw aix Sl Sn uU uV aiD aiE b p hb h1 h2)
def aiP:=fun b p hb h1 h2=>(sw b p hb h1 h2).1
def aiQ:=fun b p hb h1 h2=>(sw b p hb h1 h2).2
def aaj:=mk Tryz.func148 hlN (aqQ (std 0))
noncomputable def H9:=aaj.c
def aol:=fun a=>(aaj.cs (anf a)).1
def aom:=fun a=>(aaj.cs (anf a)).2
def aak:=mk Tryz.func80 (hlC aaj.ok hlN) (aqR (std 0) H9)
noncomputable def yB:=aak.c
def oC:=fun a b=>aak.cs (aqW aol aom a b)
def aiR:=fun a b=>(oC a b).1
def aiS:=fun a b=>(oC a b).2
def aal:=mk Tryz.func81 hlN (aqS (std 0))
noncomputable def Ia:=aal.c
def aon:=fun a b=>(aal.cs (ang a b)).1
def aoo:=fun a b=>(aal.cs (ang a b)).2
def aam:=mk Tryz.func149 (hlC aak.ok hlN) (al5 (std 0) yB)
noncomputable def Np:=aam.c
def iR:=fun a b ha=>aam.cs (anh aiR aiS a b ha)
def aop:=fun a b ha=>(iR a b ha).1
def aoq:=fun a b ha=>(iR a b ha).2
def Jf:=mk Tryz.func82 (hlC aal.ok (hlC aak.ok (hlC aam.ok hlN))) (al6 (std 0) Ia yB Np)
noncomputable def jq:=Jf.c
def oD:=fun a b ha=>Jf.cs (ani aiR aiS aop aoq aon aoo a b ha)
def UK:=fun a b ha=>(oD a b ha).1
def UL:=fun a b ha=>(oD a b ha).2
def kU:=mk Tryz.func121 hlN (al7 (std 0))
noncomputable def aV:=kU.c
def kV:=fun a b c=>(kU.cs (acB a b c)).1
def kW:=fun a b c=>(kU.cs (acB a b c)).2
def aan:=mk Tryz.func185 (hlC aaj.ok hlN) (aqT (std 0) H9)
noncomputable def yC:=aan.c
def vG:=fun a b=>aan.cs (aqX aol aom a b)
def aor:=fun a b=>(vG a b).1
def aos:=fun a b=>(vG a b).2
def SN:=mk Tryz.func141 (hlC aan.ok hlN) (agw (std 0) yC)
noncomputable def Gd:=SN.c
def iO:=fun a ha=>SN.cs (ag6 aor aos a ha)
def aiT:=fun a ha=>(iO a ha).1
def aiU:=fun a ha=>(iO a ha).2
def UM:=mk Tryz.func187 hlN (al8 (std 0))
noncomputable def Nq:=UM.c
def aot:=fun a n=>(UM.cs (acF a n)).1
def aou:=fun a n=>(UM.cs (acF a n)).2
def SQ:=mk Tryz.func215 (hlC UM.ok hlN) (agx (std 0) Nq)
noncomputable def Ga:=SQ.c
def iG:=fun a n ha=>SQ.cs (ag7 aot aou a n ha)
def aiV:=fun a n ha=>(iG a n ha).1
def aiW:=fun a n ha=>(iG a n ha).2
def SX:=mk Tryz.func186 (hlC SQ.ok hlN) (agy (std 0) Ga)
noncomputable def Gb:=SX.c
def gM:=fun a n ha=>SX.cs (ag8 aiV aiW a n ha)
def aiX:=fun a n ha=>(gM a n ha).1
def aiY:=fun a n ha=>(gM a n ha).2
def UN:=mk Tryz.func142 (hlC SX.ok hlN) (al9 (std 0) Gb)
noncomputable def wQ:=UN.c
def sD:=fun a n ha=>UN.cs (anj aiX aiY a n ha)
def acQ:=fun a n ha=>(sD a n ha).1
def acR:=fun a n ha=>(sD a n ha).2
def UO:=mk Tryz.func144 hlN (ama (std 0))
noncomputable def Nr:=UO.c
def aov:=fun m=>(UO.cs (acG m)).1
def aow:=fun m=>(UO.cs (acG m)).2
def SY:=mk Tryz.func188 (hlC UO.ok hlN) (agz (std 0) Nr)
noncomputable def Gc:=SY.c
def dh:=fun a ha=>SY.cs (ag9 (G:=(fun m:ak=>0<m.atoms.length∧m.atoms.getD 0 default<0)) aov aow a ha)
def aiZ:=fun a ha=>(dh a ha).1
def ai0:=fun a ha=>(dh a ha).2
def S9:=mk Tryz.func143 (hlC SY.ok hlN) (agA (std 0) Gc)
noncomputable def Gf:=S9.c
def cu:=fun a ha=>S9.cs (aha (G:=(fun m:ak=>0<m.atoms.length∧m.atoms.getD 0 default<0)) aiZ ai0 a ha)
def ai1:=fun a ha=>(cu a ha).1
def ai2:=fun a ha=>(cu a ha).2
def zH:=mk Tryz.func67 (hlC kU.ok (hlC UN.ok (hlC SN.ok (hlC Jf.ok (hlC S9.ok hlN))))) (amb (std 0) aV wQ Gd jq Gf)
noncomputable def dZ:=zH.c
def zI:=fun a ha=>zH.cs (ank kV kW acQ acR aiT aiU UK UL ai1 ai2 a ha)
def Hu:=fun a ha=>(zI a ha).1
def Hw:=fun a ha=>(zI a ha).2
end Go.TX.F
namespace Go.TX.F
open Go Go.AE Go.TX Go.TX.Seat Go.Proofs
set_option maxRecDepth 100000
def UQ:=mk Tryz.func22 (hlC zH.ok hlN) (amc (std 0) dZ)
noncomputable def wS:=UQ.c
def xG:=fun a ha=>UQ.cs (anr Hu Hw a ha)
def acS:=fun a ha=>(xG a ha).1
def acT:=fun a ha=>(xG a ha).2
def OA:=mk Tryz.func24 (hlC aal.ok (hlC aak.ok (hlC Jf.ok hlN))) (amd (std 0) Ia yB jq)
noncomputable def mZ:=OA.c
def sF:=fun a b ha=>OA.cs (anl aon aoo aiR aiS UK UL a b ha)
def aao:=fun a b ha=>(sF a b ha).1
def aap:=fun a b ha=>(sF a b ha).2
def OB:=mk Tryz.func189 hlN (ame (std 0))
noncomputable def wR:=OB.c
def acU:=fun a ha=>(OB.cs (acI a ha)).1
def acV:=fun a ha=>(OB.cs (acI a ha)).2
def OC:=mk Tryz.func146 (hlC OB.ok hlN) (amf (std 0) wR)
noncomputable def mY:=OC.c
def kX:=fun a ha=>OC.cs (ant acU acV a ha)
def aaq:=fun a ha=>(kX a ha).1
def aar:=fun a ha=>(kX a ha).2
def aas:=mk Tryz.func145 (hlC OC.ok hlN) (amg (std 0) mY)
noncomputable def Ns:=aas.c
def oF:=fun a ha=>aas.cs (anZ aaq aar a ha)
def aox:=fun a ha=>(oF a ha).1
def aoy:=fun a ha=>(oF a ha).2
def aat:=mk Tryz.func68 (hlC OC.ok (hlC aas.ok hlN)) (amh (std 0) mY Ns)
noncomputable def Nt:=aat.c
def lM:=fun s hs=>aat.cs (an0 aaq aar aox aoy s hs)
def aoz:=fun s hs=>(lM s hs).1
def aoA:=fun s hs=>(lM s hs).2
def BK:=mk Tryz.func69 (hlC OA.ok hlN) (ami (std 0) mZ)
noncomputable def fP:=BK.c
def lN:=fun a b ha=>BK.cs (anm aao aap a b ha)
def Jg:=fun a b ha=>(lN a b ha).1
def Jh:=fun a b ha=>(lN a b ha).2
def zJ:=mk Tryz.func78 (hlC kU.ok hlN) (amj (std 0) aV)
noncomputable def fO:=zJ.c
def Ji:=fun a=>(zJ.cs (acC kV kW a)).1
def Jj:=fun a=>(zJ.cs (acC kV kW a)).2
def aau:=mk Tryz.func70 (hlC zJ.ok hlN) (amk (std 0) fO)
noncomputable def Nu:=aau.c
def xH:=fun r a b=>aau.cs (anY Ji Jj r a b)
def aoB:=fun r a b=>(xH r a b).1
def aoC:=fun r a b=>(xH r a b).2
def aav:=mk Tryz.func16 (hlC UQ.ok (hlC zH.ok (hlC OA.ok (hlC aat.ok (hlC BK.ok (hlC aau.ok hlN)))))) (aml (std 0) wS dZ mZ Nt fP Nu)
noncomputable def NQ:=aav.c
def xI:=fun s n hs h0 h1=>aav.cs (an5 acS acT Hu Hw aao aap aoz aoA Jg Jh aoB aoC s n hs h0 h1)
def aoD:=fun s n hs h0 h1=>(xI s n hs h0 h1).1
def aoE:=fun s n hs h0 h1=>(xI s n hs h0 h1).2
def aaw:=mk Tryz.func20 (hlC zJ.ok hlN) (amm (std 0) fO)
noncomputable def Od:=aaw.c
def BL:=aaw.cs (anN Ji Jj)
def aoF:=(BL).1
def aoG:=(BL).2
def Ta:=mk Tryz.func151 (hlC nJ.ok (hlC AJ.ok hlN)) (agB (std 0) bH jd)
noncomputable def Gh:=Ta.c
def vH:=fun c b p hc hb h1 h2=>Ta.cs (ahX uU uV Sj Sk c b p hc hb h1 h2)
def ai3:=fun c b p hc hb h1 h2=>(vH c b p hc hb h1 h2).1
def ai4:=fun c b p hc hb h1 h2=>(vH c b p hc hb h1 h2).2
def Tc:=mk Tryz.func98 (hlC R8.ok (hlC nJ.ok (hlC Ta.ok (hlC SL.ok hlN)))) (agC (std 0) Gg bH Gh Gi)
noncomputable def GD:=Tc.c
def oG:=fun n b p hb h1 h2=>Tc.cs (ahY ah6 ah7 uU uV ai3 ai4 aiP aiQ n b p hb h1 h2)
def ai5:=fun n b p hb h1 h2=>(oG n b p hb h1 h2).1
def ai6:=fun n b p hb h1 h2=>(oG n b p hb h1 h2).2
def OD:=mk Tryz.func164 (hlC kU.ok hlN) (amn (std 0) aV)
noncomputable def wT:=OD.c
def acW:=fun a=>(OD.cs (acD kV kW a)).1
def acX:=fun a=>(OD.cs (acD kV kW a)).2
def OE:=mk Tryz.func165 (hlC kU.ok hlN) (amo (std 0) aV)
noncomputable def wU:=OE.c
def acY:=fun a=>(OE.cs (acE kV kW a)).1
def acZ:=fun a=>(OE.cs (acE kV kW a)).2
def UR:=mk Tryz.func108 (hlC kU.ok (hlC OD.ok (hlC UN.ok (hlC zH.ok (hlC OE.ok hlN))))) (amq (std 0) aV wT wQ dZ wU)
noncomputable def wV:=UR.c
def jO:=fun a n ha=>UR.cs (anB kV kW acW acX acQ acR Hu Hw acY acZ a n ha)
def ac0:=fun a n ha=>(jO a n ha).1
def ac1:=fun a n ha=>(jO a n ha).2
def aax:=mk Tryz.func168 (hlC BK.ok hlN) (amr (std 0) fP)
noncomputable def Nv:=aax.c
def lQ:=fun a b ha=>aax.cs (anx Jg Jh a b ha)
def aoH:=fun a b ha=>(lQ a b ha).1
def aoI:=fun a b ha=>(lQ a b ha).2
def aay:=mk Tryz.func167 (hlC aax.ok hlN) (ams (std 0) Nv)
noncomputable def Nw:=aay.c
def kY:=fun a b hb=>aay.cs (anz aoH aoI a b hb)
def aoJ:=fun a b hb=>(kY a b hb).1
def aoK:=fun a b hb=>(kY a b hb).2
def Td:=mk Tryz.func166 (hlC aay.ok hlN) (agD (std 0) Nw)
noncomputable def Gj:=Td.c
def dw:=fun a b ha hb=>Td.cs (ahb aoJ aoK a b ha hb)
def ai7:=fun a b ha hb=>(dw a b ha hb).1
def ai8:=fun a b ha hb=>(dw a b ha hb).2
def UU:=mk Tryz.func109 (hlC Td.ok hlN) (amt (std 0) Gj)
noncomputable def wW:=UU.c
def nK:=fun a b ha hb=>UU.cs (anA ai7 ai8 a b ha hb)
def ac2:=fun a b ha hb=>(nK a b ha hb).1
def ac3:=fun a b ha hb=>(nK a b ha hb).2
def aaz:=mk Tryz.func38 (hlC UR.ok (hlC UU.ok hlN)) (amu (std 0) wV wW)
noncomputable def NR:=aaz.c
def zK:=fun a ha=>aaz.cs (anC ac0 ac1 ac2 ac3 a ha)
def aoL:=fun a ha=>(zK a ha).1
def aoM:=fun a ha=>(zK a ha).2
def Jk:=mk Tryz.func100 (hlC kU.ok hlN) (amv (std 0) aV)
noncomputable def jr:=Jk.c
def sG:=fun o=>Jk.cs (anR kV kW o)
def UW:=fun o=>(sG o).1
def UY:=fun o=>(sG o).2
def aaA:=mk Tryz.func199 (hlC kU.ok hlN) (amw (std 0) aV)
noncomputable def Ny:=aaA.c
def kZ:=fun o=>aaA.cs (anS kV kW o)
def aoN:=fun o=>(kZ o).1
def aoO:=fun o=>(kZ o).2
def UZ:=mk Tryz.func172 (hlC aaA.ok (hlC kU.ok hlN)) (amx (std 0) Ny aV)
noncomputable def wX:=UZ.c
def lg:=fun b x n h0 h1 h2=>UZ.cs (anU aoN aoO kV kW b x n h0 h1 h2)
def ac4:=fun b x n h0 h1 h2=>(lg b x n h0 h1 h2).1
def ac5:=fun b x n h0 h1 h2=>(lg b x n h0 h1 h2).2
def aaB:=mk Tryz.func122 (hlC UZ.ok (hlC Jk.ok (hlC zJ.ok (hlC kU.ok (hlC OD.ok (hlC OE.ok hlN)))))) (amy (std 0) wX jr fO aV wT wU)
noncomputable def NA:=aaB.c
def lS:=fun b i h0 h1 h2 h3=>aaB.cs (anV ac4 ac5 UW UY Ji Jj kV kW acW acX acY acZ b i h0 h1 h2 h3)
def aoP:=fun b i h0 h1 h2 h3=>(lS b i h0 h1 h2 h3).1
def aoQ:=fun b i h0 h1 h2 h3=>(lS b i h0 h1 h2 h3).2
def Hy:=mk Tryz.func106 hlN (amA (std 0))
noncomputable def jv:=Hy.c
def U0:=fun b=>(Hy.cs (acN b)).1
def U1:=fun b=>(Hy.cs (acN b)).2
def aaC:=mk Tryz.func123 (hlC Hy.ok (hlC UZ.ok (hlC zJ.ok (hlC kU.ok hlN)))) (amB (std 0) jv wX fO aV)
noncomputable def Nz:=aaC.c
def lu:=fun b h2=>aaC.cs (anW U0 U1 ac4 ac5 Ji Jj kV kW b h2)
def aoR:=fun b h2=>(lu b h2).1
def aoS:=fun b h2=>(lu b h2).2
def Hz:=mk Tryz.func51 (hlC aaC.ok (hlC aaB.ok (hlC kU.ok hlN))) (amC (std 0) Nz NA aV)
noncomputable def gY:=Hz.c
def BM:=fun b h2=>Hz.cs (anX aoR aoS aoP aoQ kV kW b h2)
def OG:=fun b h2=>(BM b h2).1
def OH:=fun b h2=>(BM b h2).2
def aaD:=mk Tryz.func198 hlN (amD (std 0))
noncomputable def NC:=aaD.c
def dR:=fun a=>aaD.cs (anw a)
def aoT:=fun a=>(dR a).1
def aoU:=fun a=>(dR a).2
def U2:=mk Tryz.func162 (hlC UR.ok (hlC UU.ok (hlC aaD.ok hlN))) (amE (std 0) wV wW NC)
noncomputable def wZ:=U2.c
def oH:=fun t a ht ha=>U2.cs (anD ac0 ac1 ac2 ac3 aoT aoU t a ht ha)
def ac6:=fun t a ht ha=>(oH t a ht ha).1
def ac7:=fun t a ht ha=>(oH t a ht ha).2
def U3:=mk Tryz.func163 (hlC kU.ok hlN) (amF (std 0) aV)
noncomputable def wY:=U3.c
def vI:=fun a=>U3.cs (anq kV kW a)
def ac8:=fun a=>(vI a).1
def ac9:=fun a=>(vI a).2
def U4:=mk Tryz.func105 (hlC U3.ok (hlC U2.ok hlN)) (amG (std 0) wY wZ)
noncomputable def w9:=U4.c
def qF:=fun kd k t fl ht=>U4.cs (an1 ac8 ac9 ac6 ac7 kd k t fl ht)
def ada:=fun kd k t fl ht=>(qF kd k t fl ht).1
def adb:=fun kd k t fl ht=>(qF kd k t fl ht).2
end Go.TX.F
namespace Go.TX.F
open Go Go.AE Go.TX Go.TX.Seat Go.Proofs
set_option maxRecDepth 100000
def U5:=mk Tryz.func99 (hlC U4.ok hlN) (amH (std 0) w9)
noncomputable def xu:=U5.c
def oI:=fun t fl ht hl=>U5.cs (an2 ada adb t fl ht hl)
def ade:=fun t fl ht hl=>(oI t fl ht hl).1
def adf:=fun t fl ht hl=>(oI t fl ht hl).2
def aaE:=mk Tryz.func101 (hlC kU.ok hlN) (amI (std 0) aV)
noncomputable def NP:=aaE.c
def oJ:=fun o=>aaE.cs (anT kV kW o)
def aoV:=fun o=>(oJ o).1
def aoW:=fun o=>(oJ o).2
def aaF:=mk Tryz.func102 hlN (amJ (std 0))
noncomputable def NT:=aaF.c
def dO:=fun a h0 h1=>aaF.cs (an3 a h0 h1)
def aoX:=fun a h0 h1=>(dO a h0 h1).1
def aoY:=fun a h0 h1=>(dO a h0 h1).2
def OI:=mk Tryz.func103 (hlC kU.ok hlN) (amK (std 0) aV)
noncomputable def nA:=OI.c
def sH:=fun a=>OI.cs (anp kV kW a)
def aaG:=fun a=>(sH a).1
def aaH:=fun a=>(sH a).2
def Jl:=mk Tryz.func169 hlN (amL (std 0))
noncomputable def nu:=Jl.c
def aaI:=fun a=>(Jl.cs (acH a)).1
def aaJ:=fun a=>(Jl.cs (acH a)).2
def aaK:=mk Tryz.func112 (hlC zJ.ok (hlC Jl.ok hlN)) (amM (std 0) fO nu)
noncomputable def NH:=aaK.c
def zL:=fun op a b=>aaK.cs (ano Ji Jj aaI aaJ op a b)
def aoZ:=fun op a b=>(zL op a b).1
def ao0:=fun op a b=>(zL op a b).2
def U6:=mk Tryz.func224 (hlC Jf.ok hlN) (amN (std 0) jq)
noncomputable def oq:=U6.c
def zN:=fun a b ha=>U6.cs (anv UK UL a b ha)
def adg:=fun a b ha=>(zN a b ha).1
def adh:=fun a b ha=>(zN a b ha).2
def Te:=mk Tryz.func240 (hlC U6.ok hlN) (agE (std 0) oq)
noncomputable def Gn:=Te.c
def dD:=fun a b d hd h1 h2 h3=>Te.cs (ahd adg adh a b d hd h1 h2 h3)
def ai9:=fun a b d hd h1 h2 h3=>(dD a b d hd h1 h2 h3).1
def aja:=fun a b d hd h1 h2 h3=>(dD a b d hd h1 h2 h3).2
def KO:=mk Tryz.func249 hlN (agF (std 0))
noncomputable def Gm:=KO.c
def ajb:=fun a b n d hl h1 h2 h3 h4=>(KO.cs (Zg a b n d hl h1 h2 h3 h4)).1
def ajc:=fun a b n d hl h1 h2 h3 h4=>(KO.cs (Zg a b n d hl h1 h2 h3 h4)).2
def Tf:=mk Tryz.func247 (hlC KO.ok hlN) (agG (std 0) Gm)
noncomputable def rz:=Tf.c
def fE:=fun a m b d hl h1 h2 h3 h4=>Tf.cs (ahc ajb ajc a m b d hl h1 h2 h3 h4)
def ajd:=fun a m b d hl h1 h2 h3 h4=>(fE a m b d hl h1 h2 h3 h4).1
def aje:=fun a m b d hl h1 h2 h3 h4=>(fE a m b d hl h1 h2 h3 h4).2
noncomputable def cK:Nat→Ct aC mV
  | 0=>never mV
  | k+1=>cn (FC (std 0) oq.pre oq.fn rz.pre rz.fn (cK k).pre (cK k).fn)
theorem kK:∀k:Nat,cB E 241 (bY (cK k))∧∀(a m b:Int) (d:List ak),Ar a m b d→b-a<k→(cK k).pre (a,m,b,d,())=true∧Mrg d ((cK k).fn (a,m,b,d,())).1 a b
  | 0=>⟨jN (enters_of Tryz.func241 (by kernel_rfl) rfl),fun a m b d h1 h2=>(by have g1:=h1.h2;have g2:=h1.h3;omega)⟩
  | k+1=>by
    have ih:=kK k
    have t:Fn E 241 (FC (std 0) oq.pre oq.fn rz.pre rz.fn (cK k).pre (cK k).fn) (cK (k+1)):=mk Tryz.func241 (hlC U6.ok (hlC Tf.ok (hlC ih.1 hlN))) (agH (std 0) oq rz (cK k))
    exact⟨t.ok,fun a m b d h1 h2=>t.cs (ahe adg adh ajd aje (k:Int) (fun a m b d h1 h2=>(ih.2 a m b d h1 h2).1) (fun a m b d h1 h2=>(ih.2 a m b d h1 h2).2) a m b d h1 (by omega))⟩
noncomputable def pQ:Ct aC mV:=cK 1000000000
theorem ajf:cB E 241 (bY pQ):=(kK 1000000000).1
theorem adi {a m b:Int} {d:List ak} (h:Ar a m b d):b-a< ((1000000000:Nat):Int):=by have g0:=h.sh.1;have g1:=h.h1;have g2:=h.h4;omega
def ajg:=fun a m b d h=>((kK 1000000000).2 a m b d h (adi h)).1
def ajh:=fun a m b d h=>((kK 1000000000).2 a m b d h (adi h)).2
def Tg:=mk Tryz.func229 (hlC Te.ok (hlC ajf hlN)) (agI (std 0) Gn pQ)
noncomputable def Gp:=Tg.c
def fF:=fun n d hd hn=>Tg.cs (ahf ai9 aja ajg ajh n d hd hn)
def aji:=fun n d hd hn=>(fF n d hd hn).1
def ajj:=fun n d hd hn=>(fF n d hd hn).2
def Ti:=mk Tryz.func223 (hlC Tg.ok hlN) (agJ (std 0) Gp)
noncomputable def Gq:=Ti.c
def bV:=fun d hd=>Ti.cs (ahg aji ajj d hd)
def ajk:=fun d hd=>(bV d hd).1
def ajl:=fun d hd=>(bV d hd).2
def U7:=mk Tryz.func217 (hlC Jf.ok (hlC zH.ok (hlC Jl.ok (hlC OB.ok (hlC Ti.ok hlN))))) (amO (std 0) jq dZ nu wR Gq)
noncomputable def xg:=U7.c
def HV:=fun l hl hc=>U7.cs (anF UK UL Hu Hw aaI aaJ acU acV ajk ajl l hl hc)
def adk:=fun l hl hc=>(HV l hl hc).1
def adl:=fun l hl hc=>(HV l hl hc).2
def Tj:=mk Tryz.func225 hlN (agK (std 0))
noncomputable def Gr:=Tj.c
def dS:=fun n h1 h2=>Tj.cs (ahh n h1 h2)
def ajm:=fun n h1 h2=>(dS n h1 h2).1
def ajn:=fun n h1 h2=>(dS n h1 h2).2
def aaL:=mk Tryz.func218 (hlC Tj.ok hlN) (amP (std 0) Gr)
noncomputable def ND:=aaL.c
def dI:=fun a b ha hb=>aaL.cs (anG ajm ajn a b ha hb)
def ao1:=fun a b ha hb=>(dI a b ha hb).1
def ao2:=fun a b ha hb=>(dI a b ha hb).2
def aaM:=mk Tryz.func195 (hlC zH.ok (hlC U7.ok (hlC aaL.ok hlN))) (amQ (std 0) dZ xg ND)
noncomputable def NI:=aaM.c
def xJ:=fun a b ha hb=>aaM.cs (anI Hu Hw adk adl ao1 ao2 a b ha hb)
def ao3:=fun a b ha hb=>(xJ a b ha hb).1
def ao4:=fun a b ha hb=>(xJ a b ha hb).2
def KQ:=mk Tryz.func226 hlN (agL (std 0))
noncomputable def Gs:=KQ.c
def ajo:=fun n h1 h2=>(KQ.cs (Zi n h1 h2)).1
def ajp:=fun n h1 h2=>(KQ.cs (Zi n h1 h2)).2
def aaN:=mk Tryz.func219 (hlC KQ.ok hlN) (amR (std 0) Gs)
noncomputable def NG:=aaN.c
def jy:=fun a b ha hb=>aaN.cs (anH ajo ajp a b ha hb)
def ao5:=fun a b ha hb=>(jy a b ha hb).1
def ao6:=fun a b ha hb=>(jy a b ha hb).2
def Tk:=mk Tryz.func230 (hlC aan.ok hlN) (agM (std 0) yC)
noncomputable def Gt:=Tk.c
def fQ:=fun a b d hd h1 h2=>Tk.cs (ahl aor aos a b d hd h1 h2)
def ajq:=fun a b d hd h1 h2=>(fQ a b d hd h1 h2).1
def ajr:=fun a b d hd h1 h2=>(fQ a b d hd h1 h2).2
noncomputable def Aj:Ct aC EO:=never EO
theorem ajs:cB E 231 (bY Aj):=jN (enters_of Tryz.func231 (by kernel_rfl) rfl)
noncomputable def Ak:Ct aC EP:=never EP
theorem ajt:cB E 232 (bY Ak):=jN (enters_of Tryz.func232 (by kernel_rfl) rfl)
noncomputable def Al:Ct aC ER:=never ER
theorem aju:cB E 233 (bY Al):=jN (enters_of Tryz.func233 (by kernel_rfl) rfl)
noncomputable def Am:Ct aC ET:=never ET
theorem ajv:cB E 234 (bY Am):=jN (enters_of Tryz.func234 (by kernel_rfl) rfl)
noncomputable def Ao:Ct aC EU:=never EU
theorem ajw:cB E 235 (bY Ao):=jN (enters_of Tryz.func235 (by kernel_rfl) rfl)
noncomputable def Ap:Ct aC EW:=never EW
theorem ajx:cB E 236 (bY Ap):=jN (enters_of Tryz.func236 (by kernel_rfl) rfl)
noncomputable def Aq:Ct aC EX:=never EX
theorem ajy:cB E 237 (bY Aq):=jN (enters_of Tryz.func237 (by kernel_rfl) rfl)
noncomputable def iq:Ct aC oU:=never oU
theorem lG:cB E 227 (bY iq):=jN (enters_of Tryz.func227 (by kernel_rfl) rfl)
def Tm:=mk Tryz.func227 (hlC aan.ok (hlC Tk.ok (hlC ajs (hlC ajt (hlC aju (hlC ajv (hlC ajw (hlC ajx (hlC ajy (hlC lG hlN)))))))))) (agN (std 0) yC Gt Aj Ak Al Am Ao Ap Aq iq)
noncomputable def rA:=Tm.c
def iA:=fun a b k d hd h1 h2=>Tm.cs (ahm ajq ajr _ _ _ _ _ _ _ _ _ _ _ _ _ _ _ _ a b k d hd h1 h2)
def ajz:=fun a b k d hd h1 h2=>(iA a b k d hd h1 h2).1
def ajA:=fun a b k d hd h1 h2=>(iA a b k d hd h1 h2).2
noncomputable def Gu:Ct aC Uj:={pre:=fun x=>decide ((0:Int)≤x.1)&&decide ((x.1:Int)≤18446744073709551615),fn:=fun x=>((Lib.bitLen (x.1:Int).toNat:Int),())}
theorem ao7 (n:Int) (h1:0≤n) (h2:n≤18446744073709551615):Gu.pre (n,())=true:=by
  show(decide _&&decide _)=true;simp only [Bool.and_eq_true,decide_eq_true_eq];exact⟨h1,h2⟩
theorem ao8:cB E 228 (bY Gu):=
  ZT (enters_of Tryz.func228 (by kernel_rfl) rfl) rfl fun x w h=>by
      have h':(decide ((0:Int)≤x)&&decide (x≤18446744073709551615))=true:=h
      simp only [Bool.and_eq_true,decide_eq_true_eq]at h'
      exact bits_Len x w h'.1 h'.2
def Tn:=mk Tryz.func220 (hlC Tm.ok (hlC ao8 hlN)) (agO (std 0) rA Gu)
noncomputable def Gw:=Tn.c
def jS:=fun a ha=>Tn.cs (ahn ajz ajA ao7 a ha)
def ajB:=fun a ha=>(jS a ha).1
def ajC:=fun a ha=>(jS a ha).2
def U8:=mk Tryz.func197 (hlC zH.ok (hlC Jl.ok (hlC U7.ok (hlC aaN.ok (hlC Tn.ok hlN))))) (amS (std 0) dZ nu xg NG Gw)
noncomputable def xk:=U8.c
def xK:=fun a b ha hb=>U8.cs (anJ Hu Hw aaI aaJ adk adl ao5 ao6 ajB ajC a b ha hb)
def adn:=fun a b ha hb=>(xK a b ha hb).1
def ado:=fun a b ha hb=>(xK a b ha hb).2
def aaO:=mk Tryz.func196 (hlC zH.ok (hlC OI.ok (hlC zJ.ok (hlC U8.ok hlN)))) (amT (std 0) dZ nA fO xk)
noncomputable def NJ:=aaO.c
def sI:=fun a n ha=>aaO.cs (anK Hu Hw aaG aaH Ji Jj adn ado a n ha)
def ao9:=fun a n ha=>(sI a n ha).1
def apa:=fun a n ha=>(sI a n ha).2
end Go.TX.F
namespace Go.TX.F
open Go Go.AE Go.TX Go.TX.Seat Go.Proofs
set_option maxRecDepth 100000
def aaP:=mk Tryz.func161 (hlC BK.ok (hlC OI.ok (hlC aaK.ok (hlC aaM.ok (hlC U8.ok (hlC aaO.ok (hlC UQ.ok hlN))))))) (amU (std 0) fP nA NH NI xk NJ wS)
noncomputable def NK:=aaP.c
def xL:=fun op x y hx hy=>aaP.cs (anL Jg Jh aaG aaH aoZ ao0 ao3 ao4 adn ado ao9 apa acS acT op x y hx hy)
def apb:=fun op x y hx hy=>(xL op x y hx hy).1
def apc:=fun op x y hx hy=>(xL op x y hx hy).2
def aaQ:=mk Tryz.func104 (hlC OA.ok (hlC aaP.ok (hlC U2.ok (hlC U3.ok hlN)))) (amV (std 0) mZ NK wZ wY)
noncomputable def NS:=aaQ.c
def qG:=fun t op x y ht hx hy=>aaQ.cs (anM aao aap apb apc ac6 ac7 ac8 ac9 t op x y ht hx hy)
def apd:=fun t op x y ht hx hy=>(qG t op x y ht hx hy).1
def ape:=fun t op x y ht hx hy=>(qG t op x y ht hx hy).2
def U9:=mk Tryz.func107 (hlC OC.ok hlN) (amW (std 0) mY)
noncomputable def xq:=U9.c
def lT:=fun a ha=>U9.cs (anu aaq aar a ha)
def adp:=fun a ha=>(lT a ha).1
def adq:=fun a ha=>(lT a ha).2
def aaR:=mk Tryz.func37 (hlC Hy.ok (hlC Hz.ok (hlC aaE.ok (hlC Jk.ok (hlC OI.ok (hlC aav.ok (hlC aaz.ok (hlC U9.ok (hlC aaQ.ok (hlC U4.ok (hlC U5.ok (hlC aaF.ok hlN)))))))))))) (amX (std 0) jv gY NP jr nA NQ NR xq NS w9 xu NT)
noncomputable def NZ:=aaR.c
def xM:=fun t b ht hb=>aaR.cs (an6 U0 U1 OG OH aoV aoW UW UY aaG aaH aoD aoE aoL aoM adp adq apd ape ada adb ade adf aoX aoY t b ht hb)
def apf:=fun t b ht hb=>(xM t b ht hb).1
def apg:=fun t b ht hb=>(xM t b ht hb).2
def KR:=mk Tryz.func152 hlN (agP (std 0))
noncomputable def Gx:=KR.c
def ajD:=fun a b ha=>(KR.cs (ZQ a b ha)).1
def ajE:=fun a b ha=>(KR.cs (ZQ a b ha)).2
def aaS:=mk Tryz.func84 (hlC KR.ok hlN) (amY (std 0) Gx)
noncomputable def NW:=aaS.c
def xO:=fun a b ha=>aaS.cs (an9 ajD ajE a b ha)
def aph:=fun a b ha=>(xO a b ha).1
def apj:=fun a b ha=>(xO a b ha).2
def aaT:=mk Tryz.func85 (hlC U9.ok (hlC U5.ok hlN)) (amZ (std 0) xq xu)
noncomputable def NY:=aaT.c
def xP:=aaT.cs (an4 adp adq ade adf)
def apk:=(xP).1
def apl:=(xP).2
def aaU:=mk Tryz.func191 (hlC BK.ok hlN) (am0 (std 0) fP)
noncomputable def NU:=aaU.c
def nL:=fun a b ha=>aaU.cs (aoa Jg Jh a b ha)
def apm:=fun a b ha=>(nL a b ha).1
def apn:=fun a b ha=>(nL a b ha).2
def Tp:=mk Tryz.func190 (hlC aaU.ok hlN) (agQ (std 0) NU)
noncomputable def Gy:=Tp.c
def aZ:=fun a b ha=>Tp.cs (ahZ apm apn a b ha)
def ajF:=fun a b ha=>(aZ a b ha).1
def ajG:=fun a b ha=>(aZ a b ha).2
def Va:=mk Tryz.func155 (hlC Tp.ok hlN) (am1 (std 0) Gy)
noncomputable def xw:=Va.c
def qH:=fun a b ha=>Va.cs (aob ajF ajG a b ha)
def adr:=fun a b ha=>(qH a b ha).1
def ads:=fun a b ha=>(qH a b ha).2
def aaV:=mk Tryz.func154 (hlC BK.ok (hlC Va.ok hlN)) (am2 (std 0) fP xw)
noncomputable def NV:=aaV.c
def qI:=fun a b ha=>aaV.cs (aoc Jg Jh adr ads a b ha)
def apo:=fun a b ha=>(qI a b ha).1
def apq:=fun a b ha=>(qI a b ha).2
def Tq:=mk Tryz.func153 (hlC aaV.ok hlN) (agR (std 0) NV)
noncomputable def Gz:=Tq.c
def aT:=fun a b ha=>Tq.cs (ah0 apo apq a b ha)
def ajH:=fun a b ha=>(aT a b ha).1
def ajI:=fun a b ha=>(aT a b ha).2
def aaW:=mk Tryz.func86 (hlC BK.ok (hlC Va.ok (hlC Tq.ok hlN))) (am3 (std 0) fP xw Gz)
noncomputable def N7:=aaW.c
def vJ:=fun a b ha=>aaW.cs (aod Jg Jh adr ads ajH ajI a b ha)
def apr:=fun a b ha=>(vJ a b ha).1
def aps:=fun a b ha=>(vJ a b ha).2
def ajJ:=mk Tryz.func26 (hlC Hz.ok (hlC aaS.ok (hlC aaT.ok (hlC aaR.ok (hlC aaW.ok hlN))))) (aqU (std 0) gY NW NY NZ N7)
noncomputable def Y9:=ajJ.c
def vK:=fun b c hb hc=>ajJ.cs (aq1 OG OH aph apj apk apl apf apg apr aps b c hb hc)
def aq6:=fun b c hb hc=>(vK b c hb hc).1
def aq7:=fun b c hb hc=>(vK b c hb hc).2
def Vb:=mk Tryz.func34 hlN (am4 (std 0))
noncomputable def Oc:=Vb.c
def apt:=fun a b ha=>(Vb.cs (acP a b ha)).1
def apu:=fun a b ha=>(Vb.cs (acP a b ha)).2
end Go.TX.F
namespace Go.TX.F
open Go Go.AE Go.TX Go.TX.Seat Go.Proofs
set_option maxRecDepth 100000
def Tt:=mk Tryz.func40 (hlC Hg.ok (hlC Kv.ok (hlC nJ.ok (hlC Tc.ok hlN)))) (agS (std 0) je GA bH GD)
noncomputable def GH:=Tt.c
def lU:=fun c hc hl=>Tt.cs (ah1 Sl Sn ah4 ah5 uU uV ai5 ai6 c hc hl)
def ajK:=fun c hc hl=>(lU c hc hl).1
def ajL:=fun c hc hl=>(lU c hc hl).2
def aaX:=mk Tryz.func124 (hlC Hy.ok (hlC Jk.ok hlN)) (am5 (std 0) jv jr)
noncomputable def N8:=aaX.c
def jT:=fun nm pc len fin x y k ops h=>aaX.cs (aoe U0 U1 UW UY nm pc len fin x y k ops h)
def apv:=fun nm pc len fin x y k ops h=>(jT nm pc len fin x y k ops h).1
def apw:=fun nm pc len fin x y k ops h=>(jT nm pc len fin x y k ops h).2
def aaY:=mk Tryz.func117 (hlC aaX.ok hlN) (am6 (std 0) N8)
noncomputable def N9:=aaY.c
def lV:=fun b kp ok hk=>aaY.cs (aof apv apw b kp ok hk)
def apx:=fun b kp ok hk=>(lV b kp ok hk).1
def apy:=fun b kp ok hk=>(lV b kp ok hk).2
def Tv:=mk Tryz.func46 (hlC Tt.ok hlN) (agT (std 0) GH)
noncomputable def GI:=Tv.c
def nM:=fun c hc hl=>Tv.cs (ah2 ajK ajL c hc hl)
def ajM:=fun c hc hl=>(nM c hc hl).1
def ajN:=fun c hc hl=>(nM c hc hl).2
def Vd:=mk Tryz.func120 (hlC Hy.ok (hlC Jk.ok hlN)) (am7 (std 0) jv jr)
noncomputable def xA:=Vd.c
def lW:=fun b ok=>Vd.cs (aog U0 U1 UW UY b ok)
def adt:=fun b ok=>(lW b ok).1
def adu:=fun b ok=>(lW b ok).2
def aaZ:=mk Tryz.func47 (hlC aaY.ok (hlC Vd.ok (hlC Hz.ok hlN))) (am8 (std 0) N9 xA gY)
noncomputable def Oa:=aaZ.c
def vL:=fun b hb=>aaZ.cs (aoh apx apy adt adu OG OH b hb)
def apz:=fun b hb=>(vL b hb).1
def apA:=fun b hb=>(vL b hb).2
def aa0:=mk Tryz.func48 (hlC Vd.ok (hlC Hz.ok hlN)) (am9 (std 0) xA gY)
noncomputable def Ob:=aa0.c
def vM:=fun b hb=>aa0.cs (aoi adt adu OG OH b hb)
def apB:=fun b hb=>(vM b hb).1
def apC:=fun b hb=>(vM b hb).2
def adw:=mk Tryz.func11 (hlC ajJ.ok (hlC Hz.ok (hlC aaZ.ok (hlC aa0.ok (hlC Vb.ok (hlC aaw.ok (hlC Tv.ok (hlC uZ.ok (hlC KE.ok (hlC KD.ok hlN)))))))))) (ana (std 0) Y9 gY Oa Ob Oc Od GI dx pF pE)
def qJ:=fun c hc=>adw.cs (aoj aq6 aq7 OG OH apz apA apB apC apt apu aoF aoG ajM ajN AA AB Z8 Z9 Z6 Z7 c hc)
def apD:=fun c hc=>(qJ c hc).1
def apE:=fun c hc=>(qJ c hc).2
end Go.TX.F
namespace Go.Proofs.YtnhlcljjjbjfeaaGreat
open Go.ChangeShapes Go.WideShapes Go.ChangeAt Go.RowKit
theorem aq8:ownKnob Tryz.prog.godebug=Option.none:=by kernel_rfl
theorem apF:laidOutB Tryz.prog=true:=by kernel_rfl
theorem ajO:Tryz.prog.cellsOf 5=1:=by kernel_rfl
set_option maxRecDepth 100000 in
theorem lifted (os:Os) (started:os.Started) (H:Type) (enc:TypeId×Value→H):
    ReturnsInHanded {} Tryz.checked os 11 .any (Rows.fnOptDeadSpec.pre6 enc Tryz.prog Tryz.f11 Rows.fnOptDeadRow.domain false) (Rows.fnOptDeadSpec.post enc Tryz.prog Tryz.f11 false true false false):=by
  refine returnsInHanded_of_change (C:=Tryz.checked) aq8 started (by kernel_rfl) Tryz.func11
    (ChangeSpec.witness6 (enc:=enc) (C:=Tryz.checked) false ⟨#[], #[.slice none 0 0],[]⟩ 8 (by kernel_rfl) (by kernel_rfl) (by kernel_rfl) (by kernel_rfl)) ?_
  intro W base args ds gs before hval0 hW _ _
  have hval:∀(j:Nat) t v,Tryz.f11.params[j]? =some t→args[j]? =some v→Value.okWide Tryz.prog W .any base t v:=hval0
  have hW':=hW
  obtain⟨p,q,hA0,hV,rfl,_,_⟩:=hW
  have hA:DataW.TrodAll enc Tryz.prog W 0 (fun _=>true) true Tryz.f11.params.toList args.toList ds p:=hA0
  rw [Tryz.params11]at hA hval
  obtain⟨v0,d0,rfl,rfl,h0⟩:=trodAll_one hA
  obtain⟨rfl,rfl⟩:=trodVars_none hV
  clear hA0 hval0
  simp only [List.append_nil]at hW'
  have hlt:∀x∈p,x.block<W.heap.size:=fun x hx=>by simpa using hW'.lt x hx
  obtain⟨xs,hr,hb⟩:=Go.TX.ZR Tryz.underlying22 Tryz.underlying5 ajO (hval 0 22 v0 rfl rfl) h0 hlt
  have hp:=Go.TX.F.apD xs hb
  have hq:=Go.TX.F.apE xs hb
  refine(Go.TX.aq3 Go.TX.F.adw.ok hr (fun g d h=>by cases h) hp).mono fun e W' ⟨he,hw⟩=> ?_
  have he:e= .returned (.bool true):=he.trans (congrArg (fun z:Bool×Unit=>Ending.returned (.bool z.1)) hq)
  refine⟨_,he,[d0],[],p,[],p,[],hW',trodAll_mk1 (shut_bool Tryz.underlying4 true),?_,rfl,hw.frame _,fun h=>by cases h⟩
  exact trodAll_mk1 (Below.trod apF (by kernel_rfl) (of_decide_eq_true (by kernel_rfl)) h0 hw hlt)
theorem y1:Tryz.pinned.checked.prog.funcNamed Rows.fnOptDeadRow.func=some 11:=by kernel_rfl
theorem aS {a b:Bool} (h:a=true) (k:b=true):(a&&b)=true:=by rw [h,k];rfl
set_option maxHeartbeats 4000000 in
theorem y2:joinedFacts Tryz.pinned.checked.prog 11 Tryz.f11 Rows.fnOptDeadSpec Rows.fnOptDeadRow=true:=by
  unfold joinedFacts
  repeat' with_reducible apply aS
  all_goals (as_aux_lemma=>kernel_rfl)
theorem y3:Func.isWrapper Tryz.prog Tryz.f11 Rows.fnOptDeadRow.wrapper Rows.fnOptDeadRow.mainSum:=(by unfold Func.isWrapper;first | (rw [if_pos (by decide+kernel)];kernel_rfl) | (rw [if_neg (by decide+kernel)];exact⟨rfl,rfl⟩))
theorem x_holds:Rows.FnOptDeadSaid:=
  OpenClaim.holds_of_wide 11 Tryz.f11 rfl rfl rfl rfl rfl rfl rfl ⟨rfl,rfl,rfl,rfl,rfl⟩ rfl rfl rfl rfl rfl y1 Tryz.func11 y2
    (of_decide_eq_true (by kernel_rfl)) y3
    (fun os started H enc _=>lifted os started H enc)
end Go.Proofs.YtnhlcljjjbjfeaaGreat
