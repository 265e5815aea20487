/- For every input the law returns true, and the input reads as it did. No condition. -/
import Derived.Test.YtdmoejehiedihaaGreatZd
import Derived.ChangeSlices
import Derived.ChangeSame
import Derived.JoinedOf
import Derived.JoinedAt
import Derived.Handed
import Derived.Below
import Derived.Carry
import Derived.OpenShut
import Derived.ChangeKeysEq
import Derived.Test.YtdmoejehiedihaaGreatY
import Derived.Test.YtdmoejehiedihaaGreatRows
set_option linter.all false
set_option linter.unusedSectionVars false
set_option linter.unusedVariables false
set_option linter.unusedSimpArgs false
namespace Go.TX.F
open Go Go.AE Go.TX
def fcO (f:List IOp) (o:IOp):IOp:=if o.kind=3∧(((f).getD (o.x).toNat default)).kind=1∧(((f).getD (o.y).toNat default)).kind=1 then⟨1,0,0,wdo o.k (((f).getD (o.x).toNat default)).k (((f).getD (o.y).toNat default)).k,0⟩else o
def fc (ops:List IOp):Nat→List IOp
 | 0=> []
 | i+1=>fc ops i++ [fcO (fc ops i) (ops.getD i default)]
def fcB (b:Blk) (f:List IOp):Blk:=
 if b.fin=2∧(((f).getD (b.x).toNat default)).kind=1 then⟨b.pc,b.len,f,1,0,b.y,(((f).getD (b.x).toNat default)).k⟩
 else if 3≤b.fin∧(((f).getD (b.x).toNat default)).kind=1∧(((f).getD (b.y).toNat default)).kind=1 then⟨b.pc,b.len,f,1,0,0,if b.fin=3∧(((f).getD (b.x).toNat default)).k=(((f).getD (b.y).toNat default)).k∨b.fin=4∧(((f).getD (b.x).toNat default)).k< (((f).getD (b.y).toNat default)).k then b.k else b.pc+b.len⟩
 else⟨b.pc,b.len,f,b.fin,b.x,b.y,b.k⟩
noncomputable def eH (b:Blk):Blk:=if bp (eF b)=true then fcB b (fc b.ops b.ops.length)else Z6
theorem oF (ops:List IOp):∀i,(fc ops i).length=i
 | 0=>rfl
 | i+1=>by show(fc ops i++ [_]).length=_;rw [List.length_append,oF ops i];rfl
theorem aaR (ops:List IOp) {i n j:Nat} (h1:j<i) (h2:i≤n):(fc ops n).getD j default=(fc ops i).getD j default:=by
  induction n with
  | zero => have : i = 0 := by omega
            subst this;rfl
  | succ n ih=>
    by_cases c:i=n+1
    · subst c;rfl
    · have:=ih (by omega)
      rw [←this]
      show(fc ops n++ [_]).getD j default=_
      rw [iI,if_pos (by rw [oF];omega)]
theorem QX (ops:List IOp) {i n:Nat} (h:i<n):(fc ops n).getD i default=fcO (fc ops i) (ops.getD i default):=by
 rw [aaR ops (show i<i+1 by omega) (show i+1≤n by omega)]
 show(fc ops i++ [_]).getD i default=_
 rw [iI,if_neg (by rw [oF];omega),if_pos (by rw [oF])]
structure FI (ops:List IOp) (i:Nat) (s:SS):Prop where
 c:∀j:Int,0≤j→j<i→((((fc ops i)).getD (j).toNat default)).kind=1→(0≤((((fc ops i)).getD (j).toNat default)).k∧((((fc ops i)).getD (j).toNat default)).k≤65535)∧((s.vals).getD (j).toNat default)=aQ ((((fc ops i)).getD (j).toNat default)).k
 m:∀j:Int,0≤j→j<i→mkV ((ops).getD (j).toNat default)→mkV (((fc ops i)).getD (j).toNat default)
theorem UO (t:List Atom) {op a b:Int} (hop:1≤op∧op≤5) (ha:0≤a∧a≤65535) (hb:0≤b∧b≤65535):tDo t op (aQ a) (aQ b)=(t,aQ (wdo op a b)):=by
 unfold tDo;rw [QM hop ha hb,if_pos rfl]
theorem Aa {b:Blk} (hb:eF b) (t:List Atom):∀i:Nat,i≤b.ops.length→
  ((fc b.ops b.ops.length).take i).foldl stp (s0 t)=(b.ops.take i).foldl stp (s0 t)∧FI b.ops i ((b.ops.take i).foldl stp (s0 t))
 | 0,_=>⟨rfl,⟨fun j h1 h2=>absurd h2 (by omega),fun j h1 h2=>absurd h2 (by omega)⟩⟩
 | i+1,hi=>by
  obtain⟨ih1,ih2⟩:=Aa hb t i (by omega)
  have hlt:i<b.ops.length:=hi
  have hok:=hb.op i (by omega) (by omega)
  rw [show(i:Int).toNat=i from rfl,getD_lt hlt]at hok
  have eo:b.ops.getD i default=b.ops[i]:=getD_lt hlt
  have hv:=z8 (b.ops.take i) (s0 t)
  rw [List.length_take,Nat.min_eq_left (by omega),show(s0 t).vals.length=0 from rfl,Nat.zero_add]at hv
  have fl:=oF b.ops i
  have fo:(fc b.ops b.ops.length)[i]'(by rw [oF];exact hlt)=fcO (fc b.ops i) b.ops[i]:=by
   rw [←eo,←QX b.ops hlt,getD_lt]
  rw [mg _ _ (by rw [oF];exact hlt),mg _ _ hlt,ih1,fo]
  clear ih1
  generalize (b.ops.take i).foldl stp (s0 t)=s at ih2 hv ⊢
  generalize ho:b.ops[i]=o at hok eo fo ⊢
  have key:o.kind=3∧((((fc b.ops i)).getD (o.x).toNat default)).kind=1∧((((fc b.ops i)).getD (o.y).toNat default)).kind=1→xOf s o=aQ ((((fc b.ops i)).getD (o.x).toNat default)).k∧yOf s o=aQ ((((fc b.ops i)).getD (o.y).toNat default)).k∧(0≤((((fc b.ops i)).getD (o.x).toNat default)).k∧((((fc b.ops i)).getD (o.x).toNat default)).k≤65535)∧(0≤((((fc b.ops i)).getD (o.y).toNat default)).k∧((((fc b.ops i)).getD (o.y).toNat default)).k≤65535):=fun⟨c1,c2,c3⟩=>by
   have hx:hX o:=by unfold hX;omega
   have hy:hY o:=Or.inl c1
   have v1:=hok.x1 hx
   have v2:=hok.y1 hy
   have g1:=ih2.c o.x v1.1 v1.2.1 c2
   have g2:=ih2.c o.y v2.1 v2.2.1 c3
   refine⟨?_,?_,g1.1,g2.1⟩
   ·unfold xOf;rw [if_pos hx];exact g1.2
   ·unfold yOf;rw [if_pos hy];exact g2.2
  have es:stp s (fcO (fc b.ops i) o)=stp s o∧((fcO (fc b.ops i) o).kind=1→(0≤(fcO (fc b.ops i) o).k∧(fcO (fc b.ops i) o).k≤65535)∧nV s o=aQ (fcO (fc b.ops i) o).k)∧(mkV o→mkV (fcO (fc b.ops i) o)):=by
   unfold fcO
   by_cases c:o.kind=3∧((((fc b.ops i)).getD (o.x).toNat default)).kind=1∧((((fc b.ops i)).getD (o.y).toNat default)).kind=1
   ·rw [if_pos c]
    obtain⟨k1,k2,k3,k4⟩:=key c
    have hd:=UO s.t (hok.k3 c.1) k3 k4
    have e1:nT s o=s.t:=by unfold nT;rw [if_pos c.1,k1,k2,hd]
    have e2:nV s o=aQ (wdo o.k ((((fc b.ops i)).getD (o.x).toNat default)).k ((((fc b.ops i)).getD (o.y).toNat default)).k):=by unfold nV;rw [if_neg (by omega),if_neg (by omega),if_pos c.1,k1,k2,hd]
    refine⟨?_,fun _=>⟨Tn _ _ _,e2⟩,fun _=>Or.inl ⟨by dsimp only;omega,by dsimp only;omega⟩⟩
    have e3:nR s o=s.regs:=by unfold nR;rw [if_neg (by omega)]
    have e4:nE s o=s.evs:=by unfold nE;rw [if_neg (by omega)]
    show SS.mk (nT s ⟨1,0,0,_,0⟩) (nR s ⟨1,0,0,_,0⟩) (s.vals++ [nV s ⟨1,0,0,_,0⟩]) (if(1:Int)=4 then _ else _) (if(1:Int)=6 then _ else _) (nE s ⟨1,0,0,_,0⟩)=SS.mk (nT s o) (nR s o) (s.vals++ [nV s o]) (if o.kind=4 then _ else _) (if o.kind=6 then _ else _) (nE s o)
    rw [e1,e2,e3,e4,if_neg (show¬o.kind=4 by omega),if_neg (show¬o.kind=6 by omega)]
    rfl
   ·rw [if_neg c]
    refine⟨rfl,fun h=>⟨hok.k1 h,by unfold nV;rw [if_pos h]⟩,fun h=>h⟩
  refine⟨es.1,?_⟩
  have vs:∀j:Int,0≤j→j<i→(((stp s o).vals).getD (j).toNat default)=((s.vals).getD (j).toNat default):=fun j h1 h2=>by
   show(((s.vals++ [nV s o])).getD (j).toNat default)=_
   rw [iI,if_pos (by omega)]
  have vi:(((stp s o).vals).getD ((i:Int)).toNat default)=nV s o:=by
   show(((s.vals++ [nV s o])).getD ((i:Int)).toNat default)=_
   rw [iI,if_neg (by omega),if_pos (by omega)]
  have ns:∀j:Int,0≤j→j<i→(((fc b.ops (i+1))).getD (j).toNat default)=(((fc b.ops i)).getD (j).toNat default):=fun j h1 h2=>aaR b.ops (by omega) (by omega)
  have ni:(((fc b.ops (i+1))).getD ((i:Int)).toNat default)=fcO (fc b.ops i) o:=by
   rw [show((i:Int)).toNat=i from rfl,QX b.ops (show i<i+1 by omega),eo]
  have eoi:((b.ops).getD ((i:Int)).toNat default)=o:=by rw [show(i:Int).toNat=i from rfl,eo]
  refine⟨fun j h1 h2 h3=> ?_,fun j h1 h2 h3=> ?_⟩
  ·by_cases c:j<i
   ·rw [ns j h1 c]at h3 ⊢;rw [vs j h1 c];exact ih2.c j h1 c h3
   ·have:j=(i:Int):=by omega
    subst this
    rw [ni]at h3 ⊢;rw [vi];exact es.2.1 h3
  ·by_cases c:j<i
   ·rw [ns j h1 c];exact ih2.m j h1 c h3
   ·have:j=(i:Int):=by omega
    subst this
    rw [eoi]at h3
    rw [ni];exact es.2.2 h3
theorem QY {a b:Int} (ha:0≤a∧a≤65535) (hb:0≤b∧b≤65535) (h:aQ a=aQ b):a=b:=by
 have:=gH ha
 rw [h,gH hb]at this
 exact(congrArg Prod.fst this).symm
theorem aj8 (b:Blk) (f:List IOp):(fcB b f).pc=b.pc∧(fcB b f).len=b.len∧(fcB b f).ops=f:=by
 unfold fcB;split
 ·exact⟨rfl,rfl,rfl⟩
 ·split<;>exact⟨rfl,rfl,rfl⟩
theorem ML {b:Blk} (hb:eF b):Lk b (eH b)∧(eH b).ops.length=b.ops.length:=by
 have e:eH b=fcB b (fc b.ops b.ops.length):=by unfold eH;rw [if_pos (bZ hb)]
 obtain⟨p1,p2,p3⟩:=aj8 b (fc b.ops b.ops.length)
 have fl:=oF b.ops b.ops.length
 obtain⟨_,fi⟩:=Aa hb [] b.ops.length (Nat.le_refl _)
 have vl:∀ {x n:Int},Vl b.ops x n→n≤b.ops.length→Vl (fc b.ops b.ops.length) x n:=fun {x n} ⟨h1,h2,h3⟩ hn=>⟨h1,h2,fi.m x h1 (by omega) h3⟩
 have en:=hb.en
 have h1:=hb.ln
 have h2:=hb.pc
 have ok:eF (eH b):=by
  rw [e]
  refine⟨by rw [p2];exact hb.ln,by rw [p1,p2];exact hb.pc,by rw [p3,fl];exact hb.sz,fun i i1 i2=> ?_,?_⟩
  ·rw [p3]at i2 ⊢
   rw [fl]at i2
   rw [p2]
   have ho:=hb.op i i1 i2
   rw [QX b.ops (show i.toNat<b.ops.length by omega)]
   generalize b.ops.getD i.toNat default=o at ho
   unfold fcO
   split
   ·refine⟨by dsimp only;omega,fun h=>absurd h (by unfold hX;simp),fun _=>rfl,fun h=>absurd h (by unfold hY;simp),fun _=>rfl,fun _=>Tn _ _ _,fun h=>absurd h (by simp),fun h=>absurd h (by simp),fun h=>absurd h (by simp),fun h=>absurd h (by unfold evO;simp),fun _=>rfl⟩
   ·exact⟨ho.kd,fun h=>vl (ho.x1 h) (by omega),ho.x0,fun h=>vl (ho.y1 h) (by omega),ho.y0,ho.k1,ho.k2,ho.k3,ho.k0,ho.a1,ho.a0⟩
  ·unfold fcB
   split
   ·rename_i c
    have v:=en.x1 (by omega)
    have g:=fi.c b.x v.1 v.2.1 c.2
    exact⟨by dsimp only;omega,fun h=>absurd rfl h,fun _=>rfl,fun h=>absurd h (by dsimp only;omega),fun _=>en.y0 (by omega),fun _=>g.1,fun h=>absurd h (by simp)⟩
   ·split
    ·rename_i c
     refine⟨by dsimp only;omega,fun h=>absurd rfl h,fun _=>rfl,fun h=>absurd h (by dsimp only;omega),fun _=>rfl,fun _=> ?_,fun h=>absurd h (by simp)⟩
     dsimp only
     split
     ·exact en.k1 (by omega)
     ·omega
    ·exact⟨en.f,fun h=>by dsimp only at h ⊢;rw [fl];exact vl (en.x1 h) (Int.le_refl _),en.x0,fun h=>by dsimp only at h ⊢;rw [fl];exact vl (en.y1 h) (Int.le_refl _),en.y0,en.k1,en.k0⟩
 refine⟨⟨hb,ok,by rw [e,p1],by rw [e,p2],fun u u1 u2 u3=> ?_⟩,by rw [e,p3,fl]⟩
 obtain⟨r1,r3⟩:=Aa hb u b.ops.length (Nat.le_refl _)
 rw [List.take_of_length_le (by omega),List.take_of_length_le (by omega)]at r1
 rw [List.take_of_length_le (by omega)]at r3
 have es:fJ u (eH b)=fJ u b:=by unfold fJ;rw [e,p3];exact r1
 unfold bJ
 rw [if_pos (bZ ⟨u1,u2,ok⟩),if_pos (bZ ⟨u1,u2,hb⟩),es]
 rw [e,p1,p2]
 have i1:=(Jr u1 u2 hb).1
 have pk:=Jt (b:=b) i1
 congr 1
 have r3:FI b.ops b.ops.length (fJ u b):=r3
 generalize fJ u b=s at r3 pk
 unfold fcB
 split
 ·rename_i c
  have v:=en.x1 (by omega)
  obtain⟨g1,g2⟩:=r3.c b.x v.1 v.2.1 c.2
  have ex:(kI b s).x=aQ ((((fc b.ops b.ops.length)).getD (b.x).toNat default)).k:=by unfold kI;dsimp only;rw [if_neg (by omega)];exact g2
  have ey:(kI b s).y=[]:=by unfold kI;dsimp only;rw [if_neg (by omega)]
  have e1:symEnd (kI b s) (b.pc+b.len)=⟨s.evs,s.regs,1,[],[],((((fc b.ops b.ops.length)).getD (b.x).toNat default)).k⟩:=by
   unfold symEnd
   rw [if_neg (by rw [bZ pk];simp),if_pos ⟨c.1,by rw [ex,gH g1]⟩,ex,gH g1];rfl
  rw [e1]
  unfold symEnd kI
  dsimp only
  rw [if_neg (by rw [bZ ⟨by rw [if_pos rfl];exact bL,by rw [if_neg (by omega)];exact bL⟩];simp),if_neg (by omega),if_pos (by omega)]
  rw [if_pos rfl,if_neg (by omega)]
 ·split
  ·rename_i _ c
   have v:=en.x1 (by omega)
   have w:=en.y1 c.1
   obtain⟨g1,g2⟩:=r3.c b.x v.1 v.2.1 c.2.1
   obtain⟨g3,g4⟩:=r3.c b.y w.1 w.2.1 c.2.2
   have ex:(kI b s).x=aQ ((((fc b.ops b.ops.length)).getD (b.x).toNat default)).k:=by unfold kI;dsimp only;rw [if_neg (by omega)];exact g2
   have ey:(kI b s).y=aQ ((((fc b.ops b.ops.length)).getD (b.y).toNat default)).k:=by unfold kI;dsimp only;rw [if_pos c.1];exact g4
   have hf:=en.f
   have e1:symEnd (kI b s) (b.pc+b.len)=⟨s.evs,s.regs,1,[],[],if b.fin=3∧((((fc b.ops b.ops.length)).getD (b.x).toNat default)).k=((((fc b.ops b.ops.length)).getD (b.y).toNat default)).k∨b.fin=4∧((((fc b.ops b.ops.length)).getD (b.x).toNat default)).k< ((((fc b.ops b.ops.length)).getD (b.y).toNat default)).k then b.k else b.pc+b.len⟩:=by
    unfold symEnd
    rw [if_neg (by rw [bZ pk];simp),if_neg (by show¬(b.fin=2∧_);omega),if_neg (by show¬(b.fin≠3∧b.fin≠4);omega)]
    rw [ex,ey,gH g1,gH g3,if_pos (Or.inr ⟨rfl,rfl⟩)]
    show Sym.mk s.evs s.regs 1 [] [] _=_
    congr 1
    show(if(_∧b.fin=3∨(true=true∧true=true)∧(b.fin=3∧_∨b.fin=4∧_))then b.k else _)=_
    by_cases d:b.fin=3∧((((fc b.ops b.ops.length)).getD (b.x).toNat default)).k=((((fc b.ops b.ops.length)).getD (b.y).toNat default)).k∨b.fin=4∧((((fc b.ops b.ops.length)).getD (b.x).toNat default)).k< ((((fc b.ops b.ops.length)).getD (b.y).toNat default)).k
    ·rw [if_pos d];exact if_pos (Or.inr ⟨⟨rfl,rfl⟩,d⟩)
    ·rw [if_neg d]
     refine if_neg ?_
     rintro(⟨q1,q2⟩ | ⟨_,q⟩)
     ·exact d (Or.inl ⟨q2,QY g1 g3 q1⟩)
     ·exact d q
   rw [e1]
   unfold symEnd kI
   dsimp only
   rw [if_neg (by rw [bZ ⟨by rw [if_pos rfl];exact bL,by rw [if_neg (by omega)];exact bL⟩];simp),if_neg (by omega),if_pos (by omega)]
   rw [if_pos rfl,if_neg (by omega)]
  ·rfl
def kpS (ops:List IOp) (kp:List Bool):Nat→List Int×List IOp
 | 0=>([],[])
 | i+1=>((kpS ops kp i).1++ [((kpS ops kp i).2.length:Int)],if kp.getD i default=true then(kpS ops kp i).2++ [ops.getD i default]else(kpS ops kp i).2)
def AY (b:Blk) (kp:List Bool):Blk:=QU (kpS b.ops kp b.ops.length).1 b (kpS b.ops kp b.ops.length).2
def pF:List IOp→Int→Bool
 | [],_=>false
 | o::l,r=>if o.kind=4∨o.kind=5∨o.kind=2∧o.k=r then false else if o.kind=8∧o.k=r then true else pF l r
theorem yU (ops:List IOp) (kp:List Bool):∀i,(kpS ops kp i).1.length=i∧(kpS ops kp i).2.length≤i
 | 0=>⟨rfl,Nat.le_refl _⟩
 | i+1=>by
  obtain⟨h1,h2⟩:=yU ops kp i
  unfold kpS
  refine⟨by rw [List.length_append,h1];rfl,?_⟩
  dsimp only
  split
  ·rw [List.length_append];simp only [List.length_cons,List.length_nil];omega
  ·omega
theorem Z7 (ops:List IOp) (kp:List Bool) {i n:Nat} (h:i≤n):(kpS ops kp i).2<+:(kpS ops kp n).2∧(kpS ops kp i).1<+:(kpS ops kp n).1:=by
 induction n with
 | zero=>rw [show i=0 by omega];exact⟨List.prefix_refl _,List.prefix_refl _⟩
 | succ n ih=>
  by_cases c:i=n+1
  ·subst c;exact⟨List.prefix_refl _,List.prefix_refl _⟩
  ·obtain⟨h1,h2⟩:=ih (by omega)
   refine⟨h1.trans ?_,h2.trans (List.prefix_append _ _)⟩
   show _<+:if kp.getD n default=true then _ else _
   split
   ·exact List.prefix_append _ _
   ·exact List.prefix_refl _
structure KP (b:Blk) (kp:List Bool):Prop where
 x:∀i:Int,0≤i→i<b.ops.length→((kp).getD (i).toNat default)=true→hX ((b.ops).getD (i).toNat default)→((kp).getD ((((b.ops).getD (i).toNat default)).x).toNat default)=true
 y:∀i:Int,0≤i→i<b.ops.length→((kp).getD (i).toNat default)=true→hY ((b.ops).getD (i).toNat default)→((kp).getD ((((b.ops).getD (i).toNat default)).y).toNat default)=true
 ex:b.fin≠1→((kp).getD (b.x).toNat default)=true
 ey:3≤b.fin→((kp).getD (b.y).toNat default)=true
 no:∀i:Int,0≤i→i<b.ops.length→((kp).getD (i).toNat default)=false→(((b.ops).getD (i).toNat default)).kind≤3∨(((b.ops).getD (i).toNat default)).kind=8∧pF (b.ops.drop (i.toNat+1)) (((b.ops).getD (i).toNat default)).k=true
structure KI (b:Blk) (kp:List Bool) (i:Nat) (s s':SS):Prop where
 t:s'.t=s.t
 ld:s'.ld=s.ld
 inn:s'.inn=s.inn
 evs:s'.evs=s.evs
 vl:s'.vals.length=(kpS b.ops kp i).2.length
 v:∀j:Nat,j<i→kp.getD j default=true→s'.vals.getD (kpS b.ops kp j).2.length default=s.vals.getD j default
 r4:s'.regs.length=4∧s.regs.length=4
 rg:∀r:Int,0≤r→r≤3→pF (b.ops.drop i) r=false→((s'.regs).getD (r).toNat default)=((s.regs).getD (r).toNat default)
def qE (ops:List IOp):List Bool:=(List.range ops.length).map fun i=> !(decide ((ops.getD i default).kind=8)&&pF (ops.drop (i+1)) (ops.getD i default).k)
noncomputable def u7 (b:Blk):Blk:=if bp (eF b)=true then AY b (qE b.ops)else Z6
theorem UQ {ops:List IOp} {i:Nat} (h:i<ops.length):(qE ops).getD i default= !(decide ((ops.getD i default).kind=8)&&pF (ops.drop (i+1)) (ops.getD i default).k):=by
 unfold qE
 rw [getD_lt (by rw [List.length_map,List.length_range];exact h),List.getElem_map,List.getElem_range]
def us0 (b:Blk):List Bool:=(fun m:List Bool=>if 3≤b.fin then m.set b.y.toNat true else m) (if b.fin=1 then List.replicate b.ops.length false else(List.replicate b.ops.length false).set b.x.toNat true)
def usO (o:IOp) (i:Nat) (m:List Bool):List Bool:=
 if(m.getD i default || decide (4≤o.kind))=true then(fun m:List Bool=>if hY o then m.set o.y.toNat true else m) ((fun m:List Bool=>if hX o then m.set o.x.toNat true else m) (m.set i true))else m
def us (b:Blk):Nat→List Bool
 | 0=>us0 b
 | k+1=>usO (b.ops.getD (b.ops.length-1-k) default) (b.ops.length-1-k) (us b k)
noncomputable def BD (b:Blk):List Bool:=if bp (eF b)=true then us b b.ops.length else []
noncomputable def mM (b:Blk):Blk:=if bp (eF b)=true then AY b (us b b.ops.length)else Z6
theorem Z8 (o:IOp) (i:Nat) (m:List Bool):(usO o i m).length=m.length:=by
 unfold usO;dsimp only;repeat' split
 all_goals simp only [List.length_set]
theorem Z9 (b:Blk):(us0 b).length=b.ops.length:=by
 unfold us0;dsimp only;repeat' split
 all_goals simp only [List.length_set,List.length_replicate]
theorem Ab (b:Blk):∀k,(us b k).length=b.ops.length
 | 0=>Z9 b
 | k+1=>by unfold us;rw [Z8,Ab b k]
theorem vg {m:List Bool} {i:Nat} {j:Int} (h:j.toNat<m.length):(m.set j.toNat true).getD i default=(m.getD i default || decide (i=j.toNat)):=by
 by_cases c:i=j.toNat
 ·subst c;rw [getD_lt (by rw [List.length_set];exact h),List.getElem_set_self,decide_eq_true rfl,Bool.or_true]
 ·rw [decide_eq_false c,Bool.or_false]
  simp only [List.getD,List.getElem?_set_ne (Ne.symm c)]
theorem TA {o:IOp} {i t:Nat} {m:List Bool} (hi:i<m.length) (hx:hX o→o.x.toNat<m.length) (hy:hY o→o.y.toNat<m.length):(usO o i m).getD t default=true↔m.getD t default=true∨(m.getD i default=true∨4≤o.kind)∧(t=i∨hX o∧t=o.x.toNat∨hY o∧t=o.y.toNat):=by
 unfold usO
 dsimp only
 by_cases c:(m.getD i default || decide (4≤o.kind))=true
 ·rw [if_pos c]
  rw [Bool.or_eq_true,decide_eq_true_eq]at c
  have e1:∀t:Nat,(m.set i true).getD t default=true↔m.getD t default=true∨t=i:=fun t=>by
   have:=vg (m:=m) (i:=t) (j:=(i:Int)) hi
   rw [show((i:Int)).toNat=i from rfl]at this
   rw [this,Bool.or_eq_true,decide_eq_true_eq]
  have e2:∀t:Nat,((if hX o then(m.set i true).set o.x.toNat true else m.set i true).getD t default=true)↔(m.getD t default=true∨t=i)∨hX o∧t=o.x.toNat:=fun t=>by
   by_cases d:hX o
   ·rw [if_pos d,vg (by rw [List.length_set];exact hx d),Bool.or_eq_true,decide_eq_true_eq,e1];exact⟨fun h=>h.elim Or.inl (fun h=>Or.inr ⟨d,h⟩),fun h=>h.elim Or.inl (fun h=>Or.inr h.2)⟩
   ·rw [if_neg d,e1];exact⟨Or.inl,fun h=>h.elim id (fun h=>absurd h.1 d)⟩
  have l2:(if hX o then(m.set i true).set o.x.toNat true else m.set i true).length=m.length:=by split<;>simp only [List.length_set]
  by_cases d:hY o
  ·rw [if_pos d,vg (by rw [l2];exact hy d),Bool.or_eq_true,decide_eq_true_eq,e2];have c':=eq_true c;have d':=eq_true d;generalize hY o=Y at d' ⊢;generalize hX o=Z;rw [c',d'];grind
  ·rw [if_neg d,e2];have c':=eq_true c;have d':=eq_false d;generalize hY o=Y at d' ⊢;generalize hX o=Z;rw [c',d'];grind
 ·rw [if_neg c]
  rw [Bool.or_eq_true,decide_eq_true_eq]at c
  simp only [c,false_and,or_false]
theorem QZ {m:List Bool} {t:Nat} {j:Int} (h:j.toNat<m.length):(m.set j.toNat true).getD t default=true↔m.getD t default=true∨t=j.toNat:=by rw [vg h,Bool.or_eq_true,decide_eq_true_eq]
structure UI (b:Blk) (p:Nat) (m:List Bool):Prop where
 k:∀i:Nat,p≤i→i<b.ops.length→4≤(b.ops.getD i default).kind→m.getD i default=true
 x:∀i:Nat,p≤i→i<b.ops.length→m.getD i default=true→hX (b.ops.getD i default)→((m).getD ((b.ops.getD i default).x).toNat default)=true
 y:∀i:Nat,p≤i→i<b.ops.length→m.getD i default=true→hY (b.ops.getD i default)→((m).getD ((b.ops.getD i default).y).toNat default)=true
 ex:b.fin≠1→((m).getD (b.x).toNat default)=true
 ey:3≤b.fin→((m).getD (b.y).toNat default)=true
 wh:∀t:Nat,t<b.ops.length→m.getD t default=true→4≤(b.ops.getD t default).kind∨b.fin≠1∧t=b.x.toNat∨3≤b.fin∧t=b.y.toNat∨∃j:Nat,p≤j∧j<b.ops.length∧t<j∧m.getD j default=true∧(hX (b.ops.getD j default)∧t=(b.ops.getD j default).x.toNat∨hY (b.ops.getD j default)∧t=(b.ops.getD j default).y.toNat)
theorem TB {b:Blk} (hb:eF b) (t:Nat):(us0 b).getD t default=true↔b.fin≠1∧t=b.x.toNat∨3≤b.fin∧t=b.y.toNat:=by
 have en:=hb.en
 have fx:=en.x1
 have fy:=en.y1
 unfold us0
 dsimp only
 have r:∀t,(List.replicate b.ops.length false).getD t default=false:=fun t=>by
  by_cases c:t<b.ops.length
  ·rw [getD_lt (by rw [List.length_replicate];exact c),List.getElem_replicate]
  ·rw [List.getD_eq_getElem?_getD,List.getElem?_eq_none (by rw [List.length_replicate];omega)];rfl
 have e1:∀t:Nat,((if b.fin=1 then List.replicate b.ops.length false else(List.replicate b.ops.length false).set b.x.toNat true).getD t default=true)↔b.fin≠1∧t=b.x.toNat:=fun t=>by
  by_cases d:b.fin=1
  ·rw [if_pos d,r];simp [d]
  ·have:=fx d
   have g0:=this.1
   have g1:=this.2.1
   rw [if_neg d,vg (by rw [List.length_replicate];omega),r];simp [d]
 have l1:(if b.fin=1 then List.replicate b.ops.length false else(List.replicate b.ops.length false).set b.x.toNat true).length=b.ops.length:=by split<;>simp only [List.length_set,List.length_replicate]
 by_cases d:3≤b.fin
 ·have:=fy d
  have g0:=this.1
  have g1:=this.2.1
  rw [if_pos d,vg (by rw [l1];omega),Bool.or_eq_true,decide_eq_true_eq,e1];simp only [d,true_and]
 ·rw [if_neg d,e1];simp only [d,false_and,or_false]
theorem aaS {b:Blk} (hb:eF b):∀k,k≤b.ops.length→UI b (b.ops.length-k) (us b k)
 | 0,_=>by
  have e:=TB hb
  exact⟨fun i h1 h2=>absurd h2 (by omega),fun i h1 h2=>absurd h2 (by omega),fun i h1 h2=>absurd h2 (by omega),fun c=>(e _).2 (Or.inl ⟨c,rfl⟩),fun c=>(e _).2 (Or.inr ⟨c,rfl⟩),fun t _ h=>((e t).1 h).elim (fun h=>Or.inr (Or.inl h)) (fun h=>Or.inr (Or.inr (Or.inl h)))⟩
 | k+1,hk=>by
  have ih:=aaS hb k (by omega)
  have ul:=Ab b k
  have ho:=hb.op ((b.ops.length-1-k:Nat):Int) (by omega) (by omega)
  rw [show(((b.ops.length-1-k:Nat):Int)).toNat=b.ops.length-1-k from rfl]at ho
  generalize hp:b.ops.length-1-k=p at ho
  have e0:b.ops.length-k=p+1:=by omega
  rw [e0]at ih
  rw [show b.ops.length- (k+1)=p by omega]
  have pl:p<b.ops.length:=by omega
  show UI b p (usO (b.ops.getD (b.ops.length-1-k) default) (b.ops.length-1-k) (us b k))
  rw [hp]
  have X:hX (b.ops.getD p default)→(b.ops.getD p default).x.toNat<p:=fun c=>by have:=ho.x1 c;have g0:=this.1;have g1:=this.2.1;omega
  have Y:hY (b.ops.getD p default)→(b.ops.getD p default).y.toNat<p:=fun c=>by have:=ho.y1 c;have g0:=this.1;have g1:=this.2.1;omega
  generalize us b k=m at ih ul
  have e:∀t:Nat,_↔_:=fun t=>TA (o:=b.ops.getD p default) (i:=p) (t:=t) (m:=m) (by omega) (fun c=>by have:=X c;omega) (fun c=>by have:=Y c;omega)
  have hi:∀t:Nat,p<t→((usO (b.ops.getD p default) p m).getD t default=true↔m.getD t default=true):=fun t h=>by
   rw [e]
   constructor
   ·rintro(h1 | ⟨_,h1 | ⟨h1,h2⟩ | ⟨h1,h2⟩⟩)
    ·exact h1
    ·omega
    ·have:=X h1;omega
    ·have:=Y h1;omega
   ·exact Or.inl
  have mono:∀t:Nat,m.getD t default=true→(usO (b.ops.getD p default) p m).getD t default=true:=fun t h=>(e t).2 (Or.inl h)
  have pp:(usO (b.ops.getD p default) p m).getD p default=true↔m.getD p default=true∨4≤(b.ops.getD p default).kind:=by
   rw [e]
   constructor
   ·rintro(h1 | ⟨h1,_⟩)
    ·exact Or.inl h1
    ·exact h1
   ·intro h;exact Or.inr ⟨h,Or.inl rfl⟩
  refine⟨fun i h1 h2 h3=> ?_,fun i h1 h2 h3 h4=> ?_,fun i h1 h2 h3 h4=> ?_,fun c=>mono _ (ih.ex c),fun c=>mono _ (ih.ey c),fun t h1 h2=> ?_⟩
  ·by_cases c:i=p
   ·subst c;exact pp.2 (Or.inr h3)
   ·exact mono _ (ih.k i (by omega) h2 h3)
  ·by_cases c:i=p
   ·subst c;exact(e _).2 (Or.inr ⟨pp.1 h3,Or.inr (Or.inl ⟨h4,rfl⟩)⟩)
   ·exact mono _ (ih.x i (by omega) h2 ((hi i (by omega)).1 h3) h4)
  ·by_cases c:i=p
   ·subst c;exact(e _).2 (Or.inr ⟨pp.1 h3,Or.inr (Or.inr ⟨h4,rfl⟩)⟩)
   ·exact mono _ (ih.y i (by omega) h2 ((hi i (by omega)).1 h3) h4)
  ·have old:m.getD t default=true→_:=fun h=>ih.wh t h1 h
   have go:m.getD t default=true→4≤(b.ops.getD t default).kind∨b.fin≠1∧t=b.x.toNat∨3≤b.fin∧t=b.y.toNat∨∃j:Nat,p≤j∧j<b.ops.length∧t<j∧(usO (b.ops.getD p default) p m).getD j default=true∧(hX (b.ops.getD j default)∧t=(b.ops.getD j default).x.toNat∨hY (b.ops.getD j default)∧t=(b.ops.getD j default).y.toNat):=fun h=>by
    rcases old h with h | h | h | ⟨j,j1,j2,j3,j4,j5⟩
    ·exact Or.inl h
    ·exact Or.inr (Or.inl h)
    ·exact Or.inr (Or.inr (Or.inl h))
    ·exact Or.inr (Or.inr (Or.inr ⟨j,by omega,j2,j3,mono _ j4,j5⟩))
   rcases(e t).1 h2 with h | ⟨h,g⟩
   ·exact go h
   ·rcases g with g | ⟨g1,g2⟩ | ⟨g1,g2⟩
    ·subst g
     rcases h with h | h
     ·exact go h
     ·exact Or.inl h
    ·exact Or.inr (Or.inr (Or.inr ⟨p,Nat.le_refl _,pl,by have:=X g1;omega,pp.2 h,Or.inl ⟨g1,g2⟩⟩))
    ·exact Or.inr (Or.inr (Or.inr ⟨p,Nat.le_refl _,pl,by have:=Y g1;omega,pp.2 h,Or.inr ⟨g1,g2⟩⟩))
theorem aj9 {b:Blk} (hb:eF b):UI b 0 (us b b.ops.length):=by
 have:=aaS hb b.ops.length (Nat.le_refl _)
 rw [Nat.sub_self]at this;exact this
theorem XJ (b:Blk) (kp:List Bool):(AY b kp).ops.length=(kpS b.ops kp b.ops.length).2.length:=List.length_map _
theorem Q0 (o:IOp) (l:List IOp) (r:Int):pF (o::l) r=if o.kind=4∨o.kind=5∨o.kind=2∧o.k=r then false else if o.kind=8∧o.k=r then true else pF l r:=rfl
theorem MN (b:Blk) (kp:List Bool):(AY b kp).ops.length≤b.ops.length:=by rw [XJ];exact(yU b.ops kp b.ops.length).2
theorem F4 (b:Blk):(u7 b).ops.length≤b.ops.length:=by
 unfold u7;split
 ·exact MN _ _
 ·exact Nat.zero_le _
theorem xI (b:Blk):(mM b).ops.length≤b.ops.length:=by
 unfold mM;split
 ·exact MN _ _
 ·exact Nat.zero_le _
theorem AZ (b:Blk):(eH b).ops.length≤b.ops.length:=by
 by_cases c:eF b
 ·exact Nat.le_of_eq (ML c).2
 ·unfold eH;rw [gG c,if_neg (by decide)];exact Nat.zero_le _
theorem xJ (b:Blk):(dx b).ops.length≤b.ops.length:=by
 by_cases c:eF b
 ·exact Nat.le_of_eq (QW c).2
 ·unfold dx;rw [gG c,if_neg (by decide)];exact Nat.zero_le _
noncomputable def Q5 (b:Blk):Blk:=mM (u7 (mM (eH (dx b))))
theorem UR (b:Blk):(Q5 b).ops.length≤b.ops.length:=Nat.le_trans (xI _) (Nat.le_trans (F4 _) (Nat.le_trans (xI _) (Nat.le_trans (AZ _) (xJ _))))
theorem Jw {b:Blk} (hb:eF b):eH b=fcB b (fc b.ops b.ops.length):=by unfold eH;rw [if_pos (bZ hb)]
end Go.TX.F
namespace Go.TX.F
open Go Go.AE Go.TX
theorem RB:(∀o:IOp,fO .iop 0 o=o.kind)∧(∀o:IOp,fO .iop 1 o=o.x)∧(∀o:IOp,fO .iop 2 o=o.y)∧(∀o:IOp,fO .iop 3 o=o.k)∧(∀o:IOp,fO .iop 4 o=o.at_)∧
  (∀b:Blk,fO .blk 0 b=b.pc)∧(∀b:Blk,fO .blk 1 b=b.len)∧(∀b:Blk,lH .blk 2 .iop b=b.ops)∧(∀b:Blk,fO .blk 3 b=b.fin)∧(∀b:Blk,fO .blk 4 b=b.x)∧(∀b:Blk,fO .blk 5 b=b.y)∧(∀b:Blk,fO .blk 6 b=b.k)∧
  (∀x,Co.mk .iop x=⟨x.1,x.2.1,x.2.2.1,x.2.2.2.1,x.2.2.2.2.1⟩)∧(∀x,Co.mk .blk x=⟨x.1,x.2.1,x.2.2.1,x.2.2.2.1,x.2.2.2.2.1,x.2.2.2.2.2.1,x.2.2.2.2.2.2.1⟩)∧
  (∀i:Ins,fO .ins 0 i=i.op)∧(∀i:Ins,fO .ins 1 i=i.d)∧(∀i:Ins,fO .ins 2 i=i.a)∧(∀i:Ins,fO .ins 3 i=i.k)∧(∀x,Co.mk .ins x=⟨x.1,x.2.1,x.2.2.1,x.2.2.2.1⟩)∧
  (∀e:Ev,fO .ev 0 e=e.kind)∧(∀e:Ev,fO .ev 1 e=e.at_)∧(∀e:Ev,lH .ev 2 .mono e=e.x)∧(∀e:Ev,lH .ev 3 .mono e=e.y)∧(∀e:Ev,lH .ev 4 .poly e=e.regs)∧(∀x,Co.mk .ev x=⟨x.1,x.2.1,x.2.2.1,x.2.2.2.1,x.2.2.2.2.1⟩)∧
  (∀s:Sym,lH .sym 0 .ev s=s.events)∧(∀s:Sym,lH .sym 1 .poly s=s.regs)∧(∀s:Sym,fO .sym 2 s=s.fin)∧(∀s:Sym,lH .sym 3 .mono s=s.x)∧(∀s:Sym,lH .sym 4 .mono s=s.y)∧(∀s:Sym,fO .sym 5 s=s.k)∧
  (∀x,Co.mk .sym x=⟨x.1,x.2.1,x.2.2.1,x.2.2.2.1,x.2.2.2.2.1,x.2.2.2.2.2.1⟩)∧(∀x,Co.mk .bool x=x.1)∧(∀x:Bool,ahX .bool 0 x=x):=
 ⟨fun _=>rfl,fun _=>rfl,fun _=>rfl,fun _=>rfl,fun _=>rfl,fun _=>rfl,fun _=>rfl,fun _=>rfl,fun _=>rfl,fun _=>rfl,fun _=>rfl,fun _=>rfl,fun _=>rfl,fun _=>rfl,fun _=>rfl,fun _=>rfl,fun _=>rfl,fun _=>rfl,fun _=>rfl,fun _=>rfl,fun _=>rfl,fun _=>rfl,fun _=>rfl,fun _=>rfl,fun _=>rfl,fun _=>rfl,fun _=>rfl,fun _=>rfl,fun _=>rfl,fun _=>rfl,fun _=>rfl,fun _=>rfl,fun _=>rfl,fun _=>rfl⟩
@[reducible] def hK (o : IOp) : Prop := o.kind = 1 ∨ o.kind = 2 ∨ o.kind = 3 ∨ o.kind = 8
theorem XK {ops:List IOp} {len i:Int} {o:IOp}:Jp ops len i o↔(1≤o.kind∧o.kind≤8)∧(hX o∧Vl ops o.x i∨¬hX o∧o.x=0)∧(hY o∧Vl ops o.y i∨¬hY o∧o.y=0)∧
  (hK o∧(o.kind=1∧(0≤o.k∧o.k≤65535)∨(o.kind=2∨o.kind=8)∧(0≤o.k∧o.k≤3)∨o.kind=3∧(1≤o.k∧o.k≤5))∨¬hK o∧o.k=0)∧(evO o∧(0≤o.at_∧o.at_<len)∨¬evO o∧o.at_=0):=by
 constructor
 ·rintro⟨kd,x1,x0,y1,y0,k1,k2,k3,k0,a1,a0⟩
  refine⟨kd,?_,?_,?_,?_⟩
  ·by_cases h:hX o
   ·exact Or.inl ⟨h,x1 h⟩
   ·exact Or.inr ⟨h,x0 h⟩
  ·by_cases h:hY o
   ·exact Or.inl ⟨h,y1 h⟩
   ·exact Or.inr ⟨h,y0 h⟩
  ·unfold hK;omega
  ·by_cases h:evO o
   ·exact Or.inl ⟨h,a1 h⟩
   ·exact Or.inr ⟨h,a0 h⟩
 ·rintro⟨kd,x,y,k,a⟩
  refine⟨kd,fun h=> ?_,fun h=> ?_,fun h=> ?_,fun h=> ?_,fun h=> ?_,fun h=> ?_,fun h=> ?_,fun h h'=> ?_,fun h=> ?_,fun h=> ?_⟩
  ·rcases x with x | x
   ·exact x.2
   ·exact absurd h x.1
  ·rcases x with x | x
   ·exact absurd x.1 h
   ·exact x.2
  ·rcases y with y | y
   ·exact y.2
   ·exact absurd h y.1
  ·rcases y with y | y
   ·exact absurd y.1 h
   ·exact y.2
  ·unfold hK at k;omega
  ·unfold hK at k;omega
  ·unfold hK at k;omega
  ·unfold hK at k;omega
  ·rcases a with a | a
   ·exact a.2
   ·exact absurd h a.1
  ·rcases a with a | a
   ·exact absurd a.1 h
   ·exact a.2
theorem UU {b:Blk}:Ia b↔(1≤b.fin∧b.fin≤4)∧(b.fin≠1∧Vl b.ops b.x b.ops.length∨¬b.fin≠1∧b.x=0)∧(3≤b.fin∧Vl b.ops b.y b.ops.length∨¬3≤b.fin∧b.y=0)∧(b.fin≠2∧(0≤b.k∧b.k≤65535)∨¬b.fin≠2∧b.k=0):=by
 constructor
 ·rintro⟨f,x1,x0,y1,y0,k1,k0⟩
  refine⟨f,?_,?_,by omega⟩
  ·by_cases h:b.fin=1
   ·exact Or.inr ⟨fun g=>g h,x0 h⟩
   ·exact Or.inl ⟨h,x1 h⟩
  ·by_cases h:3≤b.fin
   ·exact Or.inl ⟨h,y1 h⟩
   ·exact Or.inr ⟨h,y0 (by omega)⟩
 ·rintro⟨f,x,y,k⟩
  refine⟨f,fun h=> ?_,fun h=> ?_,fun h=> ?_,fun h=> ?_,fun h=>by omega,fun h=>by omega⟩
  ·rcases x with x | x
   ·exact x.2
   ·exact absurd h x.1
  ·rcases x with x | x
   ·exact absurd h x.1
   ·exact x.2
  ·rcases y with y | y
   ·exact y.2
   ·exact absurd h y.1
  ·rcases y with y | y
   ·exact absurd y.1 (by omega)
   ·exact y.2
end Go.TX.F
namespace Go.TX.F
open Go Go.AE Go.TX
theorem afp {p1:Int×Int×Int×Unit→Bool} {f1:Int×Int×Int×Unit→Bool×Unit} (hp1:∀a b c,p1 (a,b,c,())=true) (hf1:∀a b c,f1 (a,b,c,())=(inB a b c,())) (k:Int):
  OO (std 0) p1 f1 (k,()) (fun y=>y=(decide ((1≤k∧k≤4)∨k=6),())):=by
 dsimp only [OO,Alg.cl,Alg.cg,Alg.rb,Alg.bd,Alg.l1,Tup.q,Tup.o]
 simp (disch:=omega) only [RR,hp1,hf1]
 refine Prod.ext ?_ rfl
 rw [Bool.eq_iff_iff];simp [inB]
theorem afq {p1:Int×Unit→Bool} {f1:Int×Unit→Bool×Unit} (hp1:∀k,p1 (k,())=true) (hf1:∀k,f1 (k,())=(decide ((1≤k∧k≤4)∨k=6),())) (ops:List IOp) (x n:Int) (h1:n≤ops.length):
  OP (std 0) p1 f1 (ops,x,n,()) (fun y=>y=(bp (Vl ops x n),())):=by
 dsimp only [OP,Alg.cl,Alg.cg,Alg.rb,Alg.bd,Alg.l1,Tup.q,Tup.o]
 simp (disch:=omega) only [RR,RB,hp1,hf1]
 refine⟨by simp only [Bool.and_eq_false_iff,decide_eq_false_iff_not];omega,by simp only [Bool.and_eq_false_iff,decide_eq_false_iff_not];omega,?_⟩
 refine Prod.ext ?_ rfl
 dsimp only
 rw [Bool.eq_iff_iff,bO,Bool.and_eq_true,Bool.and_eq_true,decide_eq_true_eq,decide_eq_true_eq,decide_eq_true_eq,and_assoc]
 rfl
theorem afr {p4:Int×Unit→Bool} {f4:Int×Unit→Bool×Unit} (hp4:∀a,p4 (a,())=true) (hf4:∀a,f4 (a,())=(inB a 0 65535,()))
  {p1:Int×Int×Int×Unit→Bool} {f1:Int×Int×Int×Unit→Bool×Unit} (hp1:∀a b c,p1 (a,b,c,())=true) (hf1:∀a b c,f1 (a,b,c,())=(inB a b c,()))
  {p3:List IOp×Int×Int×Unit→Bool} {f3:List IOp×Int×Int×Unit→Bool×Unit} (hp3:∀(ops:List IOp) (x n:Int),n≤ops.length→p3 (ops,x,n,())=true) (hf3:∀(ops:List IOp) (x n:Int),n≤ops.length→f3 (ops,x,n,())=(bp (Vl ops x n),()))
  (ops:List IOp) (i len:Int) (h0:0≤i) (h1:i<ops.length) (h3:1≤len∧len≤8):OQ (std 0) p4 f4 p1 f1 p3 f3 (ops,i,len,()) (fun y=>y=(bp (Jp ops len i ((ops).getD (i).toNat default)),())):=by
 have afs:=fun x=>hp3 ops x i (by omega)
 have aft:=fun x=>hf3 ops x i (by omega)
 have e:∀ {a:Int},(0≤a∧a≤len-1)↔(0≤a∧a<len):=fun {a}=>by omega
 dsimp only [OQ,Alg.cl,Alg.cg,Alg.rb,Alg.bd,Alg.l1,Tup.q,Tup.o]
 simp (disch:=omega) only [RR,RB,hp1,hf1,afs,aft,hp4,hf4]
 refine⟨by omega,by omega,?_⟩
 rw [show bp (Jp ops len i ((ops).getD (i).toNat default))=bp (_)from Jh XK]
 generalize ((ops).getD (i).toNat default)=o
 have go:∀ {c:Bool} {P:Prop},(c=true↔P)→(c,())=(bp P,()):=fun {c P} h=>Prod.ext (by dsimp only;rw [Bool.eq_iff_iff,bO];exact h) rfl
 refine⟨fun c=> ?_,fun c1=>⟨fun c=> ?_,fun c2=>⟨fun c=> ?_,fun c3=> ?_⟩⟩⟩
 ·refine go ?_
  simp only [Bool.and_eq_true,decide_eq_true_eq,bO,fC,c,hX,hY,hK,evO,e]
  simp [and_assoc]
 ·refine go ?_
  simp only [Bool.and_eq_true,decide_eq_true_eq,bO,fC,c,hX,hY,hK,evO,e]
  simp [and_assoc]
 ·refine go ?_
  simp only [Bool.and_eq_true,decide_eq_true_eq,bO,fC,c,hX,hY,hK,evO,e]
  simp [and_assoc]
 ·by_cases c4:o.kind=4∨o.kind=7
  ·have c5:o.kind≠8:=by omega
   rcases c4 with c | c<;>simp (disch:=omega) only [RR,c,Int.reduceEq]<;>(refine go ?_)<;>simp only [Bool.and_eq_true,decide_eq_true_eq,bO,fC,c,hX,hY,hK,evO,e]<;>simp [and_assoc]
  ·by_cases c:o.kind=5
   ·simp (disch:=omega) only [RR,c,Int.reduceEq]
    refine go ?_
    simp only [Bool.and_eq_true,decide_eq_true_eq,bO,fC,c,hX,hY,hK,evO,e]
    simp [and_assoc]
   ·by_cases c':o.kind=6
    ·simp (disch:=omega) only [RR,c',Int.reduceEq]
     refine go ?_
     simp only [Bool.and_eq_true,decide_eq_true_eq,bO,fC,c',hX,hY,hK,evO,e]
     simp [and_assoc]
    ·by_cases c8:o.kind=8
     ·simp (disch:=omega) only [RR,c8,Int.reduceEq]
      refine go ?_
      simp only [Bool.and_eq_true,decide_eq_true_eq,bO,fC,c8,hX,hY,hK,evO,e]
      simp [and_assoc]
     ·have n4:¬o.kind=4:=fun h=>c4 (Or.inl h)
      have n7:¬o.kind=7:=fun h=>c4 (Or.inr h)
      simp (disch:=omega) only [RR,n4,n7,c,c',c8]
      rw [gG (fun h=>by have:=h.1;omega)]
theorem afu {p4:Int×Unit→Bool} {f4:Int×Unit→Bool×Unit} (hp4:∀a,p4 (a,())=true) (hf4:∀a,f4 (a,())=(inB a 0 65535,()))
  {p3:List IOp×Int×Int×Unit→Bool} {f3:List IOp×Int×Int×Unit→Bool×Unit} (hp3:∀(ops:List IOp) (x n:Int),n≤ops.length→p3 (ops,x,n,())=true) (hf3:∀(ops:List IOp) (x n:Int),n≤ops.length→f3 (ops,x,n,())=(bp (Vl ops x n),()))
  (b:Blk):OT (std 0) p4 f4 p3 f3 (b,()) (fun y=>y=(bp (Ia b),())):=by
 have afs:=fun x=>hp3 b.ops x b.ops.length (Int.le_refl _)
 have aft:=fun x=>hf3 b.ops x b.ops.length (Int.le_refl _)
 dsimp only [OT,Alg.cl,Alg.cg,Alg.rb,Alg.bd,Alg.l1,Tup.q,Tup.o]
 simp (disch:=omega) only [RR,RB,afs,aft,hp4,hf4]
 rw [show bp (Ia b)=bp (_)from Jh UU]
 have go:∀ {c:Bool} {P:Prop},(c=true↔P)→(c,())=(bp P,()):=fun {c P} h=>Prod.ext (by dsimp only;rw [Bool.eq_iff_iff,bO];exact h) rfl
 refine⟨fun c=> ?_,fun c1=>⟨fun c=> ?_,fun c2=> ?_⟩⟩
 ·refine go ?_
  simp only [Bool.and_eq_true,decide_eq_true_eq,bO,fC,c]
  simp [and_assoc]
 ·refine go ?_
  simp only [Bool.and_eq_true,decide_eq_true_eq,bO,fC,c]
  simp [and_assoc]
 ·by_cases c:b.fin=3
  ·simp (disch:=omega) only [RR,c,Int.reduceEq]
   refine go ?_
   simp only [Bool.and_eq_true,decide_eq_true_eq,bO,fC,c]
   simp [and_assoc]
  ·by_cases c4:b.fin=4
   ·simp (disch:=omega) only [RR,c4,Int.reduceEq]
    refine go ?_
    simp only [Bool.and_eq_true,decide_eq_true_eq,bO,fC,c4]
    simp [and_assoc]
   ·simp (disch:=omega) only [RR,c,c4]
    rw [gG (fun h=>by have:=h.1;omega)]
theorem afv {p1:Int×Int×Int×Unit→Bool} {f1:Int×Int×Int×Unit→Bool×Unit} (hp1:∀a b c,p1 (a,b,c,())=true) (hf1:∀a b c,f1 (a,b,c,())=(inB a b c,()))
  {p2:Blk×Unit→Bool} {f2:Blk×Unit→Bool×Unit} (hp2:∀b,p2 (b,())=true) (hf2:∀b,f2 (b,())=(bp (Ia b),()))
  {p3:List IOp×Int×Int×Unit→Bool} {f3:List IOp×Int×Int×Unit→Bool×Unit} (hp3:∀(ops:List IOp) (i len:Int),0≤i→i<ops.length→1≤len∧len≤8→p3 (ops,i,len,())=true) (hf3:∀(ops:List IOp) (i len:Int),0≤i→i<ops.length→1≤len∧len≤8→f3 (ops,i,len,())=(bp (Jp ops len i ((ops).getD (i).toNat default)),())) (b:Blk) (h2:b.ops.length<1000000000):
  OU (std 0) p1 f1 p2 f2 p3 f3 (b,()) (fun y=>y=(bp (eF b),())):=by
 dsimp only [OU,Alg.cl,Alg.cg,Alg.rb,Alg.bd,Alg.l1,Tup.q,Tup.o]
 simp (disch:=omega) only [RR,RB,hp1,hf1]
 by_cases hl:1≤b.len∧b.len≤8
 ·have hl':=fC.2 hl
  simp (disch:=omega) only [RR,hl',fC,vV]
  refine⟨fun h=> ?_,fun h=> ?_⟩
  ·rw [gG (fun g=> ?_)]
   have g1:=g.pc
   have g2:=g.sz
   omega
  ·refine ay (fun(y:Int×Blk×Unit)=>y.2.1=b∧0≤y.1∧y.1≤b.ops.length∧All y.1 (fun i=>Jp b.ops b.len i ((b.ops).getD (i).toNat default))) (fun y=>(b.ops.length-y.1).toNat) ⟨rfl,by simp,by simp,All.zero⟩ ?_
   rintro⟨(i:Int),(b':Blk),⟨⟩⟩ hI
   dsimp only at hI ⊢
   obtain⟨rfl,h3,h4,h5⟩:=hI
   simp (disch:=omega) only [RR,hp2 b',hf2 b']
   refine⟨fun h6=>⟨hp3 b'.ops i b'.len h3 h6 hl,?_⟩,fun h6=> ?_⟩
   ·rw [hf3 b'.ops i b'.len h3 h6 hl]
    dsimp only
    refine⟨fun h7=> ?_,fun h7=>⟨⟨by omega,by omega,h5.snoc (bO.1 h7)⟩,by omega⟩⟩
    rw [gG (fun g=>qU.1 h7 (g.op i h3 h6))]
   ·by_cases he:Ia b'
    ·rw [bZ he,bZ (show eF b' from⟨hl,by omega,by omega,fun j j1 j2=>h5 j j1 (by omega),he⟩)]
    ·rw [gG he,gG (fun g=>he g.en)]
 ·have hl':=vV.2 hl
  simp (disch:=omega) only [RR,hl']
  rw [gG (fun g=>hl g.ln)]
  exact⟨rfl,fun h=>h.1.1.elim⟩
theorem akb {p4:Int×Unit→Bool} {f4:Int×Unit→Bool×Unit} (hp4:∀a,p4 (a,())=true) (hf4:∀a,f4 (a,())=(inB a 0 65535,())) (r a b:Int):
  WU (std 0) p4 f4 (r,a,b,()) (fun y=>y=(inB a 0 65535&&inB b 0 65535&& (decide (r=1∧a=b∨r=2∧a<b)),())):=by
 dsimp only [WU,Alg.cl,Alg.cg,Alg.rb,Alg.bd,Alg.l1,Tup.q,Tup.o]
 simp (disch:=omega) only [RR,hp4,hf4]
 refine Prod.ext ?_ rfl
 rw [Bool.eq_iff_iff];simp
theorem akc {p1:List aj×Unit→Bool} {f1:List aj×Unit→List aj×Unit} (hp1:∀a,Sh a→p1 (a,())=true) (hf1:∀a,Sh a→f1 (a,())=(a,())) (a:List (List aj)) (ha:ShP a):
  WQ (std 0) p1 f1 (a,()) (fun y=>y=(a,())):=by
 have hlen:=ha.1
 dsimp only [WQ,Alg.cl,Alg.cg,Alg.rb,Alg.bd,Alg.l1,Tup.q,Tup.o]
 refine ay (fun(y:List (List aj)×Int×Int×List (List aj)×Unit)=>y.1=a∧y.2.1=a.length∧y.2.2.2.1=a.take y.2.2.1.toNat∧0≤y.2.2.1∧y.2.2.1≤a.length) (fun y=>(a.length-y.2.2.1).toNat) ⟨rfl,rfl,by simp,by simp,by simp⟩ ?_
 rintro⟨(l:List (List aj)),(m:Int),(i:Int),(o:List (List aj)),⟨⟩⟩ hI
 dsimp only at hI ⊢
 obtain⟨rfl,rfl,rfl,h1,h2⟩:=hI
 simp (disch:=omega) only [RR,hp1 _ (ha.at _),hf1 _ (ha.at _)]
 refine⟨fun h4=>⟨by omega,by omega,?_,⟨dL h1 h4 rfl,by omega,by omega⟩,by omega⟩,fun h4=>by rw [List.take_of_length_le (by omega)]⟩
 have:=List.length_take_le' i.toNat l
 simp only [List.length_cons,List.length_nil];omega
theorem akd {p1:List aj×Unit→Bool} {f1:List aj×Unit→List aj×Unit} (hp1:∀a,Sh a→p1 (a,())=true) (hf1:∀a,Sh a→f1 (a,())=(a,()))
  {p2:List (List aj)×Unit→Bool} {f2:List (List aj)×Unit→List (List aj)×Unit} (hp2:∀a,ShP a→p2 (a,())=true) (hf2:∀a,ShP a→f2 (a,())=(a,())) (s:Sym) (hs:ShY s):
  WR (std 0) p1 f1 p2 f2 (s,()) (fun y=>y=(s.fin,s.k,s.events,s.regs,s.x,s.y,())):=by
 have hlen:=hs.e.1
 dsimp only [WR,Alg.cl,Alg.cg,Alg.rb,Alg.bd,Alg.l1,Tup.q,Tup.o]
 simp (disch:=omega) only [RR,RB,hp1 _ hs.x,hf1 _ hs.x,hp1 _ hs.y,hf1 _ hs.y,hp2 _ hs.r,hf2 _ hs.r]
 refine ay (fun(y:List Ev×Int×Int×Int×Int×Int×Int×List Ev×List (List aj)×List aj×List aj×Unit)=>y.1=s.events∧y.2.1=s.events.length∧y.2.2.2.2.2.1=s.fin∧y.2.2.2.2.2.2.1=s.k∧y.2.2.2.2.2.2.2.1=s.events.take y.2.2.1.toNat∧y.2.2.2.2.2.2.2.2.1=s.regs∧y.2.2.2.2.2.2.2.2.2.1=s.x∧y.2.2.2.2.2.2.2.2.2.2.1=s.y∧0≤y.2.2.1∧y.2.2.1≤s.events.length) (fun y=>(s.events.length-y.2.2.1).toNat) ⟨rfl,rfl,rfl,rfl,by simp,rfl,rfl,rfl,by simp,by simp⟩ ?_
 rintro⟨(l:List Ev),(m:Int),(i:Int),(q1:Int),(q2:Int),(q3:Int),(q4:Int),(o:List Ev),(r:List (List aj)),(u:List aj),(v:List aj),⟨⟩⟩ hI
 dsimp only at hI ⊢
 obtain⟨rfl,rfl,rfl,rfl,rfl,rfl,rfl,rfl,h1,h2⟩:=hI
 have he:=hs.e.at i.toNat
 simp (disch:=omega) only [RR,RB,hp1 _ he.1,hf1 _ he.1,hp1 _ he.2.1,hf1 _ he.2.1,hp2 _ he.2.2,hf2 _ he.2.2]
 refine⟨fun h4=>⟨by omega,by omega,?_,⟨dL h1 h4 rfl,by omega,by omega⟩,by omega⟩,fun h4=>by rw [List.take_of_length_le (by omega)]⟩
 have:=List.length_take_le' i.toNat s.events
 simp only [List.length_cons,List.length_nil];omega
end Go.TX.F
namespace Go.TX.F
open Go Go.AE Go.TX
theorem TD (t:List Atom) (n:Nat):rN t (n+1)=((bM (rN t n).1 ⟨1,n,[],[]⟩).1,(rN t n).2++ [gV (bM (rN t n).1 ⟨1,n,[],[]⟩).2]):=rfl
theorem ake {p1:List aj×Unit→Bool} {f1:List aj×Unit→Int×Bool×Unit} (hp1:∀a,Sh a→p1 (a,())=true) (hf1:∀a,Sh a→f1 (a,())=((bK a).1,(bK a).2,()))
  {p2:List aj×Unit→Bool} {f2:List aj×Unit→Bool×Unit} (hp2:∀a,Sh a→p2 (a,())=true) (hf2:∀a,Sh a→f2 (a,())=(bp (aG a),()))
  {p3:List aj×List aj×Unit→Bool} {f3:List aj×List aj×Unit→Int×Unit} (hp3:∀a b,Sh a→p3 (a,b,())=true) (hf3:∀a b,Sh a→f3 (a,b,())=(eu a b,()))
  {p4:Sym×Unit→Bool} {f4:Sym×Unit→Int×Int×List Ev×List (List aj)×List aj×List aj×Unit} (hp4:∀s,ShY s→p4 (s,())=true) (hf4:∀s,ShY s→f4 (s,())=(s.fin,s.k,s.events,s.regs,s.x,s.y,()))
  {p5:List aj×List aj×Unit→Bool} {f5:List aj×List aj×Unit→Bool×Unit} (hp5:∀a b,Sh a→p5 (a,b,())=true) (hf5:∀a b,Sh a→f5 (a,b,())=(decide (eu a b=0),()))
  {p6:Int×Int×Int×Unit→Bool} {f6:Int×Int×Int×Unit→Bool×Unit} (hp6:∀r a b,p6 (r,a,b,())=true) (hf6:∀r a b,f6 (r,a,b,())=(inB a 0 65535&&inB b 0 65535&& (decide (r=1∧a=b∨r=2∧a<b)),()))
  (s:Sym) (n:Int) (hs:ShY s) (h0:0≤s.fin) (h1:s.fin≤4):WW (std 0) p1 f1 p2 f2 p3 f3 p4 f4 p5 f5 p6 f6 (s,n,()) (fun y=>y=(symEnd s n,())):=by
 dsimp only [WW,Alg.cl,Alg.cg,Alg.rb,Alg.bd,Alg.l1,Tup.q,Tup.o]
 simp (disch:=omega) only [RR,RB,hp1 _ hs.x,hf1 _ hs.x,hp1 _ hs.y,hf1 _ hs.y,hp2 _ hs.x,hf2 _ hs.x,hp2 _ hs.y,hf2 _ hs.y,hp3 _ _ hs.x,hf3 _ _ hs.x,hp4 s hs,hf4 s hs,hp5 _ _ hs.x,hf5 _ _ hs.x,hp6,hf6]
 have xy:eu s.x s.y=0↔s.x=s.y:=pE
 have rx:(bK s.x).2=true→inB (bK s.x).1 0 65535=true:=fun h=>fC.2 (qC h).2.2
 have ry:(bK s.y).2=true→inB (bK s.y).1 0 65535=true:=fun h=>fC.2 (qC h).2.2
 unfold symEnd
 refine⟨fun h=> ?_,fun h=>⟨fun g=> ?_,fun g=>⟨fun k=> ?_,fun k=>⟨fun l=>⟨fun m=> ?_,fun m=> ?_⟩,fun l=>⟨fun m=> ?_,fun m=> ?_⟩⟩⟩⟩⟩
 ·rw [if_pos (by rw [zU,Bool.and_eq_false_iff];exact h)];rfl
 all_goals rw [if_neg (by rw [zU,h.1,h.2];simp)]
 ·rw [if_pos g]
 all_goals rw [if_neg (show¬(s.fin=2∧(bK s.x).2=true) by
  rintro⟨a,b⟩;rw [decide_eq_true a,b]at g;cases g)]
 ·rw [if_pos k]
 all_goals rw [if_neg (show¬(s.fin≠3∧s.fin≠4) by
  rintro⟨a,b⟩;rw [decide_eq_false a,decide_eq_false b]at k;cases k)]
 ·rw [if_pos (by rw [←xy];exact l),if_neg]
  rintro(⟨q1,q2⟩ | ⟨⟨q1,q2⟩,q3⟩)
  ·have:=m.1;rw [decide_eq_true (xy.2 q1),decide_eq_true q2]at this;cases this
  ·have:=m.2
   rw [q1,q2,rx q1,ry q2,decide_eq_true (by omega)]at this;cases this
 ·rw [if_pos (by rw [←xy];exact l),if_pos]
  rcases m with⟨q1,q2⟩ | ⟨q1,_,q3⟩
  ·exact Or.inl ⟨xy.1 q1,q2⟩
  ·exact Or.inr ⟨q1,by omega⟩
 all_goals rw [if_neg (show¬(s.x=s.y∨(bK s.x).2=true∧(bK s.y).2=true) by
  rintro(q | ⟨q1,q2⟩)
  ·exact l.1 (xy.2 q)
  ·have:=l.2;rw [q1,q2]at this;cases this)]
 ·rw [if_pos m]
 ·rw [if_neg]
  rintro⟨a,b⟩;rw [decide_eq_true a,decide_eq_true b]at m;cases m
end Go.TX.F
namespace Go.TX.F
open Go Go.AE Go.TX
noncomputable def SW (t:List Atom) (b:Blk) (i:Nat):SS:=(b.ops.take i).foldl stp (s0 t)
structure At (t:List Atom) (b:Blk) (i:Nat) (ld inn:Int) (tb:List Atom) (V:List (List aj)) (ev:List Ev) (rg:List (List aj)):Prop where
 ld:ld=(SW t b i).ld
 inn:inn=(SW t b i).inn
 tb:tb=(SW t b i).t
 V:V=(SW t b i).vals++List.replicate (b.ops.length-i) []
 ev:ev=(SW t b i).evs
 rg:rg=(SW t b i).regs
theorem TF (t:List Atom):∀(l:List IOp) (s:SS),(l.foldl stp s).evs.length≤s.evs.length+l.length
 | [],s=>Nat.le_refl _
 | o::r,s=>by
  rw [List.foldl_cons,List.length_cons]
  have h1:=TF t r (stp s o)
  have h2:(stp s o).evs.length≤s.evs.length+1:=by
   show(nE s o).length≤_
   unfold nE;split
   ·rw [List.length_append];exact Nat.le_refl _
   ·omega
  omega
theorem afw {t:List Atom} {b:Blk} (i:Nat) (hi:i≤b.ops.length):(SW t b i).evs.length≤i:=by
 have:=TF t (b.ops.take i) (s0 t)
 rw [List.length_take,Nat.min_eq_left hi]at this
 show((b.ops.take i).foldl stp (s0 t)).evs.length≤i
 have e:(s0 t).evs.length=0:=rfl
 omega
theorem TG {t:List Atom} {b:Blk} {i:Nat} (hi:i<b.ops.length):SW t b (i+1)=stp (SW t b i) (b.ops.getD i default):=by
 unfold SW;rw [mg _ _ hi,getD_lt hi]
theorem At.next {t:List Atom} {b:Blk} {i:Nat} {ld inn:Int} {tb:List Atom} {V:List (List aj)} {ev:List Ev} {rg:List (List aj)} (h:At t b i ld inn tb V ev rg) (hv:(SW t b i).vals.length=i) (hi:i<b.ops.length) {o:IOp} (ho:b.ops.getD i default=o)
  {ld' akf:Int} {tb':List Atom} {V':List (List aj)} {ev':List Ev} {rg':List (List aj)} (h1:ld'=if o.kind=4 then ld+1 else ld) (h2:akf=if o.kind=6 then inn+1 else inn) (h3:tb'=nT (SW t b i) o) (h4:V'=V.set i (nV (SW t b i) o)) (h5:ev'=nE (SW t b i) o) (h6:rg'=nR (SW t b i) o):At t b (i+1) ld' akf tb' V' ev' rg':=by
 have e:=TG (t:=t) hi
 rw [ho]at e
 refine⟨?_,?_,?_,?_,?_,?_⟩<;>rw [e]
 ·rw [h1,h.ld];rfl
 ·rw [h2,h.inn];rfl
 ·exact h3
 ·rw [h4,h.V]
  show _=((SW t b i).vals++ [nV (SW t b i) o])++_
  rw [List.set_append_right _ _ (by omega),hv,Nat.sub_self,show b.ops.length-i=(b.ops.length- (i+1))+1 by omega,List.replicate_succ,List.set_cons_zero,List.append_assoc];rfl
 ·exact h5
 ·exact h6
end Go.TX.F
namespace Go.TX.F
open Go Go.AE Go.TX
theorem afx (i:Ins):PS (std 0) (i,()) (fun _=>True):=by
 dsimp only [PS,Alg.cl,Alg.cg,Alg.rb,Alg.bd,Alg.l1,Tup.q,Tup.o]
 simp (disch:=omega) only [RR]
theorem afy {p1:Int×Int×Int×Unit→Bool} {f1:Int×Int×Int×Unit→Bool×Unit} (hp1:∀a b c,p1 (a,b,c,())=true) (hf1:∀a b c,f1 (a,b,c,())=(inB a b c,())) {p2:Ins×Unit→Bool} {f2:Ins×Unit→Bool×Unit} (hp2:∀i,p2 (i,())=true) (i:Ins):PU (std 0) p1 f1 p2 f2 (i,()) (fun _=>True):=by
 dsimp only [PU,Alg.cl,Alg.cg,Alg.rb,Alg.bd,Alg.l1,Tup.q,Tup.o]
 simp (disch:=omega) only [RR,hp1,hp2]
theorem afz (i:Int):PW (std 0) (i,()) (fun _=>True):=by
 dsimp only [PW,Alg.cl,Alg.cg,Alg.rb,Alg.bd,Alg.l1,Tup.q,Tup.o]
theorem afA {p1:Int×Unit→Bool} {f1:Int×Unit→Bool×Unit} (hp1:∀i,p1 (i,())=true) {p2:Ins×Unit→Bool} {f2:Ins×Unit→Bool×Unit} (hp2:∀i,p2 (i,())=true) (i:Ins):PX (std 0) p1 f1 p2 f2 (i,()) (fun _=>True):=by
 dsimp only [PX,Alg.cl,Alg.cg,Alg.rb,Alg.bd,Alg.l1,Tup.q,Tup.o]
 simp (disch:=omega) only [RR,hp1,hp2]
theorem afB {p1:Int×Unit→Bool} {f1:Int×Unit→Bool×Unit} (hp1:∀i,p1 (i,())=true) {p2:Ins×Unit→Bool} {f2:Ins×Unit→Bool×Unit} (hp2:∀i,p2 (i,())=true) {p3:Int×Int×Int×Unit→Bool} {f3:Int×Int×Int×Unit→Bool×Unit} (hp3:∀a b c,p3 (a,b,c,())=true) (hf3:∀a b c,f3 (a,b,c,())=(inB a b c,())) {p4:Ins×Unit→Bool} {f4:Ins×Unit→Bool×Unit} (hp4:∀i,p4 (i,())=true) (pc:Int) (l:List Ins) (hl:(l.length:Int)<1000):Qb (std 0) p1 f1 p2 f2 p3 f3 p4 f4 (pc,l,()) (fun _=>True):=by
 dsimp only [Qb,Alg.cl,Alg.cg,Alg.rb,Alg.bd,Alg.l1,Tup.q,Tup.o]
 simp (disch:=omega) only [RR,hp1,hp2,hp3,hp4]
 refine fun _=> ?_
 refine ay (fun(y:List Ins×Int×Unit)=>y.1=l∧0≤y.2.1) (fun y=>((l.length:Int)-y.2.1).toNat) ⟨rfl,by simp⟩ ?_
 rintro⟨(l':List Ins),(j:Int),⟨⟩⟩ hI
 dsimp only at hI ⊢
 obtain⟨rfl,h1⟩:=hI
 simp (disch:=omega) only [RR,hp1,hp2,hp3,hp4,or_true]
 refine fun h=>⟨h1,h,by omega,by omega,by omega,by omega,fun _=> ?_⟩
 rw [w64 (by omega) (by omega)];constructor<;>omega
theorem XL (a1 a2 a3 a4 a5 a6:Int) (o:IOp) (ops:List IOp) (hl:(ops.length:Int)<1000000):Qc (std 0) (a1,a2,a3,a4,a5,a6,o,ops,()) (fun y=>(y.2.2.2.2.2.2.2.1.length:Int)=ops.length+1):=by
 dsimp only [Qc,Alg.cl,Alg.cg,Alg.rb,Alg.bd,Alg.l1,Tup.q,Tup.o]
 simp (disch:=omega) only [RR,List.length_append,List.length_cons,List.length_nil]
 omega
theorem XM {p1:Int×Int×Int×Int×Int×Int×IOp×List IOp×Unit→Bool} {f1:Int×Int×Int×Int×Int×Int×IOp×List IOp×Unit→Int×Int×Int×Int×Int×Int×Int×List IOp×Unit} (hp1:∀a1 a2 a3 a4 a5 a6 o ops,(ops.length:Int)<1000000→p1 (a1,a2,a3,a4,a5,a6,o,ops,())=true) (hf1:∀a1 a2 a3 a4 a5 a6 o ops,(ops.length:Int)<1000000→((f1 (a1,a2,a3,a4,a5,a6,o,ops,())).2.2.2.2.2.2.2.1.length:Int)=ops.length+1) (a1 a2 a3 a4 a5 a6:Int) (k:Int) (ops:List IOp) (hl:(ops.length:Int)<1000000):Qe (std 0) p1 f1 (a1,a2,a3,a4,a5,a6,k,ops,()) (fun y=>(y.2.2.2.2.2.2.2.1.length:Int)=ops.length+1):=by
 dsimp only [Qe,Alg.cl,Alg.cg,Alg.rb,Alg.bd,Alg.l1,Tup.q,Tup.o]
 simp (disch:=omega) only [RR,hp1,hf1]
theorem XO {p1:Int×Int×Int×Int×Int×Int×IOp×List IOp×Unit→Bool} {f1:Int×Int×Int×Int×Int×Int×IOp×List IOp×Unit→Int×Int×Int×Int×Int×Int×Int×List IOp×Unit} (hp1:∀a1 a2 a3 a4 a5 a6 o ops,(ops.length:Int)<1000000→p1 (a1,a2,a3,a4,a5,a6,o,ops,())=true) (hf1:∀a1 a2 a3 a4 a5 a6 o ops,(ops.length:Int)<1000000→((f1 (a1,a2,a3,a4,a5,a6,o,ops,())).2.2.2.2.2.2.2.1.length:Int)=ops.length+1) (a1 a2 a3 a4 a5 a6:Int) (k x:Int) (ops:List IOp) (hl:(ops.length:Int)<1000000):Qd (std 0) p1 f1 (a1,a2,a3,a4,a5,a6,k,x,ops,()) (fun y=>(y.2.2.2.2.2.2.1.length:Int)=ops.length+1):=by
 dsimp only [Qd,Alg.cl,Alg.cg,Alg.rb,Alg.bd,Alg.l1,Tup.q,Tup.o]
 simp (disch:=omega) only [RR,hp1,hf1]
theorem afC {p1:Int×Int×Int×Int×Int×Int×Int×List IOp×Unit→Bool} {f1:Int×Int×Int×Int×Int×Int×Int×List IOp×Unit→Int×Int×Int×Int×Int×Int×Int×List IOp×Unit} (hp1:∀a1 a2 a3 a4 a5 a6 k ops,(ops.length:Int)<1000000→p1 (a1,a2,a3,a4,a5,a6,k,ops,())=true) (hf1:∀a1 a2 a3 a4 a5 a6 k ops,(ops.length:Int)<1000000→((f1 (a1,a2,a3,a4,a5,a6,k,ops,())).2.2.2.2.2.2.2.1.length:Int)=ops.length+1) {p2:Int×Int×Int×Int×Int×Int×IOp×List IOp×Unit→Bool} {f2:Int×Int×Int×Int×Int×Int×IOp×List IOp×Unit→Int×Int×Int×Int×Int×Int×Int×List IOp×Unit} (hp2:∀a1 a2 a3 a4 a5 a6 o ops,(ops.length:Int)<1000000→p2 (a1,a2,a3,a4,a5,a6,o,ops,())=true) (hf2:∀a1 a2 a3 a4 a5 a6 o ops,(ops.length:Int)<1000000→((f2 (a1,a2,a3,a4,a5,a6,o,ops,())).2.2.2.2.2.2.2.1.length:Int)=ops.length+1) (a1 a2 a3 a4 a5 a6:Int) (k a:Int) (o:IOp) (ops:List IOp) (hl:(ops.length:Int)<999000):Qf (std 0) p1 f1 p2 f2 (a1,a2,a3,a4,a5,a6,k,a,o,ops,()) (fun y=>(y.2.2.2.2.2.2.2.1.length:Int)=ops.length+3):=by
 dsimp only [Qf,Alg.cl,Alg.cg,Alg.rb,Alg.bd,Alg.l1,Tup.q,Tup.o]
 simp (disch:=(first | omega | (simp (disch:=(first | omega | (simp (disch:=(first | omega | (simp (disch:=omega) only [hf1,hf2];omega))) only [hf1,hf2];omega))) only [hf1,hf2];omega))) only [RR,hp1,hp2,hf1,hf2]
 omega
theorem afD {p1:Int×Int×Int×Int×Int×Int×Int×List IOp×Unit→Bool} {f1:Int×Int×Int×Int×Int×Int×Int×List IOp×Unit→Int×Int×Int×Int×Int×Int×Int×List IOp×Unit} (hp1:∀a1 a2 a3 a4 a5 a6 k ops,(ops.length:Int)<1000000→p1 (a1,a2,a3,a4,a5,a6,k,ops,())=true) (hf1:∀a1 a2 a3 a4 a5 a6 k ops,(ops.length:Int)<1000000→((f1 (a1,a2,a3,a4,a5,a6,k,ops,())).2.2.2.2.2.2.2.1.length:Int)=ops.length+1) {p2:Int×Int×Int×Int×Int×Int×IOp×List IOp×Unit→Bool} {f2:Int×Int×Int×Int×Int×Int×IOp×List IOp×Unit→Int×Int×Int×Int×Int×Int×Int×List IOp×Unit} (hp2:∀a1 a2 a3 a4 a5 a6 o ops,(ops.length:Int)<1000000→p2 (a1,a2,a3,a4,a5,a6,o,ops,())=true) (hf2:∀a1 a2 a3 a4 a5 a6 o ops,(ops.length:Int)<1000000→((f2 (a1,a2,a3,a4,a5,a6,o,ops,())).2.2.2.2.2.2.2.1.length:Int)=ops.length+1) {p3:Int×Int×Int×Int×Int×Int×Int×Int×IOp×List IOp×Unit→Bool} {f3:Int×Int×Int×Int×Int×Int×Int×Int×IOp×List IOp×Unit→Int×Int×Int×Int×Int×Int×Int×List IOp×Unit} (hp3:∀a1 a2 a3 a4 a5 a6 k a o ops,(ops.length:Int)<999000→p3 (a1,a2,a3,a4,a5,a6,k,a,o,ops,())=true) (hf3:∀a1 a2 a3 a4 a5 a6 k a o ops,(ops.length:Int)<999000→((f3 (a1,a2,a3,a4,a5,a6,k,a,o,ops,())).2.2.2.2.2.2.2.1.length:Int)=ops.length+3) {p4:Int×Int×Int×Int×Int×Int×Int×Int×List IOp×Unit→Bool} {f4:Int×Int×Int×Int×Int×Int×Int×Int×List IOp×Unit→Int×Int×Int×Int×Int×Int×List IOp×Unit} (hp4:∀a1 a2 a3 a4 a5 a6 k x ops,(ops.length:Int)<1000000→p4 (a1,a2,a3,a4,a5,a6,k,x,ops,())=true) (hf4:∀a1 a2 a3 a4 a5 a6 k x ops,(ops.length:Int)<1000000→((f4 (a1,a2,a3,a4,a5,a6,k,x,ops,())).2.2.2.2.2.2.1.length:Int)=ops.length+1) (a1 a2 a3 a4 a5 a6:Int) (i:Ins) (k:Int) (ops:List IOp) (hl:(ops.length:Int)<998000):Qh (std 0) p1 f1 p2 f2 p3 f3 p4 f4 (a1,a2,a3,a4,a5,a6,i,k,ops,()) (fun y=>(y.2.2.2.2.2.2.1.length:Int)=ops.length+5):=by
 dsimp only [Qh,Alg.cl,Alg.cg,Alg.rb,Alg.bd,Alg.l1,Tup.q,Tup.o]
 simp (disch:=(first | omega | (simp (disch:=(first | omega | (simp (disch:=(first | omega | (simp (disch:=omega) only [hf1,hf2,hf3,hf4];omega))) only [hf1,hf2,hf3,hf4];omega))) only [hf1,hf2,hf3,hf4];omega))) only [RR,hp1,hp2,hp3,hp4,hf1,hf2,hf3,hf4]
 constructor<;>intro _<;>omega
theorem XP {p1:Int×Int×Int×Int×Int×Int×Int×List IOp×Unit→Bool} {f1:Int×Int×Int×Int×Int×Int×Int×List IOp×Unit→Int×Int×Int×Int×Int×Int×Int×List IOp×Unit} (hp1:∀a1 a2 a3 a4 a5 a6 k ops,(ops.length:Int)<1000000→p1 (a1,a2,a3,a4,a5,a6,k,ops,())=true) (hf1:∀a1 a2 a3 a4 a5 a6 k ops,(ops.length:Int)<1000000→((f1 (a1,a2,a3,a4,a5,a6,k,ops,())).2.2.2.2.2.2.2.1.length:Int)=ops.length+1) (a1 a2 a3 a4 a5 a6:Int) (i:Ins) (ops:List IOp) (hl:(ops.length:Int)<999000):Qi (std 0) p1 f1 (a1,a2,a3,a4,a5,a6,i,ops,()) (fun y=>(y.2.2.2.2.2.2.1.length:Int)≤ops.length+5):=by
 dsimp only [Qi,Alg.cl,Alg.cg,Alg.rb,Alg.bd,Alg.l1,Tup.q,Tup.o]
 simp (disch:=(first | omega | (simp (disch:=(first | omega | (simp (disch:=(first | omega | (simp (disch:=omega) only [hf1];omega))) only [hf1];omega))) only [hf1];omega))) only [RR,hp1,hf1]
 refine⟨fun _=>by omega,fun _=>⟨fun _=>by omega,fun _=>by omega⟩⟩
theorem afE (k:Int) (hk:k<1000):Qg (std 0) (k,()) (fun _=>True):=by
 dsimp only [Qg,Alg.cl,Alg.cg,Alg.rb,Alg.bd,Alg.l1,Tup.q,Tup.o]
 simp (disch:=omega) only [RR]
 refine ay (fun(y:Int×Int×Int×Unit)=>y.1=k∧0≤y.2.2.1) (fun y=>(k-y.2.2.1).toNat) ⟨rfl,by simp⟩ ?_
 rintro⟨(k':Int),(z:Int),(j:Int),⟨⟩⟩ hI
 dsimp only at hI ⊢
 obtain⟨rfl,h1⟩:=hI
 simp (disch:=omega) only [RR]
 refine fun h=> ?_
 rw [w64 (by omega) (by omega)];constructor<;>omega
theorem afF {p1:Int×Int×Int×Int×Int×Int×Int×List IOp×Unit→Bool} {f1:Int×Int×Int×Int×Int×Int×Int×List IOp×Unit→Int×Int×Int×Int×Int×Int×Int×List IOp×Unit} (hp1:∀a1 a2 a3 a4 a5 a6 k ops,(ops.length:Int)<1000000→p1 (a1,a2,a3,a4,a5,a6,k,ops,())=true) (hf1:∀a1 a2 a3 a4 a5 a6 k ops,(ops.length:Int)<1000000→((f1 (a1,a2,a3,a4,a5,a6,k,ops,())).2.2.2.2.2.2.2.1.length:Int)=ops.length+1) {p2:Int×Int×Int×Int×Int×Int×Ins×List IOp×Unit→Bool} {f2:Int×Int×Int×Int×Int×Int×Ins×List IOp×Unit→Int×Int×Int×Int×Int×Int×List IOp×Unit} (hp2:∀a1 a2 a3 a4 a5 a6 i ops,(ops.length:Int)<999000→p2 (a1,a2,a3,a4,a5,a6,i,ops,())=true) (hf2:∀a1 a2 a3 a4 a5 a6 i ops,(ops.length:Int)<999000→((f2 (a1,a2,a3,a4,a5,a6,i,ops,())).2.2.2.2.2.2.1.length:Int)≤ops.length+5) {p3:Int×Int×Int×Int×Int×Int×IOp×List IOp×Unit→Bool} {f3:Int×Int×Int×Int×Int×Int×IOp×List IOp×Unit→Int×Int×Int×Int×Int×Int×Int×List IOp×Unit} (hp3:∀a1 a2 a3 a4 a5 a6 o ops,(ops.length:Int)<1000000→p3 (a1,a2,a3,a4,a5,a6,o,ops,())=true) (hf3:∀a1 a2 a3 a4 a5 a6 o ops,(ops.length:Int)<1000000→((f3 (a1,a2,a3,a4,a5,a6,o,ops,())).2.2.2.2.2.2.2.1.length:Int)=ops.length+1) {p4:Int×Int×Int×Int×Int×Int×Ins×Int×List IOp×Unit→Bool} {f4:Int×Int×Int×Int×Int×Int×Ins×Int×List IOp×Unit→Int×Int×Int×Int×Int×Int×List IOp×Unit} (hp4:∀a1 a2 a3 a4 a5 a6 i k ops,(ops.length:Int)<998000→p4 (a1,a2,a3,a4,a5,a6,i,k,ops,())=true) (hf4:∀a1 a2 a3 a4 a5 a6 i k ops,(ops.length:Int)<998000→((f4 (a1,a2,a3,a4,a5,a6,i,k,ops,())).2.2.2.2.2.2.1.length:Int)=ops.length+5) {p5:Int×Int×Int×Int×Int×Int×Int×Int×IOp×List IOp×Unit→Bool} {f5:Int×Int×Int×Int×Int×Int×Int×Int×IOp×List IOp×Unit→Int×Int×Int×Int×Int×Int×Int×List IOp×Unit} (hp5:∀a1 a2 a3 a4 a5 a6 k a o ops,(ops.length:Int)<999000→p5 (a1,a2,a3,a4,a5,a6,k,a,o,ops,())=true) (hf5:∀a1 a2 a3 a4 a5 a6 k a o ops,(ops.length:Int)<999000→((f5 (a1,a2,a3,a4,a5,a6,k,a,o,ops,())).2.2.2.2.2.2.2.1.length:Int)=ops.length+3) {p6:Int×Int×Int×Int×Int×Int×Int×Int×List IOp×Unit→Bool} {f6:Int×Int×Int×Int×Int×Int×Int×Int×List IOp×Unit→Int×Int×Int×Int×Int×Int×List IOp×Unit} (hp6:∀a1 a2 a3 a4 a5 a6 k x ops,(ops.length:Int)<1000000→p6 (a1,a2,a3,a4,a5,a6,k,x,ops,())=true) (hf6:∀a1 a2 a3 a4 a5 a6 k x ops,(ops.length:Int)<1000000→((f6 (a1,a2,a3,a4,a5,a6,k,x,ops,())).2.2.2.2.2.2.1.length:Int)=ops.length+1) {p7:Int×Unit→Bool} {f7:Int×Unit→Int×Unit} (hp7:∀k,k<1000→p7 (k,())=true) (a1 a2 a3 a4 a5 a6:Int) (i:Ins) (k:Int) (ops:List IOp) (hk:i.k<1000) (hl:(ops.length:Int)<997000):Qj (std 0) p1 f1 p2 f2 p3 f3 p4 f4 p5 f5 p6 f6 p7 f7 (a1,a2,a3,a4,a5,a6,i,k,ops,()) (fun y=>(y.2.2.2.2.2.2.1.length:Int)≤ops.length+5):=by
 have e4:=fun i k=>hf4 a1 a2 a3 a4 a5 a6 i k ops (by omega)
 have e2:=fun i=>hf2 a1 a2 a3 a4 a5 a6 i ops (by omega)
 dsimp only [Qj,Alg.cl,Alg.cg,Alg.rb,Alg.bd,Alg.l1,Tup.q,Tup.o]
 simp (disch:=(first | omega | (simp (disch:=(first | omega | (simp (disch:=(first | omega | (simp (disch:=omega) only [hf1,hf3,hf5,RB];omega))) only [hf1,hf3,hf5,RB];omega))) only [hf1,hf3,hf5,RB];omega))) only [RR,RB,hp1,hp2,hp3,hp4,hp5,hp6,hp7,hf1,hf3,hf4,hf5,hf6]
 have:=e2 i
 repeat' (first | (refine⟨?_,?_⟩) | intro _)
 all_goals omega
def KB (l:List Ins):Prop:=∀i∈l,i.k<1000
theorem KB.at {l:List Ins} (h:KB l) (n:Nat):(l.getD n default).k<1000:=by
 by_cases h1:n<l.length
 ·rw [getD_lt h1];exact h _ (List.getElem_mem _)
 ·simp only [List.getD,List.getElem?_eq_none (by omega:l.length≤n)];decide
theorem afG {p1:Int×List Ins×Unit→Bool} {f1:Int×List Ins×Unit→Bool×Unit} (hp1:∀pc l,(l.length:Int)<1000→p1 (pc,l,())=true) {p2:Int×Int×Int×Int×Int×Int×Ins×Int×List IOp×Unit→Bool} {f2:Int×Int×Int×Int×Int×Int×Ins×Int×List IOp×Unit→Int×Int×Int×Int×Int×Int×List IOp×Unit} (hp2:∀a1 a2 a3 a4 a5 a6 i k ops,i.k<1000→(ops.length:Int)<997000→p2 (a1,a2,a3,a4,a5,a6,i,k,ops,())=true) (hf2:∀a1 a2 a3 a4 a5 a6 i k ops,i.k<1000→(ops.length:Int)<997000→((f2 (a1,a2,a3,a4,a5,a6,i,k,ops,())).2.2.2.2.2.2.1.length:Int)≤ops.length+5) (pc:Int) (l:List Ins) (hl:(l.length:Int)<1000) (hk:KB l):Qk (std 0) p1 f1 p2 f2 (pc,l,()) (fun y=>(y.2.2.2.2.2.2.1.length:Int)≤5000):=by
 dsimp only [Qk,Alg.cl,Alg.cg,Alg.rb,Alg.bd,Alg.l1,Tup.q,Tup.o]
 simp (disch:=omega) only [RR,hp1,List.length_nil]
 refine⟨fun _=>by omega,fun _=> ?_⟩
 refine ay (fun(y:List Ins×Int×Int×Int×Int×Int×Int×Int×Int×Int×Int×Int×Int×Int×List IOp×Unit)=>y.1=l∧0≤y.2.1∧y.2.1≤l.length∧(y.2.2.2.2.2.2.2.2.2.2.2.2.2.2.1.length:Int)≤5*y.2.1) (fun y=>((l.length:Int)-y.2.1).toNat) ⟨rfl,by simp,by simp,by simp⟩ ?_
 rintro⟨(l':List Ins),(j:Int),u1,u2,u3,u4,u5,u6,b1,b2,b3,b4,b5,b6,(ops:List IOp),⟨⟩⟩ hI
 dsimp only at hI ⊢
 obtain⟨rfl,h1,h2,h3⟩:=hI
 have hk':=hk.at j.toNat
 simp (disch:=omega) only [RR,hp2]
 refine⟨fun h=> ?_,fun h=>by omega⟩
 have:=hf2 b1 b2 b3 b4 b5 b6 ((l').getD (j).toNat default) j ops hk' (by omega)
 exact⟨h1,h,⟨by omega,by omega,by omega⟩,by omega⟩
end Go.TX.F
namespace Go.TX.F
open Go Go.AE Go.TX
structure InD (m:Int) (b:List Int) (p:Int) (y:Int×Int×Int×Int×List Int×Int×Unit):Prop where
 b:y.2.2.2.2.1=b
 lo:p≤y.2.2.2.2.2.1
 hi:y.2.2.2.2.2.1≤p+m
 k:0≤y.2.2.2.1∧y.2.2.2.1≤255
@[reducible] def afH : List Int → Prop
 | []=>True
 | x::l=>(0≤x∧x≤255)∧afH l
theorem MO:∀(l:List Int) (n:Nat),afH l→0≤l.getD n default∧l.getD n default≤255
 | [],n,_=>by simp only [List.getD_nil];decide
 | x::l,0,h=>h.1
 | x::l,n+1,h=>MO l n h.2
theorem pkR {f1:Int×List Int×Int×Unit→Int×List Int×Int×Unit} {b:List Int} (hb:Bt b) (hf1:∀n b p,Bt b→0≤p→p<1000000000→Pk n b p (f1 (n,b,p,()))):
  (∀n p,0≤p→p<1000000000→(f1 (n,b,p,())).2.1=b)∧(∀n p,0≤p→p<1000000000→(f1 (n,b,p,())).2.2.1=p+1)∧
  (∀n p,0≤p→p<1000000000→(0≤(f1 (n,b,p,())).1)=True)∧(∀n p k,0≤p→p<1000000000→n≤k→0<k→((f1 (n,b,p,())).1<k)=True)∧
  (∀n p k,0≤p→p<1000000000→n≤k+1→0≤k→((f1 (n,b,p,())).1≤k)=True):=
 ⟨fun n p h1 h2=>(hf1 n b p hb h1 h2).1,fun n p h1 h2=>(hf1 n b p hb h1 h2).2.1,fun n p h1 h2=>eq_true (hf1 n b p hb h1 h2).2.2.1,
  fun n p k h1 h2 h3 h4=>eq_true (by have:=(hf1 n b p hb h1 h2).2.2;omega),fun n p k h1 h2 h3 h4=>eq_true (by have:=(hf1 n b p hb h1 h2).2.2;omega)⟩
theorem afI {p1:Int×List Int×Int×Unit→Bool} {f1:Int×List Int×Int×Unit→Int×List Int×Int×Unit} (hp1:∀n b p,Bt b→0≤p→p<1000000000→p1 (n,b,p,())=true) (hf1:∀n b p,Bt b→0≤p→p<1000000000→Pk n b p (f1 (n,b,p,()))) (b:List Int) (p:Int) (hb:Bt b) (h1:0≤p) (h2:p<900000000):PO (std 0) p1 f1 (b,p,()) (fun y=>InD 20 b p y):=by
 have R:=pkR hb hf1
 have P:=fun n p h1 h2=>hp1 n b p hb h1 h2
 dsimp only [PO,Alg.cl,Alg.cg,Alg.rb,Alg.bd,Alg.l1,Tup.q,Tup.o]
 simp (disch:=omega) only [RR,R,P,List.length_cons,List.length_nil]
 repeat' (first | (refine⟨?_,?_⟩) | intro _)
 all_goals try omega
 all_goals refine⟨rfl,by dsimp only;omega,by dsimp only;omega,?_⟩
 all_goals dsimp only
 all_goals first | omega | (refine MO _ _ ?_;simp (disch:=omega) only [afH,R,Int.reduceLE,and_self,true_and,and_true]) | (simp (disch:=omega) only [R,Int.reduceLE,and_self,true_and,and_true])
theorem afJ {p1:List Int×Int×Unit→Bool} {f1:List Int×Int×Unit→Int×Int×Int×Int×List Int×Int×Unit} (hp1:∀b p,Bt b→0≤p→p<900000000→p1 (b,p,())=true) (hf1:∀b p,Bt b→0≤p→p<900000000→InD 20 b p (f1 (b,p,()))) {p2:Int×List Int×Int×Unit→Bool} {f2:Int×List Int×Int×Unit→Int×List Int×Int×Unit} (hp2:∀n b p,Bt b→0≤p→p<1000000000→p2 (n,b,p,())=true) (hf2:∀n b p,Bt b→0≤p→p<1000000000→Pk n b p (f2 (n,b,p,()))) {p3:Ins×Unit→Bool} {f3:Ins×Unit→Bool×Unit} (hp3:∀i,p3 (i,())=true) (b:List Int) (p:Int) (hb:Bt b) (h1:0≤p) (h2:p<800000000):P7 (std 0) p1 f1 p2 f2 p3 f3 (b,p,()) (fun y=>InD 30 b p y):=by
 obtain⟨a1,a2,a3,a4⟩:=hf1 b p hb h1 (by omega)
 have R:=pkR hb hf2
 have P:=fun n p h1 h2=>hp2 n b p hb h1 h2
 dsimp only [P7,Alg.cl,Alg.cg,Alg.rb,Alg.bd,Alg.l1,Tup.q,Tup.o]
 simp (disch:=omega) only [RR,hp1 b p hb h1 (by omega),hp3,a1,R,P]
 refine⟨fun _=>⟨rfl,by dsimp only;omega,by dsimp only;omega,?_⟩,fun _=>⟨rfl,a2,by dsimp only;omega,a4⟩⟩
 dsimp only
 simp (disch:=omega) only [R,Int.reduceLE,and_self]
structure LiD (b:List Int) (p:Int) (y:List Int×Int×List Ins×Unit):Prop where
 b:y.1=b
 lo:p≤y.2.1
 hi:y.2.1≤p+1000
 len:(y.2.2.1.length:Int)≤20
 k:KB y.2.2.1
theorem KB.app {l:List Ins} {i:Ins} (h:KB l) (h2:i.k≤255):KB (l++ [i]):=fun x hx=>by
 rw [List.mem_append,List.mem_singleton]at hx
 rcases hx with hx | rfl
 ·exact h x hx
 ·omega
theorem afK {p1:List Int×Int×Unit→Bool} {f1:List Int×Int×Unit→Int×Int×Int×Int×List Int×Int×Unit} (hp1:∀b p,Bt b→0≤p→p<800000000→p1 (b,p,())=true) (hf1:∀b p,Bt b→0≤p→p<800000000→InD 30 b p (f1 (b,p,()))) {p2:Int×List Int×Int×Unit→Bool} {f2:Int×List Int×Int×Unit→Int×List Int×Int×Unit} (hp2:∀n b p,Bt b→0≤p→p<1000000000→p2 (n,b,p,())=true) (hf2:∀n b p,Bt b→0≤p→p<1000000000→Pk n b p (f2 (n,b,p,()))) (b:List Int) (p:Int) (hb:Bt b) (h1:0≤p) (h2:p<700000000):Qa (std 0) p1 f1 p2 f2 (b,p,()) (fun y=>LiD b p y):=by
 obtain⟨e1,e2,e3,e4⟩:=hf2 8 b p hb h1 (by omega)
 dsimp only [Qa,Alg.cl,Alg.cg,Alg.rb,Alg.bd,Alg.l1,Tup.q,Tup.o]
 simp (disch:=omega) only [RR,hp2 8 b p hb h1 (by omega),e1,e2]
 refine ay (fun(y:Int×List Int×Int×List Ins×Unit)=>0≤y.1∧y.1≤8∧y.2.1=b∧p≤y.2.2.1∧y.2.2.1+40*y.1≤p+400∧(y.2.2.2.1.length:Int)+y.1≤8∧KB y.2.2.2.1) (fun y=>y.1.toNat)
  ⟨e3,by dsimp only;omega,rfl,by dsimp only;omega,by dsimp only;omega,by dsimp only [List.length_nil];omega,fun x hx=>by cases hx⟩ ?_
 rintro⟨(k:Int),(b':List Int),(q:Int),(l:List Ins),⟨⟩⟩ hI
 dsimp only at hI ⊢
 obtain⟨k1,k2,rfl,k3,k4,k5,k6⟩:=hI
 have R:=pkR hb hf2
 have P:=fun n p h1 h2=>hp2 n b' p hb h1 h2
 obtain⟨a1,a2,a3,a4⟩:=hf1 b' q hb (by omega) (by omega)
 obtain⟨b1,b2,b3,b4⟩:=hf1 b' (q+1) hb (by omega) (by omega)
 simp (disch:=omega) only [RR,RB,hp1 b' q hb (by omega) (by omega),hp1 b' (q+1) hb (by omega) (by omega),a1,b1,R,P,List.length_cons,List.length_nil,List.length_append]
 refine⟨fun c=>⟨by omega,⟨by omega,by omega,by omega,by omega,by omega,k6.app a4.2⟩,by omega⟩,fun c=>⟨fun _=>⟨by omega,rfl,by dsimp only;omega,by dsimp only;omega,?_,?_⟩,fun _=>⟨fun _=>⟨by omega,rfl,by dsimp only;omega,by dsimp only;omega,?_,?_⟩,fun _=>⟨by omega,rfl,by dsimp only;omega,by dsimp only;omega,?_,?_⟩⟩⟩⟩
 ·dsimp only;rw [List.length_append];simp only [List.length_cons,List.length_nil];omega
 ·refine k6.app ?_
  dsimp only
  simp (disch:=omega) only [R]
 ·dsimp only;rw [List.length_append];simp only [List.length_cons,List.length_nil];omega
 ·exact k6.app (by dsimp only;omega)
 ·dsimp only;rw [List.length_append];simp only [List.length_cons,List.length_nil];omega
 ·exact k6.app b4.2
end Go.TX.F
namespace Go.TX.F
open Go Go.AE Go.TX
theorem XQ (b:Blk) (hb:b.ops.length<1000000):Ql (std 0) (b,()) (fun y=>y=(b.pc,b.len,b.fin,b.x,b.y,b.k,b.ops,())):=by
 dsimp only [Ql,Alg.cl,Alg.cg,Alg.rb,Alg.bd,Alg.l1,Tup.q,Tup.o]
 simp (disch:=omega) only [RR,RB,List.nil_append,List.length_nil]
 omega
def kn (ops:List IOp) (k:Int):Int×Bool:=if 0≤k∧k<ops.length∧(((ops).getD (k).toNat default)).kind=1 then((((ops).getD (k).toNat default)).k,true)else(0,false)
@[reducible] def bk7 (b : Blk) : Int × Int × Int × Int × Int × Int × List IOp × Unit := (b.pc, b.len, b.fin, b.x, b.y, b.k, b.ops, ())
structure FE (b:Blk):Prop where
 f:1≤b.fin∧b.fin≤4
 x:b.fin≠1→0≤b.x∧b.x<b.ops.length
 y:3≤b.fin→0≤b.y∧b.y<b.ops.length
 y0:b.fin≤2→b.y=0
 p:0≤b.pc∧b.pc≤100∧0≤b.len∧b.len≤100
theorem XR (ops:List IOp) (k:Int):Qz (std 0) (ops,k,()) (fun y=>y=((kn ops k).1,(kn ops k).2,())):=by
 dsimp only [Qz,Alg.cl,Alg.cg,Alg.rb,Alg.bd,Alg.l1,Tup.q,Tup.o]
 simp (disch:=omega) only [RR,RB]
 unfold kn
 refine⟨by omega,by omega,fun h=> ?_,fun h=>⟨by omega,by omega,?_⟩⟩
 ·rw [if_neg (by omega)]
 ·rw [if_pos (by omega)]
theorem XU (b:Blk) (k:Int):QA (std 0) (b,k,()) (fun y=>y=(b.pc,b.len,b.ops,1,0,0,k,())):=by
 dsimp only [QA,Alg.cl,Alg.cg,Alg.rb,Alg.bd,Alg.l1,Tup.q,Tup.o]
 simp (disch:=omega) only [RR,RB]
theorem afL {p1:Blk×Int×Unit→Bool} {f1:Blk×Int×Unit→Int×Int×List IOp×Int×Int×Int×Int×Unit} (hp1:∀b k,p1 (b,k,())=true) (hf1:∀b k,f1 (b,k,())=(b.pc,b.len,b.ops,1,0,0,k,())) {p2:List IOp×Int×Unit→Bool} {f2:List IOp×Int×Unit→Int×Bool×Unit} (hp2:∀ops k,p2 (ops,k,())=true) (hf2:∀ops k,f2 (ops,k,())=((kn ops k).1,(kn ops k).2,())) (b:Blk) (h:FE b):QB (std 0) p1 f1 p2 f2 (b,()) (fun y=>y=(fcB b b.ops,())):=by
 have hp:=h.p
 have hf:=h.f
 have k1:b.fin≠1→kn b.ops b.x=if(((b.ops).getD (b.x).toNat default)).kind=1 then((((b.ops).getD (b.x).toNat default)).k,true)else(0,false):=fun c=>by
  have:=h.x c
  unfold kn;simp only [this,true_and]
 have k2:3≤b.fin→kn b.ops b.y=if(((b.ops).getD (b.y).toNat default)).kind=1 then((((b.ops).getD (b.y).toNat default)).k,true)else(0,false):=fun c=>by
  have:=h.y c
  unfold kn;simp only [this,true_and]
 have y0:=h.y0
 have mkE:∀p l o f x y k,Co.mk .blk (p,l,o,f,x,y,k,())=Blk.mk p l o f x y k:=fun _ _ _ _ _ _ _=>rfl
 dsimp only [QB,Alg.cl,Alg.cg,Alg.rb,Alg.bd,Alg.l1,Tup.q,Tup.o]
 simp (disch:=omega) only [RR,RB,hp1,hf1,hp2,hf2,mkE,Bool.and_eq_false_iff]
 by_cases c1:b.fin=1
 ·have e:fcB b b.ops=b:=by unfold fcB;rw [if_neg (by omega),if_neg (by omega)]
  rw [e]
  refine⟨fun h=>absurd h.1 (by omega),fun _=>⟨fun h=>absurd h.1.1.1 (by omega),fun _=>⟨fun h=>absurd h.1.1.1 (by omega),fun _=>⟨fun h=>absurd h.1.1 (by omega),fun _=>rfl⟩⟩⟩⟩
 ·rw [k1 c1]
  by_cases c2:b.fin=2
  ·by_cases d:(((b.ops).getD (b.x).toNat default)).kind=1
   ·have e:fcB b b.ops=⟨b.pc,b.len,b.ops,1,0,0,(((b.ops).getD (b.x).toNat default)).k⟩:=by unfold fcB;rw [if_pos ⟨c2,d⟩,y0 (by omega)]
    rw [if_pos d,e]
    refine⟨fun _=>rfl,fun h=> ?_⟩
    rcases h with h | h
    ·exact absurd c2 h
    ·cases h
   ·have e:fcB b b.ops=b:=by unfold fcB;rw [if_neg (fun g=>d g.2),if_neg (by omega)]
    rw [if_neg d,e]
    refine⟨fun h=>absurd h.2 (by decide),fun _=>⟨fun h=>absurd h.1.1.1 (by omega),fun _=>⟨fun h=>absurd h.1.1.1 (by omega),fun _=>⟨fun h=>absurd h.1.1 (by omega),fun _=>rfl⟩⟩⟩⟩
  ·rw [k2 (by omega)]
   refine⟨fun h=>absurd h.1 c2,fun _=> ?_⟩
   by_cases d:(((b.ops).getD (b.x).toNat default)).kind=1∧(((b.ops).getD (b.y).toNat default)).kind=1
   ·have e:fcB b b.ops=⟨b.pc,b.len,b.ops,1,0,0,if b.fin=3∧(((b.ops).getD (b.x).toNat default)).k=(((b.ops).getD (b.y).toNat default)).k∨b.fin=4∧(((b.ops).getD (b.x).toNat default)).k< (((b.ops).getD (b.y).toNat default)).k then b.k else b.pc+b.len⟩:=by
     unfold fcB;rw [if_neg (by omega),if_pos ⟨by omega,d⟩]
    rw [if_pos d.1,if_pos d.2,e]
    dsimp only
    simp only [and_true,Bool.true_eq_false,or_false,Prod.mk.injEq,Blk.mk.injEq,true_and]
    refine⟨fun h=>⟨fun _=>by rw [if_pos (Or.inl h)],fun g=>by omega⟩,fun h=>⟨fun g=>by rw [if_pos (Or.inr g)],fun g=>⟨fun _=>by rw [if_neg (by omega)],fun q=>by omega⟩⟩⟩
   ·have e:fcB b b.ops=b:=by unfold fcB;rw [if_neg (by omega),if_neg (fun g=>d g.2)]
    rw [e]
    have n:¬((if(((b.ops).getD (b.x).toNat default)).kind=1 then((((b.ops).getD (b.x).toNat default)).k,true)else((0:Int),false)).2=true∧(if(((b.ops).getD (b.y).toNat default)).kind=1 then((((b.ops).getD (b.y).toNat default)).k,true)else((0:Int),false)).2=true):=fun⟨g1,g2⟩=>by
     split at g1
     ·split at g2
      ·exact d ⟨by assumption,by assumption⟩
      ·cases g2
     ·cases g1
    exact⟨fun h=>absurd ⟨h.1.1.2,h.1.2⟩ n,fun _=>⟨fun h=>absurd ⟨h.1.1.2,h.1.2⟩ n,fun _=>⟨fun h=>absurd ⟨h.1.2,h.2⟩ n,fun _=>rfl⟩⟩⟩
theorem XV {p1:Int×Int×Int×Unit→Bool} {f1:Int×Int×Int×Unit→Bool×Unit} (hp1:∀a b c,p1 (a,b,c,())=true) (hf1:∀a b c,f1 (a,b,c,())=(inB a b c,())) (o:IOp) (al:List Int) (hk:1≤o.kind∧o.kind≤8) (hx:hX o→0≤o.x∧o.x< (al.length:Int)) (hy:hY o→0≤o.y∧o.y< (al.length:Int)):Qm (std 0) p1 f1 (o,al,()) (fun y=>y=(ren al o,())):=by
 dsimp only [Qm,Alg.cl,Alg.cg,Alg.rb,Alg.bd,Alg.l1,Tup.q,Tup.o]
 simp (disch:=omega) only [RR,RB,hp1,hf1,fC,vV]
 have X:((3≤o.kind∧o.kind≤5)∨o.kind=7)∨o.kind=8→hX o:=fun c=>by unfold hX;omega
 have Xn:(¬(3≤o.kind∧o.kind≤5)∧¬o.kind=7)∧¬o.kind=8→¬hX o:=fun c g=>by unfold hX at g;omega
 unfold ren
 refine⟨fun c=>⟨(hx (X c)).1,(hx (X c)).2,fun d=>⟨(hy d).1,(hy d).2,?_⟩,fun d=> ?_⟩,fun c=>⟨fun d=>⟨(hy d).1,(hy d).2,?_⟩,fun d=> ?_⟩⟩
 ·rw [if_pos (X c),if_pos (show hY o from d)]
 ·rw [if_pos (X c),if_neg (show¬hY o from fun g=>g.elim d.1 d.2)]
 ·rw [if_neg (Xn c),if_pos (show hY o from d)]
 ·rw [if_neg (Xn c),if_neg (show¬hY o from fun g=>g.elim d.1 d.2)]
theorem XW (ops:List IOp) (k:Int) (h0:0≤k) (h1:k<ops.length) (h2:(ops.length:Int)<1000000):Qx (std 0) (ops,k,()) (fun y=>y=(pF (ops.drop (k.toNat+1)) (((ops).getD (k).toNat default)).k,())):=by
 dsimp only [Qx,Alg.cl,Alg.cg,Alg.rb,Alg.bd,Alg.l1,Tup.q,Tup.o]
 simp (disch:=omega) only [RR,RB]
 refine ay (fun(y:List IOp×Int×Int×Unit)=>y.1=ops∧y.2.1=k∧0≤y.2.2.1∧y.2.2.1≤ops.length∧pF (ops.drop (k.toNat+1)) (((ops).getD (k).toNat default)).k=pF (ops.drop y.2.2.1.toNat) (((ops).getD (k).toNat default)).k) (fun y=>((ops.length:Int)-y.2.2.1).toNat) ⟨rfl,rfl,by dsimp only;omega,by dsimp only;omega,by dsimp only;rw [show(k+1).toNat=k.toNat+1 by omega]⟩ ?_
 rintro⟨(l:List IOp),(k':Int),(j:Int),⟨⟩⟩ hI
 dsimp only at hI ⊢
 obtain⟨rfl,rfl,h3,h4,h5⟩:=hI
 rw [h5]
 simp (disch:=omega) only [RR,RB,Bool.and_eq_false_iff]
 have st:j<l.length→pF (l.drop j.toNat) (((l).getD (k').toNat default)).k=if(((l).getD (j).toNat default)).kind=4∨(((l).getD (j).toNat default)).kind=5∨(((l).getD (j).toNat default)).kind=2∧(((l).getD (j).toNat default)).k=(((l).getD (k').toNat default)).k then false else if(((l).getD (j).toNat default)).kind=8∧(((l).getD (j).toNat default)).k=(((l).getD (k').toNat default)).k then true else pF (l.drop (j+1).toNat) (((l).getD (k').toNat default)).k:=fun h=>by
  rw [List.drop_eq_getElem_cons (show j.toNat<l.length by omega),Q0,←getD_lt (d:=default) (show j.toNat<l.length by omega),show(j+1).toNat=j.toNat+1 by omega]
 refine⟨fun h=>⟨h3,h,by omega,by omega,by omega,by omega,by omega,by omega,by omega,by omega,fun c=> ?_,fun c=>⟨h3,h,by omega,by omega,by omega,by omega,fun d=> ?_,fun d=>⟨⟨by omega,by omega,?_⟩,by omega⟩⟩⟩,fun h=> ?_⟩
 ·rw [st h,if_pos (by omega)]
 ·rw [st h,if_neg (by omega),if_pos (by omega)]
 ·rw [st h,if_neg (by omega),if_neg (by omega)]
 ·rw [List.drop_of_length_le (by omega)];rfl
theorem afM {p1:Blk×Unit→Bool} {f1:Blk×Unit→Blk×Unit} (hp1:∀b,b.ops.length<1000000→p1 (b,())=true) (hf1:∀b,b.ops.length<1000000→f1 (b,())=(eH b,())) {p2:Blk×Unit→Bool} {f2:Blk×Unit→Int×Int×Int×Int×Int×Int×List IOp×Unit} (hp2:∀b,b.ops.length<1000000→p2 (b,())=true) (hf2:∀b,b.ops.length<1000000→f2 (b,())=bk7 (dx b)) {p3:Blk×Unit→Bool} {f3:Blk×Unit→Int×Int×Int×Int×Int×Int×List IOp×Unit} (hp3:∀b,b.ops.length<1000000→p3 (b,())=true) (hf3:∀b,b.ops.length<1000000→f3 (b,())=bk7 (mM b)) {p4:Blk×Unit→Bool} {f4:Blk×Unit→Int×Int×Int×Int×Int×Int×List IOp×Unit} (hp4:∀b,b.ops.length<1000000→p4 (b,())=true) (hf4:∀b,b.ops.length<1000000→f4 (b,())=bk7 (u7 b)) (b:Blk) (hb:b.ops.length<1000000):QF (std 0) p1 f1 p2 f2 p3 f3 p4 f4 (b,()) (fun y=>y=bk7 (Q5 b)):=by
 have m1:(dx b).ops.length<1000000:=Nat.lt_of_le_of_lt (xJ b) hb
 have m2:=Nat.lt_of_le_of_lt (AZ (dx b)) m1
 have m3:=Nat.lt_of_le_of_lt (xI (eH (dx b))) m2
 have m4:=Nat.lt_of_le_of_lt (F4 (mM (eH (dx b)))) m3
 have mkE:∀c:Blk,Co.mk .blk (c.pc,c.len,c.ops,c.fin,c.x,c.y,c.k,())=c:=fun _=>rfl
 dsimp only [QF,Alg.cl,Alg.cg,Alg.rb,Alg.bd,Alg.l1,Tup.q,Tup.o]
 simp (disch:=omega) only [RR,hp2 b hb,hf2 b hb,mkE,hp1 _ m1,hf1 _ m1,hp3 _ m2,hf3 _ m2,hp4 _ m3,hf4 _ m3,hp3 _ m4,hf3 _ m4]
 rfl
theorem XY {α:Type} {d:α} {f l:List α} {k:Nat} (hf:f.length=k) (h:k<l.length):(f++l.drop k).getD k d=l.getD k d:=by
 rw [getD_lt (by rw [List.length_append,List.length_drop];omega),getD_lt h,List.getElem_append_right (by omega),List.getElem_drop]
 simp only [hf,Nat.sub_self,Nat.add_zero]
theorem afN {α:Type} {d:α} {f l:List α} {k j:Nat} (hf:f.length=k) (h:j<k):(f++l.drop k).getD j d=f.getD j d:=by
 rw [getD_lt (by rw [List.length_append];omega),getD_lt (by omega),List.getElem_append_left]
theorem TH {α:Type} {x:α} {f l:List α} {k:Nat} (hf:f.length=k) (h:k<l.length):(f++l.drop k).set k x=(f++ [x])++l.drop (k+1):=by
 rw [List.set_append_right _ _ (by omega),hf,Nat.sub_self,List.drop_eq_getElem_cons h,List.set_cons_zero,List.append_assoc];rfl
theorem XZ {α:Type} {d:α} {f l:List α} {k:Nat} (h:k<l.length):f++l.drop k=(f++ [l.getD k d])++l.drop (k+1):=by
 rw [List.drop_eq_getElem_cons h,getD_lt h,List.append_assoc];rfl
theorem TI {α:Type} {f l:List α} {k:Nat} (hf:f.length=k) (h:k≤l.length):(f++l.drop k).length=l.length:=by
 rw [List.length_append,hf,List.length_drop];omega
theorem eF.fe {b:Blk} (ok:eF b) {f:List IOp} (h:f.length=b.ops.length):FE ⟨b.pc,b.len,f,b.fin,b.x,b.y,b.k⟩:=by
 have en:=ok.en
 have hp:=ok.pc
 have hl:=ok.ln
 exact⟨en.f,fun c=>⟨(en.x1 c).1,by dsimp only;rw [h];exact(en.x1 c).2.1⟩,fun c=>⟨(en.y1 c).1,by dsimp only;rw [h];exact(en.y1 c).2.1⟩,en.y0,by dsimp only;omega⟩
theorem afO {p1:Blk×Unit→Bool} {f1:Blk×Unit→Bool×Unit} (hp1:∀b,b.ops.length<1000000000→p1 (b,())=true) (hf1:∀b,b.ops.length<1000000000→f1 (b,())=(bp (eF b),())) {p2:Int×Int×Int×Unit→Bool} {f2:Int×Int×Int×Unit→Int×Unit} (hp2:∀op a b,p2 (op,a,b,())=true) (hf2:∀op a b,f2 (op,a,b,())=(wdo op a b,())) {p3:Blk×Unit→Bool} {f3:Blk×Unit→Blk×Unit} (hp3:∀b,FE b→p3 (b,())=true) (hf3:∀b,FE b→f3 (b,())=(fcB b b.ops,())) {p4:List IOp×Int×Unit→Bool} {f4:List IOp×Int×Unit→Int×Bool×Unit} (hp4:∀ops k,p4 (ops,k,())=true) (hf4:∀ops k,f4 (ops,k,())=((kn ops k).1,(kn ops k).2,())) {p5:Blk×Unit→Bool} {f5:Blk×Unit→Int×Int×Int×Int×Int×Int×List IOp×Unit} (hp5:∀b,b.ops.length<1000000→p5 (b,())=true) (hf5:∀b,b.ops.length<1000000→f5 (b,())=(b.pc,b.len,b.fin,b.x,b.y,b.k,b.ops,())) (b:Blk) (hb:b.ops.length<1000000):QE (std 0) p1 f1 p2 f2 p3 f3 p4 f4 p5 f5 (b,()) (fun y=>y=(eH b,())):=by
 have mkE:∀p l o f x y k,Co.mk .blk (p,l,o,f,x,y,k,())=Blk.mk p l o f x y k:=fun _ _ _ _ _ _ _=>rfl
 dsimp only [QE,Alg.cl,Alg.cg,Alg.rb,Alg.bd,Alg.l1,Tup.q,Tup.o]
 simp (disch:=omega) only [RR,RB,hp1 b (by omega),hf1 b (by omega),hp5 b hb,hf5 b hb,mkE]
 refine⟨fun h=>by unfold eH;rw [h,if_neg (by decide)];rfl,fun h=> ?_⟩
 have ok:=bO.1 h
 rw [Jw ok]
 refine ay (fun(y:Int×Int×Int×Int×Int×Int×Int×Int×Int×Int×Int×Int×Int×List IOp×Unit)=>0≤y.1∧y.1≤b.ops.length∧y.2.2.2.2.2.2.2=(b.pc,b.len,b.fin,b.x,b.y,b.k,fc b.ops y.1.toNat++b.ops.drop y.1.toNat,())) (fun y=>((b.ops.length:Int)-y.1).toNat) ⟨by dsimp only;omega,by dsimp only;omega,rfl⟩ ?_
 rintro⟨(k:Int),u1,u2,u3,u4,u5,u6,b1,b2,b3,b4,b5,b6,(ops:List IOp),⟨⟩⟩ hI
 dsimp only at hI ⊢
 simp only [Prod.mk.injEq,and_true]at hI
 obtain⟨h1,h2,rfl,rfl,rfl,rfl,rfl,rfl,rfl⟩:=hI
 have fl:=oF b.ops k.toNat
 have ln:=TI (l:=b.ops) fl (by omega)
 simp (disch:=omega) only [RR,RB,hp4,hf4,hp2,hf2,ln,mkE]
 refine⟨fun h=> ?_,fun h=> ?_⟩
 ·have o:=ok.op k h1 h
  have ek:=XY (d:=default) (l:=b.ops) fl (by omega)
  have kv:∀x:Int,Vl b.ops x k→kn (fc b.ops k.toNat++b.ops.drop k.toNat) x=if((((fc b.ops k.toNat)).getD (x).toNat default)).kind=1 then(((((fc b.ops k.toNat)).getD (x).toNat default)).k,true)else(0,false):=fun x v=>by
   have v0:=v.1
   have v1:=v.2.1
   unfold kn
   rw [afN fl (by omega)]
   simp only [show 0≤x∧x< ((fc b.ops k.toNat++b.ops.drop k.toNat).length:Int)from⟨v0,by omega⟩,true_and]
  have nx:fc b.ops (k+1).toNat=fc b.ops k.toNat++ [fcO (fc b.ops k.toNat) ((b.ops).getD (k).toNat default)]:=by rw [show(k+1).toNat=k.toNat+1 by omega];rfl
  rw [ek]
  have hk:=XZ (d:=default) (f:=fc b.ops k.toNat) (l:=b.ops) (k:=k.toNat) (by omega)
  have hs:=fun x=>TH (x:=x) (l:=b.ops) fl (by omega)
  rw [nx,show(k+1).toNat=k.toNat+1 by omega]
  generalize ((b.ops).getD (k).toNat default)=q at o hk ⊢
  have vx:=fun c=>o.x1 c
  have vy:=fun c=>o.y1 c
  refine⟨h1,h,h1,h,fun c=>⟨h1,h,h1,h,⟨by omega,by omega,?_⟩,by omega⟩,fun c=>⟨⟨by omega,by omega,?_⟩,by omega⟩⟩
  ·have k1:=kv _ (o.x1 (by unfold hX;omega))
   have k2:=kv _ (o.y1 (Or.inl c.1.1))
   rw [k1,k2]at c ⊢
   by_cases d1:((((fc b.ops k.toNat)).getD (q.x).toNat default)).kind=1
   ·by_cases d2:((((fc b.ops k.toNat)).getD (q.y).toNat default)).kind=1
    ·rw [if_pos d1,if_pos d2,hs]
     have e:fcO (fc b.ops k.toNat) q=⟨1,0,0,wdo q.k ((((fc b.ops k.toNat)).getD (q.x).toNat default)).k ((((fc b.ops k.toNat)).getD (q.y).toNat default)).k,0⟩:=by unfold fcO;rw [if_pos ⟨c.1.1,d1,d2⟩]
     rw [e]
    ·rw [if_neg d2]at c;exact absurd c.2 (by decide)
   ·rw [if_neg d1]at c;exact absurd c.1.2 (by decide)
  ·have e:fcO (fc b.ops k.toNat) q=q:=by
    unfold fcO
    refine if_neg ?_
    rintro⟨d0,d1,d2⟩
    rw [kv _ (o.x1 (by unfold hX;omega)),kv _ (o.y1 (Or.inl d0)),if_pos d1,if_pos d2,decide_eq_true d0]at c
    cases c
   rw [e,hk]
 ·have e:fc b.ops k.toNat++b.ops.drop k.toNat=fc b.ops b.ops.length:=by rw [List.drop_of_length_le (by omega),List.append_nil,show k.toNat=b.ops.length by omega]
  rw [e]
  have fe:=ok.fe (oF b.ops b.ops.length)
  rw [hf3 _ fe]
  exact⟨hp3 _ fe,rfl⟩
theorem X0 {a b:List Bool} (h:a.length=b.length) (g:∀t:Nat,t<a.length→(a.getD t default=true↔b.getD t default=true)):a=b:=by
 refine List.ext_getElem h fun i h1 h2=> ?_
 have:=g i h1
 rw [getD_lt h1,getD_lt h2]at this
 exact Bool.eq_iff_iff.2 this
theorem afP {p1:Blk×Unit→Bool} {f1:Blk×Unit→Bool×Unit} (hp1:∀b,b.ops.length<1000000000→p1 (b,())=true) (hf1:∀b,b.ops.length<1000000000→f1 (b,())=(bp (eF b),())) {p2:Int×Int×Int×Unit→Bool} {f2:Int×Int×Int×Unit→Bool×Unit} (hp2:∀a b c,p2 (a,b,c,())=true) (hf2:∀a b c,f2 (a,b,c,())=(inB a b c,())) (b:Blk) (hb:b.ops.length<1000000):Qt (std 0) p1 f1 p2 f2 (b,()) (fun y=>y=(BD b,())):=by
 dsimp only [Qt,Alg.cl,Alg.cg,Alg.rb,Alg.bd,Alg.l1,Tup.q,Tup.o]
 simp (disch:=omega) only [RR,RB,hp1 b (by omega),hf1 b (by omega)]
 unfold BD
 refine⟨fun h=>by rw [h,if_neg (by decide)],fun h=> ?_⟩
 rw [if_pos h]
 have ok:=bO.1 h
 have n48:=ok.sz
 have en:=ok.en
 refine ay (fun(y:Int×Blk×List Bool×Unit)=>0≤y.1∧y.1≤b.ops.length∧y.2.1=b∧(y.2.2.1.length:Int)=y.1∧∀t:Nat,t<y.2.2.1.length→(y.2.2.1.getD t default=true↔4≤(b.ops.getD t default).kind)) (fun y=>((b.ops.length:Int)-y.1).toNat) ⟨by dsimp only;omega,by dsimp only;omega,rfl,rfl,fun t h=>absurd h (by simp)⟩ ?_
 rintro⟨(k:Int),(b':Blk),(kp:List Bool),⟨⟩⟩ hI
 dsimp only at hI ⊢
 obtain⟨h1,h2,rfl,h3,h4⟩:=hI
 simp (disch:=omega) only [RR,RB,List.length_append,List.length_cons,List.length_nil]
 refine⟨fun h=>⟨h1,h,by omega,⟨by omega,by omega,by omega,fun t ht=> ?_⟩,by omega⟩,fun h=> ?_⟩
 ·rw [iI]
  rcases(by omega:t<kp.length∨t=kp.length)with c | c
  ·rw [if_pos c];exact h4 t c
  ·rw [if_neg (by omega),if_pos c,decide_eq_true_eq,c,show k.toNat=kp.length by omega]
 have ex:¬b'.fin=1→0≤b'.x∧b'.x<kp.length:=fun c=>by have:=ok.en.x1 c;exact⟨this.1,by have:=this.2.1;omega⟩
 have ey:b'.fin=3∨b'.fin=4→0≤b'.y∧b'.y<kp.length:=fun c=>by have:=ok.en.y1 (by omega);exact⟨this.1,by have:=this.2.1;omega⟩
 have ff:=en.f
 have u0:=TB ok
 have kl:kp.length=b'.ops.length:=by omega
 rw [kl]at h4
 refine⟨fun c=>⟨(ex c).1,(ex c).2,(ex c).1,(ex c).2,fun c2=>⟨(ey c2).1,by rw [List.length_set];exact(ey c2).2,(ey c2).1,by rw [List.length_set];exact(ey c2).2,?_⟩,fun c2=> ?_⟩,fun c=>⟨fun c2=>absurd c2 (by omega),fun c2=> ?_⟩⟩
 all_goals
  refine ay (fun(y:Int×Blk×List Bool×Unit)=> -1≤y.1∧y.1<b'.ops.length∧y.2.1=b'∧y.2.2.1.length=b'.ops.length∧∀t:Nat,t<b'.ops.length→(y.2.2.1.getD t default=true↔(us b' (b'.ops.length-1-y.1).toNat).getD t default=true∨4≤(b'.ops.getD t default).kind)) (fun y=>(y.1+1).toNat) ⟨by dsimp only;omega,by dsimp only;omega,rfl,by simp only [List.length_set];omega,fun t ht=> ?_⟩ ?_
  ·dsimp only
   rw [show(b'.ops.length-1- ((b'.ops.length:Int)-1)).toNat=0 by omega]
   show _↔(us0 b').getD t default=true∨_
   have q:=h4 t ht
   have r:=u0 t
   first
    | (rw [QZ (by rw [List.length_set];have:=ey c2;omega),QZ (by have:=ex c;omega),q,r];grind)
    | (rw [QZ (by have:=ex c;omega),q,r];grind)
    | (rw [q,r];grind)
  rintro⟨(j:Int),(b2:Blk),(ms:List Bool),⟨⟩⟩ hI
  dsimp only at hI ⊢
  obtain⟨j0,j1,rfl,j3,j4⟩:=hI
  simp (disch:=omega) only [RR,RB,hp2,hf2,fC,vV,List.length_set]
  have ul:=Ab b2 (b2.ops.length-1-j).toNat
  have us1:0≤j→∀t:Nat,((us b2 (b2.ops.length-1- (j-1)).toNat).getD t default=true↔(us b2 (b2.ops.length-1-j).toNat).getD t default=true∨((us b2 (b2.ops.length-1-j).toNat).getD j.toNat default=true∨4≤(((b2.ops).getD (j).toNat default)).kind)∧(t=j.toNat∨hX (((b2.ops).getD (j).toNat default))∧t=(((b2.ops).getD (j).toNat default)).x.toNat∨hY (((b2.ops).getD (j).toNat default))∧t=(((b2.ops).getD (j).toNat default)).y.toNat)):=fun g t=>by
   have o:=ok.op j g j1
   rw [show(b2.ops.length-1- (j-1)).toNat=(b2.ops.length-1-j).toNat+1 by omega]
   show(usO (b2.ops.getD (b2.ops.length-1- (b2.ops.length-1-j).toNat) default) (b2.ops.length-1- (b2.ops.length-1-j).toNat) _).getD t default=true↔_
   rw [show b2.ops.length-1- (b2.ops.length-1-j).toNat=j.toNat by omega]
   exact TA (by omega) (fun c=>by have:=o.x1 c;have g0:=this.1;have g1:=this.2.1;omega) (fun c=>by have:=o.y1 c;have g0:=this.1;have g1:=this.2.1;omega)
  have ue:¬0≤j→(us b2 (b2.ops.length-1-j).toNat)=us b2 b2.ops.length:=fun g=>by rw [show(b2.ops.length-1-j).toNat=b2.ops.length by omega]
  generalize us b2 (b2.ops.length-1-j).toNat=U at us1 j4 ue
  refine⟨fun g=> ?_,fun g=>congrArg (fun m:List Bool=>(m,())) (X0 (b:=us b2 b2.ops.length) (by rw [Ab];exact j3) fun t ht=> ?_)⟩
  ·have o:=ok.op j g j1
   have X:hX (((b2.ops).getD (j).toNat default))→0≤(((b2.ops).getD (j).toNat default)).x∧(((b2.ops).getD (j).toNat default)).x<ms.length:=fun c=>by have:=o.x1 c;have g0:=this.1;have g1:=this.2.1;omega
   have Y:hY (((b2.ops).getD (j).toNat default))→0≤(((b2.ops).getD (j).toNat default)).y∧(((b2.ops).getD (j).toNat default)).y<ms.length:=fun c=>by have:=o.y1 c;have g0:=this.1;have g1:=this.2.1;omega
   have us1:=us1 g
   have qj:=j4 j.toNat (by omega)
   have kd:=o.kd
   generalize ((b2.ops).getD (j).toNat default)=q at*
   have cx:((3≤q.kind∧q.kind≤5)∨q.kind=7)∨q.kind=8↔hX q:=by unfold hX;omega
   have cn:(¬(3≤q.kind∧q.kind≤5)∧¬q.kind=7)∧¬q.kind=8↔¬hX q:=by unfold hX;omega
   have cy:q.kind=3∨q.kind=5↔hY q:=Iff.rfl
   have dn:¬q.kind=3∧¬q.kind=5↔¬hY q:=by unfold hY;omega
   rw [cx,cn,cy,dn]
   generalize hX q=HX at*
   generalize hY q=HY at*
   refine⟨g,j1,g,by omega,g,by omega,fun c=>⟨⟨by omega,by omega,j3,fun t ht=> ?_⟩,by omega⟩,fun c=>⟨fun d=>⟨(X d).1,(X d).2,(X d).1,(X d).2,fun e=>⟨(Y e).1,(Y e).2,(Y e).1,(Y e).2,⟨by omega,by omega,j3,fun t ht=> ?_⟩,by omega⟩,fun e=>⟨⟨by omega,by omega,j3,fun t ht=> ?_⟩,by omega⟩⟩,fun d=>⟨fun e=>⟨(Y e).1,(Y e).2,(Y e).1,(Y e).2,⟨by omega,by omega,j3,fun t ht=> ?_⟩,by omega⟩,fun e=>⟨⟨by omega,by omega,j3,fun t ht=> ?_⟩,by omega⟩⟩⟩⟩
   ·rw [us1,j4 t ht];rw [c]at qj;grind
   ·rw [QZ (by rw [List.length_set];have:=Y e;omega),QZ (by have:=X d;omega),us1,j4 t ht];grind
   ·rw [QZ (by have:=X d;omega),us1,j4 t ht];grind
   ·rw [QZ (by have:=Y e;omega),us1,j4 t ht];grind
   ·rw [us1,j4 t ht];grind
  ·rw [j4 t (by omega),ue g]
   exact⟨fun h=>h.elim id ((aj9 ok).k t (Nat.zero_le _) (by omega)),Or.inl⟩
end Go.TX.F
namespace Go.TX.F
open Go Go.AE Go.TX
theorem aac {ops:List IOp} {kp:List Bool} {len:Int} {k n:Nat} {o:IOp} (ho:Jp ops len k o) (h:k<n):ren (kpS ops kp (k+1)).1 o=ren (kpS ops kp n).1 o:=by
 have p:=(Z7 ops kp (show k+1≤n by omega)).2
 have l:=(yU ops kp (k+1)).1
 have e:∀x:Int,Vl ops x k→(((kpS ops kp (k+1)).1).getD (x).toNat default)=(((kpS ops kp n).1).getD (x).toNat default):=fun x v=>by
  have g0:=v.1
  have g1:=v.2.1
  exact(XF p (by omega)).symm
 have ox:=ho.x1
 have oy:=ho.y1
 unfold ren
 congr 1
 ·split
  ·rename_i c;exact e _ (ox c)
  ·rfl
 ·split
  ·rename_i c;exact e _ (oy c)
  ·rfl
theorem afQ {p1:IOp×List Int×Unit→Bool} {f1:IOp×List Int×Unit→IOp×Unit} (hp1:∀o al,(1≤o.kind∧o.kind≤8)→(hX o→0≤o.x∧o.x< (al.length:Int))→(hY o→0≤o.y∧o.y< (al.length:Int))→p1 (o,al,())=true) (hf1:∀o al,(1≤o.kind∧o.kind≤8)→(hX o→0≤o.x∧o.x< (al.length:Int))→(hY o→0≤o.y∧o.y< (al.length:Int))→f1 (o,al,())=(ren al o,())) (b:Blk) (kp:List Bool) (ok:eF b) (hk:kp.length=b.ops.length):Qs (std 0) p1 f1 (b,kp,()) (fun y=>y=bk7 (AY b kp)):=by
 have n48:=ok.sz
 dsimp only [Qs,Alg.cl,Alg.cg,Alg.rb,Alg.bd,Alg.l1,Tup.q,Tup.o]
 simp (disch:=omega) only [RR,RB]
 refine ay (fun(y:List Bool×Int×Blk×Int×Int×Int×Int×Int×Int×List IOp×List Int×Unit)=>y.1=kp∧0≤y.2.1∧y.2.1≤b.ops.length∧y.2.2.1=b∧y.2.2.2.2.2.2.2.2.2.1=(kpS b.ops kp y.2.1.toNat).2.map (ren (kpS b.ops kp b.ops.length).1)∧y.2.2.2.2.2.2.2.2.2.2.1=(kpS b.ops kp y.2.1.toNat).1) (fun y=>((b.ops.length:Int)-y.2.1).toNat) ⟨rfl,by dsimp only;omega,by dsimp only;omega,rfl,rfl,rfl⟩ ?_
 rintro⟨(kp':List Bool),(k:Int),(b':Blk),u1,u2,u3,u4,u5,u6,(out:List IOp),(to:List Int),⟨⟩⟩ hI
 dsimp only at hI ⊢
 obtain⟨rfl,h1,h2,rfl,rfl,rfl⟩:=hI
 obtain⟨l1,l2⟩:=yU b'.ops kp' k.toNat
 have l3:=(yU b'.ops kp' (k+1).toNat).1
 have nx:(kpS b'.ops kp' (k+1).toNat).1=(kpS b'.ops kp' k.toNat).1++ [((kpS b'.ops kp' k.toNat).2.length:Int)]:=by rw [show(k+1).toNat=k.toNat+1 by omega];rfl
 have r:k<b'.ops.length→ren (kpS b'.ops kp' (k+1).toNat).1 ((b'.ops).getD (k).toNat default)=ren (kpS b'.ops kp' b'.ops.length).1 ((b'.ops).getD (k).toNat default):=fun h=>by
  rw [show(k+1).toNat=k.toNat+1 by omega]
  exact aac (by rw [show((k.toNat:Nat):Int)=k by omega];exact ok.op k h1 h) (by omega)
 have s:(kpS b'.ops kp' (k+1).toNat).2=if kp'.getD k.toNat default=true then(kpS b'.ops kp' k.toNat).2++ [((b'.ops).getD (k).toNat default)]else(kpS b'.ops kp' k.toNat).2:=by rw [show(k+1).toNat=k.toNat+1 by omega];rfl
 have fin:¬k<b'.ops.length→kpS b'.ops kp' k.toNat=kpS b'.ops kp' b'.ops.length:=fun h=>by rw [show k.toNat=b'.ops.length by omega]
 have kb:AY b' kp'=QU (kpS b'.ops kp' b'.ops.length).1 b' (kpS b'.ops kp' b'.ops.length).2:=rfl
 rw [kb]
 generalize kpS b'.ops kp' b'.ops.length=N at r fin ⊢
 generalize hT:kpS b'.ops kp' (k+1).toNat=T at l3 nx r s ⊢
 generalize kpS b'.ops kp' k.toNat=S at l1 l2 nx s fin ⊢
 have en:=ok.en
 have ex:¬k<b'.ops.length→¬b'.fin=1→0≤b'.x∧b'.x< (S.1.length:Int):=fun h c=>by have:=en.x1 c;exact⟨this.1,by have:=this.2.1;omega⟩
 have ey:¬k<b'.ops.length→b'.fin=3∨b'.fin=4→0≤b'.y∧b'.y< (S.1.length:Int):=fun h c=>by have:=en.y1 (by omega);exact⟨this.1,by have:=this.2.1;omega⟩
 simp (disch:=omega) only [RR,RB,List.length_append,List.length_cons,List.length_nil,List.length_map,Jg,←nx]
 refine⟨fun h=> ?_,fun h=> ?_⟩
 ·have op:=ok.op k h1 h
  have a2:hX (((b'.ops).getD (k).toNat default))→0≤(((b'.ops).getD (k).toNat default)).x∧(((b'.ops).getD (k).toNat default)).x< (T.1.length:Int):=fun c=>⟨(op.x1 c).1,by have:=(op.x1 c).2.1;omega⟩
  have a3:hY (((b'.ops).getD (k).toNat default))→0≤(((b'.ops).getD (k).toNat default)).y∧(((b'.ops).getD (k).toNat default)).y< (T.1.length:Int):=fun c=>⟨(op.y1 c).1,by have:=(op.y1 c).2.1;omega⟩
  have P:=hp1 _ T.1 op.kd a2 a3
  rw [hf1 _ T.1 op.kd a2 a3,hT,s,r h]
  refine⟨by omega,h1,by omega,fun c=>⟨h1,h,P,by omega,⟨by omega,by omega,?_⟩,by omega⟩,fun c=>⟨⟨by omega,by omega,?_⟩,by omega⟩⟩
  ·rw [if_pos c,List.map_append];exact⟨rfl,rfl⟩
  ·rw [c,if_neg (by decide)];exact⟨rfl,rfl⟩
 ·have ex:=ex h
  have ey:=ey h
  rw [fin h]at ex ey ⊢
  unfold bk7 QU
  refine⟨fun c=>⟨(ex c).1,(ex c).2,(ex c).1,(ex c).2,fun c2=>⟨(ey c2).1,(ey c2).2,(ey c2).1,(ey c2).2,?_⟩,fun c2=> ?_⟩,fun c=>⟨fun c2=>⟨(ey c2).1,(ey c2).2,(ey c2).1,(ey c2).2,?_⟩,fun c2=> ?_⟩⟩
  ·rw [if_neg c,if_pos (by omega)]
  ·rw [if_neg c,if_neg (by have:=en.f;omega)]
  ·exact absurd c2 (by omega)
  ·rw [if_pos c,if_neg (by omega)]
theorem afR {p1:Blk×Unit→Bool} {f1:Blk×Unit→Bool×Unit} (hp1:∀b,b.ops.length<1000000000→p1 (b,())=true) (hf1:∀b,b.ops.length<1000000000→f1 (b,())=(bp (eF b),())) {p2:Blk×Unit→Bool} {f2:Blk×Unit→List Bool×Unit} (hp2:∀b,b.ops.length<1000000→p2 (b,())=true) (hf2:∀b,b.ops.length<1000000→f2 (b,())=(BD b,())) {p3:Blk×List Bool×Unit→Bool} {f3:Blk×List Bool×Unit→Int×Int×Int×Int×Int×Int×List IOp×Unit} (hp3:∀b kp,eF b→kp.length=b.ops.length→p3 (b,kp,())=true) (hf3:∀b kp,eF b→kp.length=b.ops.length→f3 (b,kp,())=bk7 (AY b kp)) (b:Blk) (hb:b.ops.length<1000000):Qu (std 0) p1 f1 p2 f2 p3 f3 (b,()) (fun y=>y=bk7 (mM b)):=by
 dsimp only [Qu,Alg.cl,Alg.cg,Alg.rb,Alg.bd,Alg.l1,Tup.q,Tup.o]
 simp (disch:=omega) only [RR,RB,hp1 b (by omega),hf1 b (by omega),hp2 b hb,hf2 b hb]
 unfold mM BD
 refine⟨fun h=>by rw [h,if_neg (by decide)];rfl,fun h=> ?_⟩
 have ok:=bO.1 h
 rw [if_pos h,if_pos h,hf3 _ _ ok (Ab b _)]
 exact⟨hp3 _ _ ok (Ab b _),rfl⟩
theorem afS {p1:Blk×Unit→Bool} {f1:Blk×Unit→Bool×Unit} (hp1:∀b,b.ops.length<1000000000→p1 (b,())=true) (hf1:∀b,b.ops.length<1000000000→f1 (b,())=(bp (eF b),())) {p2:Blk×List Bool×Unit→Bool} {f2:Blk×List Bool×Unit→Int×Int×Int×Int×Int×Int×List IOp×Unit} (hp2:∀b kp,eF b→kp.length=b.ops.length→p2 (b,kp,())=true) (hf2:∀b kp,eF b→kp.length=b.ops.length→f2 (b,kp,())=bk7 (AY b kp)) {p3:List IOp×Int×Unit→Bool} {f3:List IOp×Int×Unit→Bool×Unit} (hp3:∀ops k,0≤k→k<ops.length→(ops.length:Int)<1000000→p3 (ops,k,())=true) (hf3:∀ops k,0≤k→k<ops.length→(ops.length:Int)<1000000→f3 (ops,k,())=(pF (ops.drop (k.toNat+1)) (((ops).getD (k).toNat default)).k,())) (b:Blk) (hb:b.ops.length<1000000):Qy (std 0) p1 f1 p2 f2 p3 f3 (b,()) (fun y=>y=bk7 (u7 b)):=by
 dsimp only [Qy,Alg.cl,Alg.cg,Alg.rb,Alg.bd,Alg.l1,Tup.q,Tup.o]
 simp (disch:=omega) only [RR,RB,hp1 b (by omega),hf1 b (by omega)]
 unfold u7
 refine⟨fun h=>by rw [h,if_neg (by decide)];rfl,fun h=> ?_⟩
 have ok:=bO.1 h
 rw [if_pos h]
 have kl:(qE b.ops).length=b.ops.length:=by unfold qE;rw [List.length_map,List.length_range]
 refine ay (fun(y:Int×Blk×Int×Int×Int×Int×Int×Int×List Bool×Unit)=>0≤y.1∧y.1≤b.ops.length∧y.2.1=b∧y.2.2.2.2.2.2.2.2.1=(qE b.ops).take y.1.toNat) (fun y=>((b.ops.length:Int)-y.1).toNat) ⟨by dsimp only;omega,by dsimp only;omega,rfl,rfl⟩ ?_
 rintro⟨(k:Int),(b':Blk),u1,u2,u3,u4,u5,u6,(kp:List Bool),⟨⟩⟩ hI
 dsimp only at hI ⊢
 obtain⟨h1,h2,rfl,rfl⟩:=hI
 have tl:((qE b'.ops).take k.toNat).length=k.toNat:=by rw [List.length_take];omega
 simp (disch:=omega) only [RR,RB,List.length_append,List.length_cons,List.length_nil,tl]
 refine⟨fun h=>⟨h1,h,Or.inr (hp3 _ _ h1 h (by omega)),by omega,⟨by omega,by omega,?_⟩,by omega⟩,fun h=> ?_⟩
 ·rw [hf3 _ _ h1 h (by omega),show(k+1).toNat=k.toNat+1 by omega,List.take_succ_eq_append_getElem (by omega),←getD_lt (d:=default) (show k.toNat< (qE b'.ops).length by omega),UQ (by omega)]
  refine congrArg (fun x=>(qE b'.ops).take k.toNat++ [x]) ?_
  rw [Bool.not_and]
 ·rw [List.take_of_length_le (by omega),hf2 _ _ ok kl]
  exact⟨hp2 _ _ ok kl,rfl⟩
theorem afT {ops:List IOp} {len:Int} {k n:Nat} {o:IOp} (ho:Jp ops len k o) (h:k≤n):ren (cpS ops k).1 o=ren (cpS ops n).1 o:=by
 have l:=(yT ops k).1
 have e:∀x:Int,Vl ops x k→(((cpS ops k).1).getD (x).toNat default)=(((cpS ops n).1).getD (x).toNat default):=fun x v=>by
  have g0:=v.1
  have g1:=v.2.1
  exact(QV ops (by omega) h).symm
 have ox:=ho.x1
 have oy:=ho.y1
 unfold ren
 congr 1
 ·split
  ·rename_i c;exact e _ (ox c)
  ·rfl
 ·split
  ·rename_i c;exact e _ (oy c)
  ·rfl
theorem afU {p1:Blk×Unit→Bool} {f1:Blk×Unit→Bool×Unit} (hp1:∀b,b.ops.length<1000000000→p1 (b,())=true) (hf1:∀b,b.ops.length<1000000000→f1 (b,())=(bp (eF b),())) {p2:IOp×List Int×Unit→Bool} {f2:IOp×List Int×Unit→IOp×Unit} (hp2:∀o al,(1≤o.kind∧o.kind≤8)→(hX o→0≤o.x∧o.x< (al.length:Int))→(hY o→0≤o.y∧o.y< (al.length:Int))→p2 (o,al,())=true) (hf2:∀o al,(1≤o.kind∧o.kind≤8)→(hX o→0≤o.x∧o.x< (al.length:Int))→(hY o→0≤o.y∧o.y< (al.length:Int))→f2 (o,al,())=(ren al o,())) {p3:Blk×Unit→Bool} {f3:Blk×Unit→Int×Int×Int×Int×Int×Int×List IOp×Unit} (hp3:∀b,b.ops.length<1000000→p3 (b,())=true) (hf3:∀b,b.ops.length<1000000→f3 (b,())=(b.pc,b.len,b.fin,b.x,b.y,b.k,b.ops,())) (b:Blk) (hb:b.ops.length<1000000):Qn (std 0) p1 f1 p2 f2 p3 f3 (b,()) (fun y=>y=bk7 (dx b)):=by
 dsimp only [Qn,Alg.cl,Alg.cg,Alg.rb,Alg.bd,Alg.l1,Tup.q,Tup.o]
 simp (disch:=omega) only [RR,RB,hp1 b (by omega),hf1 b (by omega),hp3 b hb,hf3 b hb,Jg]
 unfold dx
 refine⟨fun h=>by rw [h,if_neg (by decide)];rfl,fun h=> ?_⟩
 have ok:=bO.1 h
 rw [if_pos h]
 have n48:=ok.sz
 refine ay (fun(y:Int×Int×Int×Int×Int×Int×Int×Int×Int×Int×Int×Int×Int×List Int×List Int×List IOp×Unit)=>0≤y.1∧y.1≤b.ops.length∧y.2.2.2.2.2.2.2=(b.pc,b.len,b.fin,b.x,b.y,b.k,(cpS b.ops y.1.toNat).1,(cpS b.ops y.1.toNat).2,(b.ops.take y.1.toNat).map (ren (cpS b.ops b.ops.length).1)++b.ops.drop y.1.toNat,())) (fun y=>((b.ops.length:Int)-y.1).toNat) ⟨by dsimp only;omega,by dsimp only;omega,rfl⟩ ?_
 rintro⟨(k:Int),u1,u2,u3,u4,u5,u6,b1,b2,b3,b4,b5,b6,(al:List Int),(la:List Int),(ops:List IOp),⟨⟩⟩ hI
 dsimp only at hI ⊢
 simp only [Prod.mk.injEq,and_true]at hI
 obtain⟨h1,h2,rfl,rfl,rfl,rfl,rfl,rfl,rfl,rfl,rfl⟩:=hI
 obtain⟨l1,l2⟩:=yT b.ops k.toNat
 have r:=fun h:k<b.ops.length=>afT (ops:=b.ops) (k:=k.toNat) (n:=b.ops.length) (by rw [show((k.toNat:Nat):Int)=k by omega];exact ok.op k h1 h) (by omega)
 have fl:((b.ops.take k.toNat).map (ren (cpS b.ops b.ops.length).1)).length=k.toNat:=by rw [List.length_map,List.length_take];omega
 have ln:=TI (l:=b.ops) fl (by omega)
 have ek:=fun h:k<b.ops.length=>XY (d:=default) (l:=b.ops) fl (by omega)
 have ms:=fun x (h:k<b.ops.length)=>TH (x:=x) (l:=b.ops) fl (by omega)
 have tk:=fun h:k<b.ops.length=>(dL (d:=default) (l:=b.ops) h1 h rfl)
 have nx:k<b.ops.length→cpS b.ops (k+1).toNat=((cpS b.ops k.toNat).1++ [cpN (cpS b.ops k.toNat) k ((b.ops).getD (k).toNat default)],cpL (cpS b.ops k.toNat) k ((b.ops).getD (k).toNat default)):=fun h=>by
  rw [show(k+1).toNat=k.toNat+1 by omega,show k=((k.toNat:Nat):Int) by omega];rfl
 have fin:¬k<b.ops.length→cpS b.ops k.toNat=cpS b.ops b.ops.length:=fun h=>by rw [show k.toNat=b.ops.length by omega]
 have en:=ok.en
 by_cases h:k<b.ops.length
 ·have o:=ok.op k h1 h
  have r:=r h
  have ek:=ek h
  have nx:=nx h
  have ms:=fun x=>ms x h
  have tk:=tk h
  have a2:hX (((b.ops).getD (k).toNat default))→0≤(((b.ops).getD (k).toNat default)).x∧(((b.ops).getD (k).toNat default)).x< ((cpS b.ops k.toNat).1.length:Int):=fun c=>⟨(o.x1 c).1,by have:=(o.x1 c).2.1;omega⟩
  have a3:hY (((b.ops).getD (k).toNat default))→0≤(((b.ops).getD (k).toNat default)).y∧(((b.ops).getD (k).toNat default)).y< ((cpS b.ops k.toNat).1.length:Int):=fun c=>⟨(o.y1 c).1,by have:=(o.y1 c).2.1;omega⟩
  have P:=hp2 _ _ o.kd a2 a3
  have F:=hf2 _ _ o.kd a2 a3
  have kd:=o.k2
  have rx:(((b.ops).getD (k).toNat default)).kind=8→(ren (cpS b.ops b.ops.length).1 ((b.ops).getD (k).toNat default)).x=(((cpS b.ops k.toNat).1).getD ((((b.ops).getD (k).toNat default)).x).toNat default):=fun c=>by rw [←r];exact if_pos (by unfold hX;omega)
  rw [r]at F
  generalize hN:(cpS b.ops b.ops.length).1=N at*
  generalize hT:cpS b.ops (k+1).toNat=T at nx ⊢
  generalize cpS b.ops k.toNat=S at*
  simp (disch:=omega) only [RR,RB,ln,ek,P,F,ms,List.length_append,List.length_cons,List.length_nil,List.length_set,Jg,h]
  generalize hq:((b.ops).getD (k).toNat default)=q at*
  have rk:(ren N q).kind=q.kind:=rfl
  have rkk:(ren N q).k=q.k:=rfl
  generalize hR:ren N q=R at*
  have G:∀v w,v=cpN S k q→w=cpL S k q→(b.pc,b.len,b.fin,b.x,b.y,b.k,S.1++ [v],w,((b.ops.take k.toNat).map (ren N)++ [R])++b.ops.drop (k.toNat+1),())=(b.pc,b.len,b.fin,b.x,b.y,b.k,T.1,T.2,(b.ops.take (k+1).toNat).map (ren N)++b.ops.drop (k+1).toNat,()):=fun v w e1 e2=>by
   rw [nx,e1,e2,←tk,List.map_append,show(k+1).toNat=k.toNat+1 by omega,←hR];rfl
  have ss:∀i:Int,0≤i→i<S.2.length→S.2.set i.toNat ((S.2).getD (i).toNat default)=S.2:=fun i i0 i1=>by rw [getD_lt (show i.toNat<S.2.length by omega),List.set_getElem_self]
  by_cases c2:R.kind=2
  ·have kk:=kd (Or.inl (rk▸c2))
   by_cases c3:0≤((S.2).getD (R.k).toNat default)
   ·have g:=G (((S.2).getD (R.k).toNat default)) (S.2.set R.k.toNat ((S.2).getD (R.k).toNat default)) (by unfold cpN;rw [←rk,←rkk];rw [if_pos ⟨c2,c3⟩]) (by unfold cpL;rw [←rk,←rkk];rw [if_pos c2,if_pos c3,ss _ (by omega) (by omega)])
    simp only [c2,c3,show¬((2:Int)=8) by decide,true_and,and_true,true_implies,false_implies,not_true_eq_false,not_false_eq_true,false_or,decide_true,Bool.and_self,Bool.true_eq_false,hT,g]
    omega
   ·have g:=G k (S.2.set R.k.toNat k) (by unfold cpN;rw [←rk,←rkk];rw [if_neg (fun q=>c3 q.2)]) (by unfold cpL;rw [←rk,←rkk];rw [if_pos c2,if_neg c3])
    simp only [c2,c3,show¬((2:Int)=8) by decide,true_and,and_true,and_false,true_implies,false_implies,not_true_eq_false,not_false_eq_true,false_or,decide_true,decide_false,Bool.and_false,hT,g]
    omega
  ·by_cases c8:R.kind=8
   ·have kk:=kd (Or.inr (rk▸c8))
    have g:=G k (S.2.set R.k.toNat ((S.1).getD (q.x).toNat default)) (by unfold cpN;rw [←rk,←rkk];rw [if_neg (fun q=>c2 q.1)]) (by unfold cpL;rw [←rk,←rkk];rw [if_neg c2,if_pos c8])
    rw [←rx (rk▸c8)]at g
    simp only [c8,show¬((8:Int)=2) by decide,false_and,true_and,and_true,and_false,true_implies,false_implies,not_true_eq_false,not_false_eq_true,true_or,decide_false,Bool.false_and,hT,g]
    omega
   ·have g:=G k S.2 (by unfold cpN;rw [←rk,←rkk];rw [if_neg (fun q=>c2 q.1)]) (by unfold cpL;rw [←rk,←rkk];rw [if_neg c2,if_neg c8])
    simp only [c2,c8,false_and,true_and,and_true,and_false,true_implies,false_implies,not_true_eq_false,not_false_eq_true,true_or,decide_false,Bool.false_and,hT,g]
    omega
 ·have e:=fin h
  have ex:¬b.fin=1→0≤b.x∧b.x< ((cpS b.ops k.toNat).1.length:Int):=fun c=>by have:=en.x1 c;exact⟨this.1,by have:=this.2.1;omega⟩
  have ey:b.fin=3∨b.fin=4→0≤b.y∧b.y< ((cpS b.ops k.toNat).1.length:Int):=fun c=>by have:=en.y1 (by omega);exact⟨this.1,by have:=this.2.1;omega⟩
  have ff:=en.f
  have z:(b.ops.take k.toNat).map (ren (cpS b.ops b.ops.length).1)++b.ops.drop k.toNat=b.ops.map (ren (cpS b.ops b.ops.length).1):=by rw [List.take_of_length_le (by omega),List.drop_of_length_le (by omega),List.append_nil]
  have ln:(b.ops.map (ren (cpS b.ops b.ops.length).1)).length=b.ops.length:=List.length_map _
  rw [z]
  rw [e]at ex ey ⊢
  unfold bk7 QU
  generalize (cpS b.ops b.ops.length).1=N at*
  simp (disch:=omega) only [RR,RB,ln,h]
  refine⟨fun c=>⟨(ex c).1,(ex c).2,(ex c).1,(ex c).2,fun c2=>⟨(ey c2).1,(ey c2).2,(ey c2).1,(ey c2).2,?_⟩,fun c2=> ?_⟩,fun c=>⟨fun c2=>absurd c2 (by omega),fun c2=> ?_⟩⟩
  ·rw [if_neg c,if_pos (by omega)]
  ·rw [if_neg c,if_neg (by omega)]
  ·rw [if_pos c,if_neg (by omega)]
end Go.TX.F
namespace Go.TX.F
open Go Go.AE Go.TX
structure BkD (m:Int) (n:Nat) (b:List Int) (p:Int) (y:Int×Int×Int×Int×Int×Int×List Int×Int×List IOp×Unit):Prop where
 b:y.2.2.2.2.2.2.1=b
 lo:p≤y.2.2.2.2.2.2.2.1
 hi:y.2.2.2.2.2.2.2.1≤p+m
 len:y.2.2.2.2.2.2.2.2.1.length≤n
theorem afV {p1:Int×List Ins×Unit→Bool} {f1:Int×List Ins×Unit→Int×Int×Int×Int×Int×Int×List IOp×Unit} (hp1:∀pc l,(l.length:Int)<1000→KB l→p1 (pc,l,())=true) (hf1:∀pc l,(l.length:Int)<1000→KB l→((f1 (pc,l,())).2.2.2.2.2.2.1.length:Int)≤5000) {p2:Blk×Unit→Bool} {f2:Blk×Unit→Int×Int×Int×Int×Int×Int×List IOp×Unit} (hp2:∀b,b.ops.length<1000000→p2 (b,())=true) (hf2:∀b,b.ops.length<1000000→f2 (b,())=bk7 (Q5 b)) {p3:Blk×Unit→Bool} {f3:Blk×Unit→Int×Int×Int×Int×Int×Int×List IOp×Unit} (hp3:∀b,b.ops.length<1000000→p3 (b,())=true) (hf3:∀b,b.ops.length<1000000→f3 (b,())=bk7 (dx b)) {p4:Int×List Int×Int×Unit→Bool} {f4:Int×List Int×Int×Unit→Int×List Int×Int×Unit} (hp4:∀n b p,Bt b→0≤p→p<1000000000→p4 (n,b,p,())=true) (hf4:∀n b p,Bt b→0≤p→p<1000000000→Pk n b p (f4 (n,b,p,()))) {p5:List Int×Int×Unit→Bool} {f5:List Int×Int×Unit→List Int×Int×List Ins×Unit} (hp5:∀b p,Bt b→0≤p→p<700000000→p5 (b,p,())=true) (hf5:∀b p,Bt b→0≤p→p<700000000→LiD b p (f5 (b,p,()))) (b:List Int) (p:Int) (hb:Bt b) (h1:0≤p) (h2:p<600000000):QI (std 0) p1 f1 p2 f2 p3 f3 p4 f4 p5 f5 (b,p,()) (fun y=>BkD 2000 5000 b p y):=by
 replace hf2:=fun c h=>show(f2 (c,())).2.2.2.2.2.2.1.length≤c.ops.length by rw [hf2 c h];exact UR c
 replace hf3:=fun c h=>show(f3 (c,())).2.2.2.2.2.2.1.length≤c.ops.length by rw [hf3 c h];exact xJ c
 obtain⟨a1,a2,a3,a4,a5⟩:=hf5 b p hb h1 (by omega)
 have R:=pkR hb hf4
 have P:=fun n p h1 h2=>hp4 n b p hb h1 h2
 have L:=fun pc=>hf1 pc _ (show((f5 (b,p,())).2.2.1.length:Int)<1000 by omega) a5
 have O1:=fun c (h:c.ops.length≤5000)=>hp2 c (by omega)
 have O2:=fun c (h:c.ops.length≤5000)=>hf2 c (by omega)
 have O3:=fun c (h:c.ops.length≤5000)=>hp3 c (by omega)
 have O4:=fun c (h:c.ops.length≤5000)=>hf3 c (by omega)
 dsimp only [QI,Alg.cl,Alg.cg,Alg.rb,Alg.bd,Alg.l1,Tup.q,Tup.o]
 simp (disch:=omega) only [RR,hp5 b p hb h1 (by omega),a1,R,P,hp1 _ _ (show((f5 (b,p,())).2.2.1.length:Int)<1000 by omega) a5,List.length_cons,List.length_nil]
 have L':∀pc,(f1 (pc,(f5 (b,p,())).2.2.1,())).2.2.2.2.2.2.1.length≤5000:=fun pc=>by have:=L pc;omega
 refine⟨fun _=>⟨O1 _ (L' _),rfl,by dsimp only;omega,by dsimp only;omega,Nat.le_trans (O2 _ (L' _)) (L' _)⟩,fun _=>⟨fun _=>⟨O3 _ (L' _),rfl,by dsimp only;omega,by dsimp only;omega,Nat.le_trans (O4 _ (L' _)) (L' _)⟩,fun _=>⟨rfl,by dsimp only;omega,by dsimp only;omega,L' _⟩⟩⟩
end Go.TX.F
namespace Go.TX.F
open Go Go.AE Go.TX
structure BoD (b:List Int) (p:Int) (y:Blk×List Int×Int×Unit):Prop where
 len:y.1.ops.length<100000
 b:y.2.1=b
 lo:p≤y.2.2.1
 hi:y.2.2.1≤p+5000
end Go.TX.F
namespace Go.TX.F
open Go Go.AE Go.TX
end Go.TX.F
namespace Go.TX.F
open Go Go.AE Go.TX
theorem akg {p1:List aj×List aj×Unit→Bool} {f1:List aj×List aj×Unit→Bool×Unit} (hp1:∀a b,Sh a→p1 (a,b,())=true) (hf1:∀a b,Sh a→f1 (a,b,())=(bp (a=b),())) (a b:List (List aj)) (ha:ShP a):WZ (std 0) p1 f1 (a,b,()) (fun y=>y=(bp (a=b),())):=by
 have hlen:=ha.1
 dsimp only [WZ,Alg.cl,Alg.cg,Alg.rb,Alg.bd,Alg.l1,Tup.q,Tup.o]
 simp (disch:=omega) only [RR]
 refine⟨fun h=> ?_,fun h=> ?_⟩
 ·rw [gG (fun e=>h (by rw [e]))]
 have hl:a.length=b.length:=by omega
 refine ay (fun(y:List (List aj)×List (List aj)×Int×Unit)=>y.1=a∧y.2.1=b∧0≤y.2.2.1∧y.2.2.1≤a.length∧All y.2.2.1 (fun i=>a.getD i.toNat default=b.getD i.toNat default)) (fun y=>(a.length-y.2.2.1).toNat) ⟨rfl,rfl,by simp,by simp,All.zero⟩ ?_
 rintro⟨(l1:List (List aj)),(l2:List (List aj)),(i:Int),⟨⟩⟩ hI
 dsimp only at hI ⊢
 obtain⟨rfl,rfl,h1,h2,h3⟩:=hI
 simp (disch:=omega) only [RR,hp1 _ _ (ha.at _),hf1 _ _ (ha.at _),bO,qU]
 refine⟨fun h4=>⟨by omega,by omega,by omega,by omega,fun h5=> ?_,fun h5=>⟨⟨by omega,by omega,h3.snoc h5⟩,by omega⟩⟩,fun h4=> ?_⟩
 ·rw [gG]
  intro e;rw [e]at h5;exact h5 rfl
 ·rw [bZ (Bv hl (h3.le (by omega)))]
theorem akh {p1:List aj×List aj×Unit→Bool} {f1:List aj×List aj×Unit→Bool×Unit} (hp1:∀a b,Sh a→p1 (a,b,())=true) (hf1:∀a b,Sh a→f1 (a,b,())=(bp (a=b),())) {p2:List (List aj)×List (List aj)×Unit→Bool} {f2:List (List aj)×List (List aj)×Unit→Bool×Unit} (hp2:∀a b,ShP a→p2 (a,b,())=true) (hf2:∀a b,ShP a→f2 (a,b,())=(bp (a=b),())) (a b:Sym) (he:a=b) (ha:ShY a):W9 (std 0) p1 f1 p2 f2 (a,b,()) (fun y=>y=(true,())):=by
 subst he
 have hl:=ha.e.1
 dsimp only [W9,Alg.cl,Alg.cg,Alg.rb,Alg.bd,Alg.l1,Tup.q,Tup.o]
 simp (disch:=omega) only [RR,RB,hp2 _ _ ha.r,hf2 _ _ ha.r,hp1 _ _ ha.x,hf1 _ _ ha.x,hp1 _ _ ha.y,hf1 _ _ ha.y,bZ True.intro]
 refine ay (fun(y:Int×Sym×Sym×Unit)=>y.2.1=a∧y.2.2.1=a∧0≤y.1) (fun y=>(a.events.length-y.1).toNat) ⟨rfl,rfl,by dsimp only;omega⟩ ?_
 rintro⟨(i:Int),(l1:Sym),(l2:Sym),⟨⟩⟩ hI
 dsimp only at hI ⊢
 obtain⟨rfl,rfl,h1⟩:=hI
 have he:=ha.e.at i.toNat
 simp (disch:=omega) only [RR,RB,hp2 _ _ he.2.2,hf2 _ _ he.2.2,hp1 _ _ he.1,hf1 _ _ he.1,hp1 _ _ he.2.1,hf1 _ _ he.2.1,bZ True.intro]
 exact fun h=>by
  rw [w64 (by omega) (by omega)]
  exact⟨by omega,by omega,by omega,by omega⟩
end Go.TX.F
namespace Go.TX.F
open Go Go.AE Go.TX
end Go.TX.F
namespace Go.TX.F
open Go Go.AE Go.TX
end Go.TX.F
namespace Go.TX.F
open Go Go.AE Go.TX
structure amJ (nm:List Int) (fin x y:Int) (ops:List IOp):Prop where
 op:∀i:Int,0≤i→i<ops.length→(hX ((ops).getD (i).toNat default)→0≤(((ops).getD (i).toNat default)).x∧(((ops).getD (i).toNat default)).x<nm.length)∧(hY ((ops).getD (i).toNat default)→0≤(((ops).getD (i).toNat default)).y∧(((ops).getD (i).toNat default)).y<nm.length)
 x:fin≠1→0≤x∧x<nm.length
 y:3≤fin→0≤y∧y<nm.length
 l:ops.length<1000000000
end Go.TX.F
namespace Go.TX.F
open Go Go.AE Go.TX
end Go.TX.F
namespace Go.TX.F
open Go Go.AE Go.TX
end Go.TX.F
namespace Go.TX.F
open Go Go.AE Go.TX
end Go.TX.F
namespace Go.TX.F
open Go Go.AE Go.TX
def ShC (l:List Cer):Prop:=l.length<1000∧∀q∈l,q.base.ops.length<1000000∧q.made.ops.length<1000000
theorem ShC.at {l:List Cer} (h:ShC l) (i:Nat):(l.getD i default).base.ops.length<1000000∧(l.getD i default).made.ops.length<1000000:=by
 by_cases c:i<l.length
 ·rw [getD_lt c];exact h.2 _ (List.getElem_mem _)
 ·rw [List.getD_eq_getElem?_getD,List.getElem?_eq_none (by omega)];exact⟨by decide,by decide⟩
theorem ShC.add {l:List Cer} (h:ShC l) (n:l.length<999) {q:Cer} (h1:q.base.ops.length<1000000) (h2:q.made.ops.length<1000000):ShC (l++ [q]):=by
 refine⟨by rw [List.length_append,List.length_singleton];omega,fun c g=> ?_⟩
 rw [List.mem_append,List.mem_singleton]at g
 rcases g with g | rfl
 ·exact h.2 c g
 ·exact⟨h1,h2⟩
theorem CRB:(∀q:Cer,fO .cer 0 q=q.base.pc)∧(∀q:Cer,fO .cer 1 q=q.base.len)∧(∀q:Cer,lH .cer 2 .iop q=q.base.ops)∧(∀q:Cer,fO .cer 3 q=q.base.fin)∧(∀q:Cer,fO .cer 4 q=q.base.x)∧(∀q:Cer,fO .cer 5 q=q.base.y)∧(∀q:Cer,fO .cer 6 q=q.base.k)∧
  (∀q:Cer,fO .cer 7 q=q.made.pc)∧(∀q:Cer,fO .cer 8 q=q.made.len)∧(∀q:Cer,lH .cer 9 .iop q=q.made.ops)∧(∀q:Cer,fO .cer 10 q=q.made.fin)∧(∀q:Cer,fO .cer 11 q=q.made.x)∧(∀q:Cer,fO .cer 12 q=q.made.y)∧(∀q:Cer,fO .cer 13 q=q.made.k)∧
  (∀x,Co.mk .blk x=⟨x.1,x.2.1,x.2.2.1,x.2.2.2.1,x.2.2.2.2.1,x.2.2.2.2.2.1,x.2.2.2.2.2.2.1⟩):=
 ⟨fun _=>rfl,fun _=>rfl,fun _=>rfl,fun _=>rfl,fun _=>rfl,fun _=>rfl,fun _=>rfl,fun _=>rfl,fun _=>rfl,fun _=>rfl,fun _=>rfl,fun _=>rfl,fun _=>rfl,fun _=>rfl,fun _=>rfl⟩
end Go.TX.F
namespace Go.TX.F
open Go Go.AE Go.TX
theorem afW {p1:List aj×Unit→Bool} {f1:List aj×Unit→List aj×Unit} (hp1:∀a,Sh a→p1 (a,())=true) (hf1:∀a,Sh a→f1 (a,())=(a,())) (a:List (List aj)) (ha:ShP a):OG (std 0) p1 f1 (a,()) (fun y=>y=(a,())):=by
 have hlen:=ha.1
 dsimp only [OG,Alg.cl,Alg.cg,Alg.rb,Alg.bd,Alg.l1,Tup.q,Tup.o]
 refine ay (fun(y:List (List aj)×Int×List (List aj)×Unit)=>y.1=a∧y.2.2.1=a.take y.2.1.toNat∧0≤y.2.1∧y.2.1≤a.length) (fun y=>(a.length-y.2.1).toNat) ⟨rfl,by simp,by simp,by simp⟩ ?_
 rintro⟨(l:List (List aj)),(i:Int),(o:List (List aj)),⟨⟩⟩ hI
 dsimp only at hI ⊢
 obtain⟨rfl,rfl,h1,h2⟩:=hI
 simp (disch:=omega) only [RR,hp1 _ (ha.at _),hf1 _ (ha.at _)]
 refine⟨fun h4=>⟨by omega,by omega,?_,⟨dL h1 h4 rfl,by omega,by omega⟩,by omega⟩,fun h4=>by rw [List.take_of_length_le (by omega)]⟩
 have:=List.length_take_le' i.toNat l
 simp only [List.length_cons,List.length_nil];omega
theorem X3 (k:Int) (l:List (List aj)):Pj (std 0) (k,l,()) (fun y=>y=(if k<0∨(l.length:Int)≤k then []else((l).getD (k).toNat default),l,())):=by
 dsimp only [Pj,Alg.cl,Alg.cg,Alg.rb,Alg.bd,Alg.l1,Tup.q,Tup.o]
 simp (disch:=omega) only [RR]
 refine⟨fun h=>by rw [if_pos (by omega)],fun h=>⟨by omega,by omega,by omega,by omega,by rw [if_neg (by omega)]⟩⟩
def oG (l:List Ev) (k:Int):Int:=((l.filter fun e=>decide (e.kind=k)).length:Int)
theorem vk (l:List Ev) (e:Ev) (k:Int):oG (l++ [e]) k=if e.kind=k then oG l k+1 else oG l k:=by
 unfold oG
 rw [List.filter_append,List.length_append]
 by_cases c:e.kind=k
 ·rw [if_pos c,List.filter_cons_of_pos (by simpa using c)];simp
 ·rw [if_neg c,List.filter_cons_of_neg (by simpa using c)];simp
theorem X4 (l:List Ev) (k:Int) (hl:l.length<1000000000):Px (std 0) (l,k,()) (fun y=>y=(oG l k,())):=by
 dsimp only [Px,Alg.cl,Alg.cg,Alg.rb,Alg.bd,Alg.l1,Tup.q,Tup.o]
 refine ay (fun(y:List Ev×Int×Int×Int×Unit)=>y.1=l∧y.2.1=k∧y.2.2.1=oG (l.take y.2.2.2.1.toNat) k∧0≤y.2.2.2.1∧y.2.2.2.1≤l.length) (fun y=>(l.length-y.2.2.2.1).toNat) ⟨rfl,rfl,by simp;rfl,by simp,by simp⟩ ?_
 rintro⟨(l:List Ev),(k:Int),(n:Int),(i:Int),⟨⟩⟩ hI
 dsimp only at hI ⊢
 obtain⟨rfl,rfl,rfl,h1,h2⟩:=hI
 have b:0≤oG (l.take i.toNat) k∧oG (l.take i.toNat) k≤i:=by
  unfold oG
  have:=List.length_filter_le (fun e:Ev=>decide (e.kind=k)) (l.take i.toNat)
  have:=List.length_take_le i.toNat l
  omega
 simp (disch:=omega) only [RR,RB]
 refine⟨fun h4=>⟨by omega,by omega,?_⟩,fun h4=>by rw [List.take_of_length_le (by omega)]⟩
 have e:l.take (i+1).toNat=l.take i.toNat++ [((l).getD (i).toNat default)]:=by rw [show(i+1).toNat=i.toNat+1 by omega,List.take_succ_eq_append_getElem (by omega),getD_lt (show i.toNat<l.length by omega)]
 refine⟨fun g=>⟨⟨?_,by omega,by omega⟩,by omega⟩,fun g=>⟨⟨?_,by omega,by omega⟩,by omega⟩⟩
 ·rw [e,vk,if_pos g]
 ·rw [e,vk,if_neg g]
theorem afX {p1:Int×Unit→Bool} {f1:Int×Unit→List aj×Unit} (hp1:∀n,p1 (n,())=true) (hf1:∀n,f1 (n,())=(gV n,())) {p2:Atom×List Atom×Unit→Bool} {f2:Atom×List Atom×Unit→Int×List Atom×Unit} (hp2:∀a t,ShA a→ShT t→aF t→p2 (a,t,())=true) (hf2:∀a t,ShA a→ShT t→aF t→f2 (a,t,())=((bM t a).2,(bM t a).1,())) {p3:List Ev×Int×Unit→Bool} {f3:List Ev×Int×Unit→Int×Unit} (hp3:∀l k,l.length<1000000000→p3 (l,k,())=true) (hf3:∀l k,l.length<1000000000→f3 (l,k,())=(oG l k,())) (l:List Ev) (k:Int) (t:List Atom) (hl:l.length<1000000000) (ht:ShT t) (hk:aF t):Py (std 0) p1 f1 p2 f2 p3 f3 (l,k,t,()) (fun y=>y=((bM t ⟨if k=6 then 3 else 2,oG l k,[],[]⟩).1,gV (bM t ⟨if k=6 then 3 else 2,oG l k,[],[]⟩).2,())):=by
 have sh:∀n:Int,ShA ⟨n,oG l k,[],[]⟩:=fun n=>⟨⟨by simp,fun m hm=>absurd hm (by simp)⟩,⟨by simp,fun m hm=>absurd hm (by simp)⟩⟩
 dsimp only [Py,Alg.cl,Alg.cg,Alg.rb,Alg.bd,Alg.l1,Tup.q,Tup.o]
 simp (disch:=omega) only [RR,hp3 l k hl,hf3 l k hl,hp2 _ t (sh _) ht hk,hf2 _ t (sh _) ht hk,hp1,hf1]
 exact⟨fun h=>by rw [if_pos h],fun h=>by rw [if_neg h]⟩
theorem afY {p1:List aj×Unit→Bool} {f1:List aj×Unit→List aj×Unit} (hp1:∀a,Sh a→p1 (a,())=true) (hf1:∀a,Sh a→f1 (a,())=(a,())) {p2:List (List aj)×Unit→Bool} {f2:List (List aj)×Unit→List (List aj)×Unit} (hp2:∀a,ShP a→p2 (a,())=true) (hf2:∀a,ShP a→f2 (a,())=(a,())) (o:IOp) (x y:List aj) (r:List (List aj)) (hx:Sh x) (hy:Sh y) (hr:ShP r):Pz (std 0) p1 f1 p2 f2 (o,x,y,r,()) (fun z=>z=(o.kind,o.at_,if o.kind=6 then []else x,if o.kind=5 then y else [],if o.kind=4∨o.kind=5 then r else [],())):=by
 dsimp only [Pz,Alg.cl,Alg.cg,Alg.rb,Alg.bd,Alg.l1,Tup.q,Tup.o]
 simp (disch:=omega) only [RR,RB,hp1 x hx,hf1 x hx,hp1 y hy,hf1 y hy,hp2 r hr,hf2 r hr]
 refine⟨fun h=>⟨fun g=> ?_,fun g=> ?_⟩,fun h=>⟨fun g=> ?_,fun g=> ?_⟩⟩
 all_goals refine⟨fun k=> ?_,fun k=> ?_⟩
 all_goals first | rw [if_pos h] | rw [if_neg h]
 all_goals first | rw [if_pos g] | rw [if_neg g]
 all_goals first | rw [if_pos k] | rw [if_neg (by omega)]
theorem X5 (s:Sym) (k:Int):OI (std 0) (s,k,()) (fun y=>y=(s.events,s.regs,1,k,())):=by
 dsimp only [OI,Alg.cl,Alg.cg,Alg.rb,Alg.bd,Alg.l1,Tup.q,Tup.o]
 simp (disch:=omega) only [RR,RB]
theorem X6 (b:Blk):PD (std 0) (b,()) (fun y=>y=(if b.fin=1 then-1 else b.x,())):=by
 dsimp only [PD,Alg.cl,Alg.cg,Alg.rb,Alg.bd,Alg.l1,Tup.q,Tup.o]
 simp (disch:=omega) only [RR,RB]
 exact⟨fun h=>by rw [if_pos h],fun h=>by rw [if_neg h]⟩
theorem X7 (b:Blk):PE (std 0) (b,()) (fun y=>y=(if b.fin=1∨b.fin=2 then-1 else b.y,())):=by
 dsimp only [PE,Alg.cl,Alg.cg,Alg.rb,Alg.bd,Alg.l1,Tup.q,Tup.o]
 simp (disch:=omega) only [RR,RB]
 exact⟨fun h=>by rw [if_pos h],fun h=>by rw [if_neg (by omega)]⟩
theorem afZ {p1:List aj×Unit→Bool} {f1:List aj×Unit→Int×Bool×Unit} (hp1:∀a,Sh a→p1 (a,())=true) (hf1:∀a,Sh a→f1 (a,())=((bK a).1,(bK a).2,())) {p2:List aj×List aj×Unit→Bool} {f2:List aj×List aj×Unit→Int×Unit} (hp2:∀a b,Sh a→p2 (a,b,())=true) (hf2:∀a b,Sh a→f2 (a,b,())=(eu a b,())) {p3:Sym×Int×Unit→Bool} {f3:Sym×Int×Unit→List Ev×List (List aj)×Int×Int×Unit} (hp3:∀s k,p3 (s,k,())=true) (hf3:∀s k,f3 (s,k,())=(s.events,s.regs,1,k,())) (s:Sym) (n:Int) (hs:ShY s) (hx:aG s.x) (hy:aG s.y) (hf:s.fin=3∨s.fin=4):OL (std 0) p1 f1 p2 f2 p3 f3 (s,n,()) (fun y=>y=(symEnd s n,())):=by
 dsimp only [OL,Alg.cl,Alg.cg,Alg.rb,Alg.bd,Alg.l1,Tup.q,Tup.o]
 simp (disch:=omega) only [RR,RB,hp1 _ hs.x,hf1 _ hs.x,hp1 _ hs.y,hf1 _ hs.y,hp2 _ _ hs.x,hf2 _ _ hs.x,hp3,hf3]
 have z:eu s.x s.y=0↔s.x=s.y:=pE
 have key:(bK s.x).2=true→(bK s.y).2=true→(bK s.x).1=(bK s.y).1→s.x=s.y:=fun a b c=>(qC a).2.1.trans ((congrArg aQ c).trans (qC b).2.1.symm)
 unfold symEnd
 rw [bZ ⟨hx,hy⟩,if_neg (show¬(true=false) by decide),if_neg (show¬(s.fin=2∧(bK s.x).2=true) by omega),if_neg (show¬(s.fin≠3∧s.fin≠4) by omega)]
 simp only [z]
 by_cases c:s.x=s.y
 ·have l:¬(bK s.x).1< (bK s.y).1:=by rw [c];omega
  rcases hf with f | f<;>simp [c,f]
 ·rcases hf with f | f<;>by_cases nx:(bK s.x).2=true<;>by_cases ny:(bK s.y).2=true<;>by_cases l:(bK s.x).1< (bK s.y).1<;>by_cases g:0<eu s.x s.y<;>simp [c,f,nx,ny,l,g]
  all_goals rw [if_neg fun e=>c (key nx ny e)]
theorem af0 {p1:List aj×Unit→Bool} {f1:List aj×Unit→Int×Bool×Unit} (hp1:∀a,Sh a→p1 (a,())=true) (hf1:∀a,Sh a→f1 (a,())=((bK a).1,(bK a).2,())) {p2:List aj×Unit→Bool} {f2:List aj×Unit→Bool×Unit} (hp2:∀a,Sh a→p2 (a,())=true) (hf2:∀a,Sh a→f2 (a,())=(bp (aG a),())) {p3:List aj×Unit→Bool} {f3:List aj×Unit→List aj×Unit} (hp3:∀a,Sh a→p3 (a,())=true) (hf3:∀a,Sh a→f3 (a,())=(a,())) {p4:Sym×Int×Unit→Bool} {f4:Sym×Int×Unit→List Ev×List (List aj)×Int×Int×Unit} (hp4:∀s k,p4 (s,k,())=true) (hf4:∀s k,f4 (s,k,())=(s.events,s.regs,1,k,())) {p5:Sym×Int×Unit→Bool} {f5:Sym×Int×Unit→Sym×Unit} (hp5:∀s n,ShY s→aG s.x→aG s.y→(s.fin=3∨s.fin=4)→p5 (s,n,())=true) (hf5:∀s n,ShY s→aG s.x→aG s.y→(s.fin=3∨s.fin=4)→f5 (s,n,())=(symEnd s n,())) {p6:List (List aj)×Unit→Bool} {f6:List (List aj)×Unit→List (List aj)×Unit} (hp6:∀a,ShP a→p6 (a,())=true) (hf6:∀a,ShP a→f6 (a,())=(a,())) (s:Sym) (n:Int) (hs:ShY s):OM (std 0) p1 f1 p2 f2 p3 f3 p4 f4 p5 f5 p6 f6 (s,n,()) (fun y=>y=(symEnd s n,())):=by
 dsimp only [OM,Alg.cl,Alg.cg,Alg.rb,Alg.bd,Alg.l1,Tup.q,Tup.o]
 simp (disch:=omega) only [RR,RB,hp2 _ hs.x,hf2 _ hs.x,hp2 _ hs.y,hf2 _ hs.y]
 have le:=hs.e.1
 have no:(bp (aG s.x)=false∨bp (aG s.y)=false)→symEnd s n=QN:=fun h=>by
  unfold symEnd;rw [if_pos];rw [zU];rcases h with h | h<;>rw [h]<;>simp
 refine⟨fun h=>by rw [no h];rfl,fun h=> ?_⟩
 have hx:=bO.1 h.1
 have hy:=bO.1 h.2
 refine ay (fun(y:Int×Int×Sym×Int×Int×List (List aj)×Int×List aj×List aj×Int×List Ev×Unit)=>y.1=n∧y.2.2.1=s∧y.2.2.2.2.2.2.1=s.fin∧y.2.2.2.2.2.2.2.2.2.1=s.k∧0≤y.2.1∧y.2.1≤s.events.length∧y.2.2.2.2.2.2.2.2.2.2.1=s.events.take y.2.1.toNat) (fun y=>(s.events.length-y.2.1).toNat) ⟨rfl,rfl,rfl,rfl,by simp,by simp,by simp⟩ ?_
 rintro⟨(n':Int),(i:Int),(s':Sym),(z1:Int),(z2:Int),(z3:List (List aj)),(fin:Int),(z4:List aj),(z5:List aj),(k:Int),(ev:List Ev),⟨⟩⟩ hI
 dsimp only at hI ⊢
 obtain⟨rfl,rfl,rfl,rfl,h1,h2,rfl⟩:=hI
 have E:=hs.e.at i.toNat
 have tl:=List.length_take_le' i.toNat s'.events
 by_cases g:i<s'.events.length
 ·simp (disch:=omega) only [RR,RB,g,hp3 _ E.1,hf3 _ E.1,hp3 _ E.2.1,hf3 _ E.2.1,hp6 _ E.2.2,hf6 _ E.2.2]
  exact⟨h1,by simp only [List.length_cons,List.length_nil];omega,⟨by omega,by omega,dL h1 g rfl⟩,by omega⟩
 ·have ef:s'.events.take i.toNat=s'.events:=List.take_of_length_le (by omega)
  rw [ef]
  simp (disch:=omega) only [RR,RB,g,hp3 _ hs.x,hf3 _ hs.x,hp3 _ hs.y,hf3 _ hs.y,hp6 _ hs.r,hf6 _ hs.r,hp1 _ hs.x,hf1 _ hs.x,hp4,hf4]
  have b:¬bp (aG s'.x∧aG s'.y)=false:=by rw [bZ ⟨hx,hy⟩];decide
  have P:=fun f=>hp5 s' n' hs hx hy f
  have F:=fun f=>hf5 s' n' hs hx hy f
  have pl:s'.fin≠3∧s'.fin≠4→¬(s'.fin=2∧(bK s'.x).2=true)→symEnd s' n'=s':=fun c d=>by unfold symEnd;rw [if_neg b,if_neg d,if_pos c]
  refine⟨fun f=>⟨fun g=> ?_,fun g=> ?_⟩,fun f=>⟨fun k=>⟨fun _=>⟨P (Or.inl k),?_⟩,fun e=>absurd k e⟩,fun k=>⟨fun l=>⟨P (Or.inr l),?_⟩,fun l=> ?_⟩⟩⟩
  ·unfold symEnd;rw [if_neg b,if_pos ⟨f,g⟩]
  ·rw [pl (by omega) (by rw [g];simp)]
  ·exact congrArg (fun z=>(z.1,())) (F (Or.inl k))
  ·exact congrArg (fun z=>(z.1,())) (F (Or.inr l))
  ·rw [pl ⟨k,l⟩ (fun h=>f h.1)]
end Go.TX.F
namespace Go.TX.F
open Go Go.AE Go.TX
structure Cn (s:SS):Prop where
 ld:s.ld=oG s.evs 4
 inn:s.inn=oG s.evs 6
theorem Cn.stp {s:SS} (h:Cn s) (o:IOp):Cn (stp s o):=by
 constructor
 ·show(if o.kind=4 then s.ld+1 else s.ld)=oG (nE s o) 4
  unfold nE
  by_cases c:evO o
  ·rw [if_pos c,vk,h.ld]
  ·rw [if_neg c,if_neg (fun e=>c (by unfold evO;omega)),h.ld]
 ·show(if o.kind=6 then s.inn+1 else s.inn)=oG (nE s o) 6
  unfold nE
  by_cases c:evO o
  ·rw [if_pos c,vk,h.inn]
  ·rw [if_neg c,if_neg (fun e=>c (by unfold evO;omega)),h.inn]
theorem Cn.run:∀(l:List IOp) (s:SS),Cn s→Cn (l.foldl Go.TX.F.stp s)
 | [],_,h=>h
 | o::r,s,h=>Cn.run r _ (h.stp o)
structure Pt2 (t:List Atom) (b:Blk) (i:Nat) (tb:List Atom) (V:List (List aj)) (ev:List Ev) (rg:List (List aj)):Prop where
 tb:tb=(SW t b i).t
 V:V=(SW t b i).vals
 ev:ev=(SW t b i).evs
 rg:rg=(SW t b i).regs
theorem Pt2.next {t:List Atom} {b:Blk} {i:Nat} {tb:List Atom} {V:List (List aj)} {ev:List Ev} {rg:List (List aj)} (h:Pt2 t b i tb V ev rg) (hi:i<b.ops.length) {o:IOp} (ho:b.ops.getD i default=o)
  {v:List aj} {tb':List Atom} {ev':List Ev} {rg':List (List aj)} (h3:tb'=nT (SW t b i) o) (h4:v=nV (SW t b i) o) (h5:ev'=nE (SW t b i) o) (h6:rg'=nR (SW t b i) o):Pt2 t b (i+1) tb' (V++ [v]) ev' rg':=by
 have e:=TG (t:=t) hi
 rw [ho]at e
 refine⟨?_,?_,?_,?_⟩<;>rw [e]
 ·exact h3
 ·rw [h.V,h4];rfl
 ·exact h5
 ·exact h6
theorem Gx {α:Type} {l:List α} {i:Nat} (h:i<l.length) (v:α):(l.set i v).take (i+1)=l.take i++ [v]:=by
 rw [List.take_succ_eq_append_getElem (by rw [List.length_set];exact h),List.getElem_set_self,List.take_set_of_le (Nat.le_refl _)]
set_option maxHeartbeats 1000000 in
theorem af2 {p1:Blk×Unit→Bool} {f1:Blk×Unit→Bool×Unit} (hp1:∀b,b.ops.length<1000000000→p1 (b,())=true) (hf1:∀b,b.ops.length<1000000000→f1 (b,())=(bp (eF b),())) {p2:Int×Unit→Bool} {f2:Int×Unit→List aj×Unit} (hp2:∀n,p2 (n,())=true) (hf2:∀n,f2 (n,())=(gV n,())) {p3:Int×Unit→Bool} {f3:Int×Unit→List aj×Unit} (hp3:∀n,p3 (n,())=true) (hf3:∀n,f3 (n,())=(aQ n,())) {p4:Sym×Int×Unit→Bool} {f4:Sym×Int×Unit→Sym×Unit} (hp4:∀s n,ShY s→p4 (s,n,())=true) (hf4:∀s n,ShY s→f4 (s,n,())=(symEnd s n,())) {p5:Unit→Bool} {f5:Unit→List Atom×List (List aj)×Unit} (hp5:p5 ()=true) (hf5:MI 4 (f5 ()).1∧(f5 ()).2.1.length=4∧∀p∈(f5 ()).2.1,Sh p) {p6:List Atom×Unit→Bool} {f6:List Atom×Unit→Bool×Unit} (hp6:∀a,ShT a→p6 (a,())=true) (hf6:∀a,ShT a→f6 (a,())=(bp (aF a),())) {p7:List aj×Unit→Bool} {f7:List aj×Unit→List aj×Unit} (hp7:∀a,Sh a→p7 (a,())=true) (hf7:∀a,Sh a→f7 (a,())=(a,())) {p8:List Atom×Unit→Bool} {f8:List Atom×Unit→List Atom×Unit} (hp8:∀a,ShT a→p8 (a,())=true) (hf8:∀a,ShT a→f8 (a,())=(a,())) {p9:Int×List aj×List aj×List Atom×Unit→Bool} {f9:Int×List aj×List aj×List Atom×Unit→List Atom×List aj×Unit} (hp9:∀op x y t,(1≤op∧op≤5)→Sh x→Sh y→ShT t→aF t→p9 (op,x,y,t,())=true) (hf9:∀op x y t,(1≤op∧op≤5)→Sh x→Sh y→ShT t→aF t→f9 (op,x,y,t,())=((tDo t op x y).1,(tDo t op x y).2,())) {p10:Atom×List Atom×Unit→Bool} {f10:Atom×List Atom×Unit→Int×List Atom×Unit} (af3:∀a t,ShA a→ShT t→aF t→p10 (a,t,())=true) (af4:∀a t,ShA a→ShT t→aF t→f10 (a,t,())=((bM t a).2,(bM t a).1,())) {p11:List Ev×Int×List Atom×Unit→Bool} {f11:List Ev×Int×List Atom×Unit→List Atom×List aj×Unit} (aki:∀l k t,l.length<1000000000→ShT t→aF t→p11 (l,k,t,())=true) (akj:∀l k t,l.length<1000000000→ShT t→aF t→f11 (l,k,t,())=((bM t ⟨if k=6 then 3 else 2,oG l k,[],[]⟩).1,gV (bM t ⟨if k=6 then 3 else 2,oG l k,[],[]⟩).2,())) {p12:IOp×List aj×List aj×List (List aj)×Unit→Bool} {f12:IOp×List aj×List aj×List (List aj)×Unit→Int×Int×List aj×List aj×List (List aj)×Unit} (aad:∀o x y r,Sh x→Sh y→ShP r→p12 (o,x,y,r,())=true) (aae:∀o x y r,Sh x→Sh y→ShP r→f12 (o,x,y,r,())=(o.kind,o.at_,if o.kind=6 then []else x,if o.kind=5 then y else [],if o.kind=4∨o.kind=5 then r else [],())) {p13:Int×List (List aj)×Unit→Bool} {f13:Int×List (List aj)×Unit→List aj×List (List aj)×Unit} (Jy:∀k l,p13 (k,l,())=true) (aaf:∀k l,f13 (k,l,())=(if k<0∨(l.length:Int)≤k then []else((l).getD (k).toNat default),l,())) {p14:List (List aj)×Unit→Bool} {f14:List (List aj)×Unit→List (List aj)×Unit} (amo:∀a,ShP a→p14 (a,())=true) (amq:∀a,ShP a→f14 (a,())=(a,())) {p15:Blk×Unit→Bool} {f15:Blk×Unit→Int×Unit} (amr:∀b,p15 (b,())=true) (ams:∀b,f15 (b,())=(if b.fin=1 then-1 else b.x,())) {p16:Blk×Unit→Bool} {f16:Blk×Unit→Int×Unit} (amt:∀b,p16 (b,())=true) (amu:∀b,f16 (b,())=(if b.fin=1∨b.fin=2 then-1 else b.y,())) (t:List Atom) (b:Blk) (ht:ShT t) (hb:b.ops.length<1000000000):PG (std 0) p1 f1 p2 f2 p3 f3 p4 f4 p5 f5 p6 f6 p7 f7 p8 f8 p9 f9 p10 f10 p11 f11 p12 f12 p13 f13 p14 f14 p15 f15 p16 f16 (t,b,()) (fun y=>y=((bJ t b).1,(bJ t b).2,())):=by
 have hlt:=ht.1
 dsimp only [PG,Alg.cl,Alg.cg,Alg.rb,Alg.bd,Alg.l1,Tup.q,Tup.o]
 simp (disch:=omega) only [RR,RB,hp6 t ht,hf6 t ht,hp1 b hb,hf1 b hb,hp8 t ht,hf8 t ht,hp5]
 by_cases c:aF t∧t.length≤100∧eF b
 case neg=>
  refine⟨fun _=> ?_,fun h=> ?_⟩
  ·unfold bJ;rw [gG c];rfl
  ·exact absurd ⟨bO.1 h.1.1,by omega,bO.1 h.1.2⟩ c
 obtain⟨c1,c2,c3⟩:=c
 simp (disch:=omega) only [RR,bZ c1,bZ c3]
 have sz:=c3.sz
 have hop:=c3.op
 have hk3:=c3.k3
 have i0:=Ib c1 (by omega)
 obtain⟨_,g5,_⟩:=hf5
 refine⟨fun h=>absurd h (by omega),fun _=> ?_⟩
 refine ay (fun(y:Int×Blk×Int×Int×Int×Int×List (List aj)×List Atom×Unit)=>0≤y.1∧y.1≤4∧y.2.1=b∧y.2.2.2.2.1=b.fin∧y.2.2.2.2.2.1=b.k∧y.2.2.2.2.2.2.1.length=4∧y.2.2.2.2.2.2.1.take y.1.toNat=(rN t y.1.toNat).2∧y.2.2.2.2.2.2.2.1=(rN t y.1.toNat).1) (fun y=>(4-y.1).toNat) ⟨by simp,by simp,rfl,rfl,rfl,g5,by simp;rfl,rfl⟩ ?_
 rintro⟨(r:Int),(b':Blk),(z1:Int),(z2:Int),(fin:Int),(kk:Int),(rg:List (List aj)),(tb:List Atom),⟨⟩⟩ hI
 dsimp only at hI ⊢
 obtain⟨r0,r1,rfl,rfl,rfl,r4,r5,rfl⟩:=hI
 have ok:=FZ c1 (by omega) r.toNat (by omega)
 have okl:=ok.tl
 by_cases h:r<4
 ·have sA:ShA ⟨1,r,[],[]⟩:=⟨⟨by simp,fun m hm=>absurd hm (by simp)⟩,⟨by simp,fun m hm=>absurd hm (by simp)⟩⟩
  have er:((r.toNat:Nat):Int)=r:=by omega
  simp (disch:=omega) only [RR,h,af3 _ _ sA ok.tok.sh ok.tok,af4 _ _ sA ok.tok.sh ok.tok,hp2,hf2,r4,List.length_set]
  have es:rN t (r+1).toNat=((bM (rN t r.toNat).1 ⟨1,r,[],[]⟩).1,(rN t r.toNat).2++ [gV (bM (rN t r.toNat).1 ⟨1,r,[],[]⟩).2]):=by
   rw [show(r+1).toNat=r.toNat+1 by omega,TD,er]
  refine⟨r0,by omega,r0,by omega,⟨by omega,by omega,?_,by rw [es]⟩,by omega⟩
  rw [es,show(r+1).toNat=r.toNat+1 by omega,Gx (by omega),r5]
 ·have e4:r.toNat=4:=by omega
  rw [e4]at r5 ok
  have eg:rg=(rN t 4).2:=by rw [←r5,List.take_of_length_le (by omega)]
  subst eg
  rw [e4]
  simp (disch:=omega) only [RR,h]
  refine ay (fun(y:Int×Blk×Int×Int×Int×Int×List (List aj)×List (List aj)×List Atom×List Ev×Unit)=>0≤y.1∧y.1≤b'.ops.length∧y.2.1=b'∧y.2.2.2.2.1=b'.fin∧y.2.2.2.2.2.1=b'.k∧Pt2 t b' y.1.toNat y.2.2.2.2.2.2.2.2.1 y.2.2.2.2.2.2.2.1 y.2.2.2.2.2.2.2.2.2.1 y.2.2.2.2.2.2.1) (fun y=>(b'.ops.length-y.1).toNat) ⟨by simp,by simp,rfl,rfl,rfl,⟨rfl,rfl,rfl,rfl⟩⟩ ?_
  have siw:∀j:Nat,j≤b'.ops.length→SI (t.length+4) j (SW t b' j):=fun j hj=>by
   have:=(zY (b'.ops.take j) 0 (s0 t) i0 (fun o ho=>hk3 o (List.mem_of_mem_take ho)) (by rw [List.length_take];omega) (by rw [List.length_take];omega)).1
   rw [List.length_take,Nat.min_eq_left hj,Nat.zero_add]at this;exact this
  rintro⟨(i:Int),(b:Blk),(z1:Int),(z2:Int),(fin:Int),(kk:Int),(rg:List (List aj)),(V:List (List aj)),(tb:List Atom),(ev:List Ev),⟨⟩⟩ hI
  dsimp only at hI ⊢
  obtain⟨h1,h2,rfl,rfl,rfl,hA⟩:=hI
  have si:=siw i.toNat (by omega)
  have evl:=afw (t:=t) (b:=b) i.toNat (by omega)
  have cn:=Cn.run (b.ops.take i.toNat) (s0 t) ⟨rfl,rfl⟩
  have cn:Cn (SW t b i.toNat):=cn
  by_cases h7:i<b.ops.length
  case neg=>
   have en:=c3.en
   have hf:=en.f
   have hpc:=c3.pc
   have hln:=c3.ln
   have ein:i.toNat=b.ops.length:=by omega
   have eS:SW t b i.toNat=fJ t b:=by unfold SW fJ;rw [ein,List.take_of_length_le (Nat.le_refl _)]
   obtain⟨a3,a4,a5,a6⟩:=hA
   rw [eS]at a3 a4 a5 a6 si
   subst a3 a4 a5 a6
   have pk:=Jt (b:=b) si
   have eR:=xH c1 c2 c3
   have sh:ShY (kI b (fJ t b)):=by
    have hs:=QT b.ops 0 (s0 t) i0 hk3 (by omega) (by omega) ⟨by simp [s0],fun e he=>absurd he (by simp [s0])⟩
    exact⟨⟨by have:=hs.1;show(b.ops.foldl stp (s0 t)).evs.length<_;omega,hs.2⟩,si.regs,pk.1.sh,pk.2.sh⟩
   have sl:=si.vl
   have x1:=en.x1
   have y1:=en.y1
   have EX:f13 (if b.fin=1 then-1 else b.x,(fJ t b).vals,())=((kI b (fJ t b)).x,(fJ t b).vals,()):=by
    rw [aaf]
    show _=(if b.fin=1 then []else(((fJ t b).vals).getD (b.x).toNat default),_)
    by_cases c:b.fin=1
    ·rw [if_pos c,if_pos c,if_pos (by omega)]
    ·obtain⟨v1,v2,_⟩:=x1 c
     rw [if_neg c,if_neg c,if_neg (by omega)]
   have EY:f13 (if b.fin=1∨b.fin=2 then-1 else b.y,(fJ t b).vals,())=((kI b (fJ t b)).y,(fJ t b).vals,()):=by
    rw [aaf]
    show _=(if 3≤b.fin then(((fJ t b).vals).getD (b.y).toNat default)else [],_)
    by_cases c:b.fin=1∨b.fin=2
    ·rw [if_pos c,if_pos (Or.inl (by decide)),if_neg (show¬3≤b.fin by omega)]
    ·obtain⟨v1,v2,_⟩:=y1 (by omega)
     rw [if_neg c,if_neg (show¬(b.y<0∨((fJ t b).vals.length:Int)≤b.y) by omega),if_pos (show 3≤b.fin by have:=hf;omega)]
   have shr:ShP (fJ t b).regs:=sh.r
   simp (disch:=omega) only [RR,RB,h7,amo _ shr,amq _ shr,amr,ams,amt,amu,Jy,EX,EY,hp7 _ sh.x,hf7 _ sh.x,hp7 _ sh.y,hf7 _ sh.y]
   exact⟨hp4 _ _ sh,by rw [eR];exact congrArg (fun z=>((fJ t b).t,z.1,())) (hf4 (kI b (fJ t b)) (b.pc+b.len) sh)⟩
  have hok:=hop i h1 h7
  have nxt:=fun {v:List aj} {tb':List Atom} {ev':List Ev} {rg':List (List aj)}=>Pt2.next (o:=((b.ops).getD (i).toNat default)) hA (by omega) rfl (v:=v) (tb':=tb') (ev':=ev') (rg':=rg')
  obtain⟨a3,a4,a5,a6⟩:=hA
  have ei:(i+1).toNat=i.toNat+1:=by omega
  obtain⟨sn,so⟩:=Jq (o:=((b.ops).getD (i).toNat default)) si hok.k3 (by omega) (by omega)
  have vl:=si.vl
  have shv:∀k:Int,Sh (if k<0∨(V.length:Int)≤k then []else((V).getD (k).toNat default)):=fun k=>by
   split
   ·exact⟨by simp,fun m hm=>absurd hm (by simp)⟩
   ·rw [a4];exact(zW si.vok k).1.sh
  obtain⟨X,eX⟩:∃X,X=if(((b.ops).getD (i).toNat default)).x<0∨(V.length:Int)≤(((b.ops).getD (i).toNat default)).x then []else((V).getD ((((b.ops).getD (i).toNat default)).x).toNat default):=⟨_,rfl⟩
  obtain⟨Y,eY⟩:∃Y,Y=if(((b.ops).getD (i).toNat default)).y<0∨(V.length:Int)≤(((b.ops).getD (i).toNat default)).y then []else((V).getD ((((b.ops).getD (i).toNat default)).y).toNat default):=⟨_,rfl⟩
  have F1:f13 ((((b.ops).getD (i).toNat default)).x,V,())=(X,V,()):=by rw [aaf,eX]
  have F2:f13 ((((b.ops).getD (i).toNat default)).y,V,())=(Y,V,()):=by rw [aaf,eY]
  have shx:Sh X:=eX▸shv _
  have shy:Sh Y:=eY▸shv _
  have ex:hX ((b.ops).getD (i).toNat default)→X=xOf (SW t b i.toNat) ((b.ops).getD (i).toNat default):=fun h=>by
   have v:=hok.x1 h
   have v2:=v.2.1
   unfold xOf;rw [if_pos h,eX,if_neg (by rw [a4,vl];have:=v.1;omega),a4]
  have ey:hY ((b.ops).getD (i).toNat default)→Y=yOf (SW t b i.toNat) ((b.ops).getD (i).toNat default):=fun h=>by
   have v:=hok.y1 h
   have v2:=v.2.1
   unfold yOf;rw [if_pos h,eY,if_neg (by rw [a4,vl];have:=v.1;omega),a4]
  clear eX eY shv
  have vl':V.length=i.toNat:=by rw [a4];exact vl
  generalize hs:SW t b i.toNat=s at*
  generalize ho:((b.ops).getD (i).toNat default)=o at*
  have kd:=hok.kd
  subst a3 a5 a6
  have r4:s.regs.length=4:=si.r4
  have tsh:=si.tok.sh
  have cnl:=cn.ld
  have cni:=cn.inn
  have rsh:ShP s.regs:=si.regs
  have dn:=fun {v:List aj} {tb':List Atom} {ev':List Ev} {rg':List (List aj)} (h3:tb'=nT s o) (h4:v=nV s o) (h5:ev'=nE s o) (h6:rg'=nR s o)=>show((V.length:Int)+([v].length:Int)≤1073741824)∧(0≤i+1∧i+1≤b.ops.length∧Pt2 t b (i+1).toNat tb' (V++ [v]) ev' rg')∧(b.ops.length- (i+1)).toNat< (b.ops.length-i).toNat from⟨by simp only [List.length_cons,List.length_nil];omega,⟨by omega,by omega,by rw [ei];exact nxt h3 h4 h5 h6⟩,by omega⟩
  have el1:∀e:Ev,(s.evs.length:Int)+([e].length:Int)≤1073741824:=fun e=>by simp only [List.length_cons,List.length_nil];omega
  have T0:o.kind≠3→o.kind≠4→o.kind≠6→s.t=nT s o:=fun h3 h4 h6=>by unfold nT;rw [if_neg h3,if_neg (by omega)]
  have R0:o.kind≠8→s.regs=nR s o:=fun h=>by unfold nR;rw [if_neg h]
  have E0:¬evO o→s.evs=nE s o:=fun h=>by unfold nE;rw [if_neg h]
  have V0:o.kind=5∨o.kind=7∨o.kind=8→[]=nV s o:=fun h=>by unfold nV;rw [if_neg (by omega),if_neg (by omega),if_neg (by omega),if_neg (by omega)]
  rcases(by omega:o.kind=1∨o.kind=2∨o.kind=3∨o.kind=4∨o.kind=5∨o.kind=6∨o.kind=7∨o.kind=8)with c | c | c | c | c | c | c | c
  ·simp (disch:=omega) only [RR,RB,ho,h7,Jy,F1,F2,c,Int.reduceEq,hp3,hf3]
   exact⟨h1,dn (T0 (by omega) (by omega) (by omega)) (show aQ o.k=nV s o by unfold nV;rw [if_pos c]) (E0 (by unfold evO;omega)) (R0 (by omega))⟩
  ·have k2:=hok.k2 (Or.inl c)
   simp (disch:=omega) only [RR,RB,ho,h7,Jy,F1,F2,c,Int.reduceEq,r4]
   exact⟨h1,k2.1,by omega,k2.1,by omega,dn (T0 (by omega) (by omega) (by omega)) (show((s.regs).getD (o.k).toNat default)=nV s o by unfold nV;rw [if_neg (by omega),if_pos c]) (E0 (by unfold evO;omega)) (R0 (by omega))⟩
  ·have d9:=hok.k3 c
   simp (disch:=omega) only [RR,RB,ho,h7,Jy,F1,F2,c,Int.reduceEq,hp9 o.k _ _ _ d9 shx shy tsh si.tok,hf9 o.k _ _ _ d9 shx shy tsh si.tok]
   have e1:=ex (by unfold hX;omega)
   have e2:=ey (by unfold hY;omega)
   exact⟨h1,dn (show(tDo s.t o.k X Y).1=nT s o by unfold nT;rw [if_pos c,e1,e2]) (show(tDo s.t o.k X Y).2=nV s o by unfold nV;rw [if_neg (by omega),if_neg (by omega),if_pos c,e1,e2]) (E0 (by unfold evO;omega)) (R0 (by omega))⟩
  ·have el:s.evs.length<1000000000:=by omega
   have ea:aOf s o=⟨2,oG s.evs 4,[],[]⟩:=by unfold aOf;rw [if_pos c,cnl]
   have e1:=ex (by unfold hX;omega)
   have e2:yOf s o=[]:=by unfold yOf;rw [if_neg (by unfold hY;omega)]
   simp (disch:=omega) only [RR,RB,ho,h7,Jy,F1,F2,c,Int.reduceEq,aki s.evs 4 s.t el tsh si.tok,akj s.evs 4 s.t el tsh si.tok,aad o X Y s.regs shx shy rsh,aae o X Y s.regs shx shy rsh,el1]
   exact⟨h1,dn (by unfold nT;rw [if_neg (by omega),if_pos (Or.inl c),ea]) (by unfold nV;rw [if_neg (by omega),if_neg (by omega),if_neg (by omega),if_pos (Or.inl c),ea]) (by unfold nE;rw [if_pos (by unfold evO;omega),if_pos (Or.inl c),c,e1,e2]) (R0 (by omega))⟩
  ·have e1:=ex (by unfold hX;omega)
   have e2:=ey (by unfold hY;omega)
   simp (disch:=omega) only [RR,RB,ho,h7,Jy,F1,F2,c,Int.reduceEq,aad o X Y s.regs shx shy rsh,aae o X Y s.regs shx shy rsh,el1]
   exact⟨h1,dn (T0 (by omega) (by omega) (by omega)) (V0 (by omega)) (by unfold nE;rw [if_pos (by unfold evO;omega),if_pos (Or.inr c),c,e1,e2]) (R0 (by omega))⟩
  ·have el:s.evs.length<1000000000:=by omega
   have ea:aOf s o=⟨3,oG s.evs 6,[],[]⟩:=by unfold aOf;rw [if_neg (by omega),cni]
   have e1:xOf s o=[]:=by unfold xOf;rw [if_neg (by unfold hX;omega)]
   have e2:yOf s o=[]:=by unfold yOf;rw [if_neg (by unfold hY;omega)]
   simp (disch:=omega) only [RR,RB,ho,h7,Jy,F1,F2,c,Int.reduceEq,aki s.evs 6 s.t el tsh si.tok,akj s.evs 6 s.t el tsh si.tok,aad o X Y s.regs shx shy rsh,aae o X Y s.regs shx shy rsh,el1]
   exact⟨h1,dn (by unfold nT;rw [if_neg (by omega),if_pos (Or.inr c),ea]) (by unfold nV;rw [if_neg (by omega),if_neg (by omega),if_neg (by omega),if_pos (Or.inr c),ea]) (by unfold nE;rw [if_pos (by unfold evO;omega),if_neg (by omega),c,e1,e2]) (R0 (by omega))⟩
  ·have e1:=ex (by unfold hX;omega)
   have e2:yOf s o=[]:=by unfold yOf;rw [if_neg (by unfold hY;omega)]
   simp (disch:=omega) only [RR,RB,ho,h7,Jy,F1,F2,c,Int.reduceEq,aad o X Y s.regs shx shy rsh,aae o X Y s.regs shx shy rsh,el1]
   exact⟨h1,dn (T0 (by omega) (by omega) (by omega)) (V0 (by omega)) (by unfold nE;rw [if_pos (by unfold evO;omega),if_neg (by omega),c,e1,e2]) (R0 (by omega))⟩
  ·have k2:=hok.k2 (Or.inr c)
   have e1:=ex (by unfold hX;omega)
   simp (disch:=omega) only [RR,RB,ho,h7,Jy,F1,F2,c,Int.reduceEq,r4]
   exact⟨h1,k2.1,by omega,k2.1,by omega,dn (T0 (by omega) (by omega) (by omega)) (V0 (by omega)) (E0 (by unfold evO;omega)) (by unfold nR;rw [if_pos c,e1])⟩
end Go.TX.F
namespace Go.TX.F
open Go Go.AE Go.TX
def X8 (s:Sym):Prop:=ShY s
theorem Jz {m:aj} (h:m.atoms.length<1000000000):Sh [m]:=⟨by simp,fun x hx=>by rw [List.mem_singleton]at hx;subst hx;exact h⟩
theorem X9 {a b:List aj} (ha:Sh a) (hb:Sh b) (h:a.length+b.length<1000000000):Sh (a++b):=⟨by rw [List.length_append];exact h,fun m hm=>(List.mem_append.1 hm).elim (ha.2 m) (hb.2 m)⟩
theorem af5 {p1:Int×List Int×Int×Unit→Bool} {f1:Int×List Int×Int×Unit→Bool×List Int×Int×Unit} (hp1:∀n b p,Bt b→0≤p→p<1000000000→p1 (n,b,p,())=true) (hf1:∀n b p,Bt b→0≤p→p<1000000000→(f1 (n,b,p,())).2.1=b∧(f1 (n,b,p,())).2.2.1=p+1) {p2:Int×List Int×Int×Unit→Bool} {f2:Int×List Int×Int×Unit→Int×List Int×Int×Unit} (hp2:∀n b p,Bt b→0≤p→p<1000000000→p2 (n,b,p,())=true) (hf2:∀n b p,Bt b→0≤p→p<1000000000→Pk n b p (f2 (n,b,p,()))) {p3:Int×List Int×Int×Unit→Bool} {f3:Int×List Int×Int×Unit→List Int×Int×List aj×Unit} (hp3:∀n b p,Bt b→0≤n→0≤p→p<500000000→p3 (n,b,p,())=true) (hf3:∀n b p,Bt b→0≤n→0≤p→p<500000000→aaO n b p (f3 (n,b,p,()))) (n:Int) (b:List Int) (p:Int) (hb:Bt b) (h1:0≤p) (h2:p<450000000):OA (std 0) p1 f1 p2 f2 p3 f3 (n,b,p,()) (fun(y:List aj×List Int×Int×Unit)=>Sh y.1∧y.2.1=b∧p≤y.2.2.1∧y.2.2.1≤p+300):=by
 have D:=hf3 5 b p hb (by omega) h1 (by omega)
 have D1:=D.b
 have D2:=D.lo
 have D3:=D.hi
 have sh:=D.ok.sh
 have l12:=(fF.1 D.ok).2.1
 have P3:=hp3 5 b p hb (by omega) h1 (by omega)
 generalize hq:(f3 (5,b,p,())).2.1=q at D2 D3
 generalize hm:(f3 (5,b,p,())).2.2.1=m at sh l12
 obtain⟨o1,o2⟩:=hf1 n b q hb (by omega) (by omega)
 have R:=pkR hb hf2
 dsimp only [OA,Alg.cl,Alg.cg,Alg.rb,Alg.bd,Alg.l1,Tup.q,Tup.o]
 simp (disch:=omega) only [RR,P3,D1,hq,hm,hp1 n b q hb (by omega) (by omega),o1,o2,hp2 5 b (q+1) hb (by omega) (by omega),R,List.length_cons,List.length_nil]
 refine⟨fun _=>⟨fun _=>⟨by omega,X9 sh (Jz (by simp)) (by simp;omega),by omega,by omega⟩,fun _=>⟨fun _=>⟨Jz (by simp),by omega,by omega⟩,fun _=>⟨fun _=>⟨Jz (by simp),by omega,by omega⟩,fun _=>⟨fun _=>⟨⟨by simp,by simp⟩,by omega,by omega⟩,fun _=> ?_⟩⟩⟩⟩,fun _=>⟨sh,by omega,by omega⟩⟩
 refine ay (fun(y:List Int×Int×List aj×Unit)=>y.1=b∧y.2.1=q+1+1∧Sh y.2.2.1∧y.2.2.1.length≤13) (fun y=>13-y.2.2.1.length) ⟨rfl,rfl,sh,by dsimp only;omega⟩ ?_
 rintro⟨(b':List Int),(r:Int),(m':List aj),⟨⟩⟩ hI
 dsimp only at hI ⊢
 obtain⟨rfl,rfl,i1,i2⟩:=hI
 simp (disch:=omega) only [RR,List.length_append,List.length_cons,List.length_nil]
 refine⟨fun g=>⟨by omega,⟨X9 i1 (Jz (by simp)) (by simp;omega),by omega⟩,by omega⟩,fun g=>⟨i1,by omega,by omega⟩⟩
theorem af6 {p1:List aj×List aj×Unit→Bool} {f1:List aj×List aj×Unit→Bool×List aj×Unit} (hp1:∀a b,Sh a→Sh b→p1 (a,b,())=true) (hf1:∀a b,Sh a→Sh b→f1 (a,b,())=((kW a b).1,(kW a b).2,())) {p2:Int×Unit→Bool} {f2:Int×Unit→List aj×Unit} (hp2:∀n,p2 (n,())=true) (hf2:∀n,f2 (n,())=(aQ n,())) {p3:List aj×Int×Unit→Bool} {f3:List aj×Int×Unit→List aj×Unit} (hp3:∀a n,Sh a→p3 (a,n,())=true) (hf3:∀a n,Sh a→f3 (a,n,())=(gP a n,())) {p4:Int×List Int×Int×Unit→Bool} {f4:Int×List Int×Int×Unit→Int×List Int×Int×Unit} (hp4:∀n b p,Bt b→0≤p→p<1000000000→p4 (n,b,p,())=true) (hf4:∀n b p,Bt b→0≤p→p<1000000000→Pk n b p (f4 (n,b,p,()))) {p5:List Int×Int×Unit→Bool} {f5:List Int×Int×Unit→Int×List Int×Int×Unit} (hp5:∀b p,Bt b→0≤p→p<900000000→p5 (b,p,())=true) (hf5:∀b p,Bt b→0≤p→p<900000000→Wd b p (f5 (b,p,()))) {p6:Int×List Int×Int×Unit→Bool} {f6:Int×List Int×Int×Unit→List aj×List Int×Int×Unit} (hp6:∀n b p,Bt b→0≤p→p<450000000→p6 (n,b,p,())=true) (hf6:∀n b p,Bt b→0≤p→p<450000000→Sh (f6 (n,b,p,())).1∧(f6 (n,b,p,())).2.1=b∧p≤(f6 (n,b,p,())).2.2.1∧(f6 (n,b,p,())).2.2.1≤p+300) (n:Int) (b:List Int) (p:Int) (hb:Bt b) (h1:0≤p) (h2:p<400000000):OD (std 0) p1 f1 p2 f2 p3 f3 p4 f4 p5 f5 p6 f6 (n,b,p,()) (fun(y:List aj×List aj×List Int×Int×Unit)=>Sh y.1∧Sh y.2.1∧y.2.2.1=b∧p≤y.2.2.2.1∧y.2.2.2.1≤p+1000):=by
 obtain⟨a1,a2,a3,a4⟩:=hf6 n b p hb h1 (by omega)
 generalize hq:(f6 (n,b,p,())).2.2.1=q at a3 a4
 generalize hx:(f6 (n,b,p,())).1=x at a1
 obtain⟨b1,b2,b3,b4⟩:=hf6 n b q hb (by omega) (by omega)
 generalize hr:(f6 (n,b,q,())).2.2.1=r at b3 b4
 generalize hy:(f6 (n,b,q,())).1=z at b1
 obtain⟨c1,c2,c3,c4⟩:=hf4 5 b r hb (by omega) (by omega)
 obtain⟨d1,d2,d3,d4⟩:=hf5 b (r+1) hb (by omega) (by omega)
 have s1:Sh (gP x 65535):=(UM _ _).sh
 have s2:=fun k=>(bE k).sh
 have s3:=fun k=>(Bw (gP x 65535) (aQ k)).sh
 dsimp only [OD,Alg.cl,Alg.cg,Alg.rb,Alg.bd,Alg.l1,Tup.q,Tup.o]
 simp (disch:=omega) only [RR,hp6 n b p hb h1 (by omega),a2,hq,hx,hp6 n b q hb (by omega) (by omega),b2,hr,hy,hp4 5 b r hb (by omega) (by omega),c1,c2,hp3 x 65535 a1,hf3 x 65535 a1,hp5 b (r+1) hb (by omega) (by omega),d1,hp2,hf2,hp1 _ _ s1 (s2 _),hf1 _ _ s1 (s2 _)]
 refine⟨fun _=>⟨a1,a1,by omega,by omega⟩,fun _=>⟨fun _=>⟨a1,s1,by omega,by omega⟩,fun _=>⟨fun _=>⟨fun _=>⟨a1,s3 _,by omega,by omega⟩,fun _=>⟨a1,b1,by omega,by omega⟩⟩,fun _=>⟨a1,b1,by omega,by omega⟩⟩⟩⟩
theorem af7 {α:Type} [Inhabited α] (l:List α) (a:α) (i:Int) (h:0≤i):((l++ [a]).getD (i).toNat default)=if i=l.length then a else((l).getD (i).toNat default):=by
 by_cases c:i=l.length
 ·rw [if_pos c,c,List.getD_eq_getElem?_getD];simp
 ·rw [if_neg c,List.getD_eq_getElem?_getD,List.getD_eq_getElem?_getD]
  by_cases d:i.toNat<l.length
  ·rw [List.getElem?_append_left d]
  ·rw [List.getElem?_eq_none (by rw [List.length_append,List.length_singleton];omega),List.getElem?_eq_none (by omega)]
theorem UW {n:Int} {t u:List Atom} (h:MI n t) (g:MI n u):t=u:=by
 obtain⟨h1,h2⟩:=h
 obtain⟨g1,g2⟩:=g
 exact Bv (by omega) fun i i0 i1=>by
  have a:=h2 i i0 (by omega)
  have b:=g2 i i0 (by omega)
  exact a.trans b.symm
theorem TJ:∀n:Nat,n≤4→MI n (rN [] n).1
 | 0,_=>⟨rfl,All.zero⟩
 | n+1,hn=>by
  obtain⟨h1,h2⟩:=TJ n (by omega)
  have ok:=FZ zZ (by simp) n (by omega)
  have e:bM (rN [] n).1 ⟨1,n,[],[]⟩=((rN [] n).1++ [⟨1,n,[],[]⟩],((rN [] n).1.length:Int)):=by
   rcases jf (rN [] n).1 ⟨1,n,[],[]⟩with⟨f1,f2⟩ | ⟨f1,f2,f3,_⟩
   ·unfold bM
    rw [if_neg (by omega),if_neg]
    rintro(g | g)
    ·exact g (by unfold iO;rw [if_neg (by simp)];exact⟨⟨rfl,rfl⟩,Or.inl ⟨rfl,by dsimp only;omega,by dsimp only;omega⟩⟩)
    ·omega
   ·exfalso
    have a:=h2 _ f1 (by omega)
    dsimp only at a f3
    rw [a]at f3
    injection f3 with _ g
    omega
  have e2:(rN [] (n+1)).1=(rN [] n).1++ [⟨1,n,[],[]⟩]:=by rw [TD,e]
  rw [e2]
  refine⟨by rw [List.length_append,List.length_singleton];omega,fun i i0 i1=> ?_⟩
  dsimp only
  rw [af7 _ _ _ i0]
  by_cases c:i=((rN [] n).1.length:Int)
  ·rw [if_pos c,c,h1]
  ·rw [if_neg c];exact h2 i i0 (by omega)
theorem akk {t:List Atom} (h:MI 4 t):t=t4:=UW h (TJ 4 (Nat.le_refl _))
theorem af8 {p1:Int×Unit→Bool} {f1:Int×Unit→List aj×Unit} (hp1:∀n,p1 (n,())=true) (hf1:∀n,f1 (n,())=(aQ n,())) {p2:Unit→Bool} {f2:Unit→List Atom×List (List aj)×Unit} (hp2:p2 ()=true) (hf2:MI 4 (f2 ()).1∧(f2 ()).2.1.length=4∧∀p∈(f2 ()).2.1,Sh p) {p3:List Atom×Blk×Unit→Bool} {f3:List Atom×Blk×Unit→List Atom×Sym×Unit} (hp3:∀t b,ShT t→b.ops.length<1000000000→p3 (t,b,())=true) (hf3:∀t b,ShT t→b.ops.length<1000000000→f3 (t,b,())=((bJ t b).1,(bJ t b).2,())) {p4:List Int×Unit→Bool} {f4:List Int×Unit→List Int×Int×Unit} (hp4:∀b,By b→b.length<1000000000→p4 (b,())=true) (hf4:∀b,By b→b.length<1000000000→Bt (f4 (b,())).1∧(f4 (b,())).2.1=0) {p5:Int×List Int×Int×Unit→Bool} {f5:Int×List Int×Int×Unit→Int×List Int×Int×Unit} (hp5:∀n b p,Bt b→0≤p→p<1000000000→p5 (n,b,p,())=true) (hf5:∀n b p,Bt b→0≤p→p<1000000000→Pk n b p (f5 (n,b,p,()))) {p6:List Int×Int×Unit→Bool} {f6:List Int×Int×Unit→Int×List Int×Int×Unit} (hp6:∀b p,Bt b→0≤p→p<900000000→p6 (b,p,())=true) (hf6:∀b p,Bt b→0≤p→p<900000000→Wd b p (f6 (b,p,()))) {p7:List Int×Int×Unit→Bool} {f7:List Int×Int×Unit→Int×Int×Int×Int×Int×Int×List Int×Int×List IOp×Unit} (hp7:∀b p,Bt b→0≤p→p<600000000→p7 (b,p,())=true) (hf7:∀b p,Bt b→0≤p→p<600000000→BkD 2000 5000 b p (f7 (b,p,()))) {p8:Int×List Int×Int×Unit→Bool} {f8:Int×List Int×Int×Unit→List aj×List aj×List Int×Int×Unit} (hp8:∀n b p,Bt b→0≤p→p<400000000→p8 (n,b,p,())=true) (hf8:∀n b p,Bt b→0≤p→p<400000000→Sh (f8 (n,b,p,())).1∧Sh (f8 (n,b,p,())).2.1∧(f8 (n,b,p,())).2.2.1=b∧p≤(f8 (n,b,p,())).2.2.2.1∧(f8 (n,b,p,())).2.2.2.1≤p+1000) (c:List Int) (hc:By c) (hl:c.length<1000000000):QJ (std 0) p1 f1 p2 f2 p3 f3 p4 f4 p5 f5 p6 f6 p7 f7 p8 f8 (c,()) (fun y=>X8 y.1∧1≤y.1.fin∧y.1.fin≤4):=by
 obtain⟨hb,e0⟩:=hf4 c hc hl
 generalize hbe:(f4 (c,())).1=b at hb
 obtain⟨a1,a2,a3,a4,a5⟩:=hf8 20 b 0 hb (by omega) (by omega)
 generalize hq:(f8 (20,b,0,())).2.2.2.1=q at a4 a5
 generalize hx:(f8 (20,b,0,())).1=x at a1
 generalize hy:(f8 (20,b,0,())).2.1=y at a2
 obtain⟨g1,g2,g3⟩:=hf2
 have hf2:(f2 ()).1=t4:=akk g1
 have R:=pkR hb hf5
 have P:=fun n p h1 h2=>hp5 n b p hb h1 h2
 have W:=fun p h1 h2=>(hf6 b p hb h1 h2).1
 have WP:=fun p h1 h2=>hp6 b p hb h1 h2
 obtain⟨_,u1,u2,_⟩:=hf6 b (q+1) hb (by omega) (by omega)
 generalize hr1:(f6 (b,q+1,())).2.2.1=r1 at u1 u2
 obtain⟨_,u3,u4,_⟩:=hf6 b (r1+1) hb (by omega) (by omega)
 generalize hr2:(f6 (b,r1+1,())).2.2.1=r2 at u3 u4
 obtain⟨_,u5,u6,_⟩:=hf6 b (q+1+1) hb (by omega) (by omega)
 generalize hr3:(f6 (b,q+1+1,())).2.2.1=r3 at u5 u6
 have s4:ShT t4:=aaQ.1.sh
 have F1:=fun s h1 h2=>(hf7 b s hb h1 h2).b
 have FP:=fun s h1 h2=>hp7 b s hb h1 h2
 have K:∀s,0≤s→s<600000000→p3 (t4,⟨(f7 (b,s,())).1,(f7 (b,s,())).2.1,(f7 (b,s,())).2.2.2.2.2.2.2.2.1,(f7 (b,s,())).2.2.1,(f7 (b,s,())).2.2.2.1,(f7 (b,s,())).2.2.2.2.1,(f7 (b,s,())).2.2.2.2.2.1⟩,())=true∧
   Z0 (f3 (t4,⟨(f7 (b,s,())).1,(f7 (b,s,())).2.1,(f7 (b,s,())).2.2.2.2.2.2.2.2.1,(f7 (b,s,())).2.2.1,(f7 (b,s,())).2.2.2.1,(f7 (b,s,())).2.2.2.2.1,(f7 (b,s,())).2.2.2.2.2.1⟩,())).2.1.events:=fun s h1 h2=>by
  have l:=(hf7 b s hb h1 h2).len
  generalize f7 (b,s,())=y at l ⊢
  have lo:(⟨y.1,y.2.1,y.2.2.2.2.2.2.2.2.1,y.2.2.1,y.2.2.2.1,y.2.2.2.2.1,y.2.2.2.2.2.1⟩:Blk).ops.length<1000000000:=show y.2.2.2.2.2.2.2.2.1.length<1000000000 by omega
  refine⟨hp3 t4 _ s4 lo,?_⟩
  rw [hf3 t4 _ s4 lo]
  exact(Ju t4 _).1.e
 have Z:∀(s:Int) (x' y':List aj) (k:Int),0≤s→s<600000000→Sh x'→Sh y'→p3 (t4,(⟨(f7 (b,s,())).1,(f7 (b,s,())).2.1,(f7 (b,s,())).2.2.2.2.2.2.2.2.1,(f7 (b,s,())).2.2.1,(f7 (b,s,())).2.2.2.1,(f7 (b,s,())).2.2.2.2.1,(f7 (b,s,())).2.2.2.2.2.1⟩:Blk),())=true∧X8 ⟨(f3 (t4,(⟨(f7 (b,s,())).1,(f7 (b,s,())).2.1,(f7 (b,s,())).2.2.2.2.2.2.2.2.1,(f7 (b,s,())).2.2.1,(f7 (b,s,())).2.2.2.1,(f7 (b,s,())).2.2.2.2.1,(f7 (b,s,())).2.2.2.2.2.1⟩:Blk),())).2.1.events,(f2 ()).2.1,IntKind.i64.wrap (1+(f5 (4,b,(f7 (b,s,())).2.2.2.2.2.2.2.1,())).1),x',y',k⟩∧1≤IntKind.i64.wrap (1+(f5 (4,b,(f7 (b,s,())).2.2.2.2.2.2.2.1,())).1)∧IntKind.i64.wrap (1+(f5 (4,b,(f7 (b,s,())).2.2.2.2.2.2.2.1,())).1)≤4:=fun s x' y' k h1 h2 e1 e2=>by
  obtain⟨k1,k2⟩:=K s h1 h2
  have lo:=(hf7 b s hb h1 h2).lo
  have hi:=(hf7 b s hb h1 h2).hi
  obtain⟨_,_,v1,v2⟩:=hf5 4 b (f7 (b,s,())).2.2.2.2.2.2.2.1 hb (by omega) (by omega)
  have w:IntKind.i64.wrap (1+(f5 (4,b,(f7 (b,s,())).2.2.2.2.2.2.2.1,())).1)=1+(f5 (4,b,(f7 (b,s,())).2.2.2.2.2.2.2.1,())).1:=w64 (by omega) (by omega)
  exact⟨k1,⟨k2,⟨by show(f2 ()).2.1.length<_;omega,g3⟩,e1,e2⟩,by omega,by omega⟩
 have L:=fun s (h1:0≤s) (h2:s<600000000)=>show s≤(f7 (b,s,())).2.2.2.2.2.2.2.1∧(f7 (b,s,())).2.2.2.2.2.2.2.1≤s+2000 from⟨(hf7 b s hb h1 h2).lo,(hf7 b s hb h1 h2).hi⟩
 obtain⟨l1,l2⟩:=L r2 (by omega) (by omega)
 obtain⟨l3,l4⟩:=L (r1+1) (by omega) (by omega)
 obtain⟨l5,l6⟩:=L r3 (by omega) (by omega)
 obtain⟨l7,l8⟩:=L (q+1+1) (by omega) (by omega)
 have c2:=fun k=>(bE k).sh
 dsimp only [QJ,Alg.cl,Alg.cg,Alg.rb,Alg.bd,Alg.l1,Tup.q,Tup.o]
 simp (disch:=omega) only [RR,RB,CRB,hp4 c hc hl,hbe,e0,hp8 20 b 0 hb (by omega) (by omega),a3,hq,hx,hy,R,P,WP,W,hr1,hr2,hr3,hp1,hf1,hp2,hf2,F1,FP]
 exact⟨fun _=>⟨fun _=>Z r2 _ _ _ (by omega) (by omega) (c2 _) (c2 _),fun _=>Z (r1+1) _ _ _ (by omega) (by omega) (c2 _) a2⟩,fun _=>⟨fun _=>Z r3 _ _ _ (by omega) (by omega) a1 (c2 _),fun _=>Z (q+1+1) _ _ _ (by omega) (by omega) a1 a2⟩⟩
theorem UY {s:Sym} (h:ShY s) (n:Int):ShY (symEnd s n):=by
 by_cases c:aG s.x∧aG s.y
 ·obtain⟨k1,k2,k3,k4⟩:=qD (n:=n) c
  exact⟨by rw [k1];exact h.e,by rw [k2];exact h.r,k3.sh,k4.sh⟩
 ·unfold symEnd;rw [if_pos (gG c)];exact Tw
def aag (s:Sym):Prop:=s.fin=2∧(bK s.x).2=true∨(s.fin=3∨s.fin=4)∧((bK s.x).2=true∧(bK s.y).2=true∨s.x=s.y)
theorem qF {s:Sym} (h:aG s.x∧aG s.y) (n:Int):(aag s∧∃k,symEnd s n=⟨s.events,s.regs,1,[],[],k⟩)∨(¬aag s∧(symEnd s n=s∧(s.fin=3→eu s.x s.y<0)∨s.fin=3∧0<eu s.x s.y∧symEnd s n=⟨s.events,s.regs,s.fin,s.y,s.x,s.k⟩)):=by
  have z:eu s.x s.y=0↔s.x=s.y:=pE
  unfold symEnd aag
  rw [bZ h,if_neg (show¬(true=false) by decide)]
  by_cases c1:s.fin=2∧(bK s.x).2=true
  · rw [if_pos c1];exact Or.inl ⟨Or.inl c1,_,rfl⟩
  · rw [if_neg c1]
    by_cases c2:s.fin≠3∧s.fin≠4
    · rw [if_pos c2];exact Or.inr ⟨fun g=>g.elim c1 (fun g=>by omega),Or.inl ⟨rfl,fun g=>absurd g c2.1⟩⟩
    · rw [if_neg c2]
      by_cases c3:s.x=s.y∨(bK s.x).2=true∧(bK s.y).2=true
      · rw [if_pos c3];exact Or.inl ⟨Or.inr ⟨by omega,c3.symm⟩,_,rfl⟩
      · rw [if_neg c3]
        refine Or.inr ⟨fun g=>g.elim c1 (fun g=>c3 g.2.symm),?_⟩
        by_cases c4:s.fin=3∧0<eu s.x s.y
        · rw [if_pos c4];exact Or.inr ⟨c4.1,c4.2,rfl⟩
        · rw [if_neg c4]
          have nz:eu s.x s.y≠0:=fun e=>c3 (Or.inl (z.1 e))
          exact Or.inl ⟨rfl, fun g => by have : ¬ 0 < eu s.x s.y := fun d => c4 ⟨g, d⟩
                                         omega⟩
theorem JA {s:Sym} (h:aG s.x∧aG s.y) (n:Int):symEnd (symEnd s n) n=symEnd s n:=by
 rcases qF h n with⟨_,k,e⟩ | ⟨c,⟨e,_⟩ | ⟨f,g,e⟩⟩
 ·rw [e]
  unfold symEnd
  dsimp only
  rw [bZ ⟨bL,bL⟩,if_neg (by decide),if_neg (by simp),if_pos (by decide)]
 ·rw [e,e]
 ·rw [e]
  have fl:=H9 s.x s.y
  rcases qF (s:=⟨s.events,s.regs,s.fin,s.y,s.x,s.k⟩) ⟨h.2,h.1⟩ n with⟨d,_⟩ | ⟨_,⟨e2,_⟩ | ⟨_,g2,_⟩⟩
  ·exfalso
   refine c ?_
   rcases d with⟨d1,_⟩ | ⟨d1,d2⟩
   ·exact absurd (d1.symm.trans f) (by decide)
   ·exact Or.inr ⟨d1,d2.imp And.symm Eq.symm⟩
  ·exact e2
  ·have g2:0<eu s.y s.x:=g2
   omega
theorem akl {p1:List aj×Unit→Bool} {f1:List aj×Unit→Int×Bool×Unit} (hp1:∀a,Sh a→p1 (a,())=true) (hf1:∀a,Sh a→f1 (a,())=((bK a).1,(bK a).2,())) {p2:List aj×List aj×Unit→Bool} {f2:List aj×List aj×Unit→Int×Unit} (hp2:∀a b,Sh a→p2 (a,b,())=true) (hf2:∀a b,Sh a→f2 (a,b,())=(eu a b,())) {p3:Sym×Int×Unit→Bool} {f3:Sym×Int×Unit→Sym×Unit} (hp3:∀s n,ShY s→0≤s.fin→s.fin≤4→p3 (s,n,())=true) (hf3:∀s n,ShY s→0≤s.fin→s.fin≤4→f3 (s,n,())=(symEnd s n,())) {p4:Unit→Bool} {f4:Unit→Bool×Unit} (hp4:p4 ()=true) (hf4:f4 ()=(true,())) {p5:List aj×List aj×Unit→Bool} {f5:List aj×List aj×Unit→Bool×Unit} (hp5:∀a b,Sh a→p5 (a,b,())=true) (hf5:∀a b,Sh a→f5 (a,b,())=(bp (a=b),())) {p6:List (List aj)×List (List aj)×Unit→Bool} {f6:List (List aj)×List (List aj)×Unit→Bool×Unit} (hp6:∀a b,ShP a→p6 (a,b,())=true) (hf6:∀a b,ShP a→f6 (a,b,())=(bp (a=b),())) {p7:Sym×Sym×Unit→Bool} {f7:Sym×Sym×Unit→Bool×Unit} (hp7:∀a b,a=b→ShY a→p7 (a,b,())=true) (hf7:∀a b,a=b→ShY a→f7 (a,b,())=(true,())) {p8:List Int×Unit→Bool} {f8:List Int×Unit→Sym×Int×Unit} (hp8:∀c,By c→c.length<1000000000→p8 (c,())=true) (hf8:∀c,By c→c.length<1000000000→X8 (f8 (c,())).1∧1≤(f8 (c,())).1.fin∧(f8 (c,())).1.fin≤4) {p9:List aj×Unit→Bool} {f9:List aj×Unit→Bool×Unit} (hp9:∀a,Sh a→p9 (a,())=true) (hf9:∀a,Sh a→f9 (a,())=(bp (aG a),())) {p10:Sym×Int×Unit→Bool} {f10:Sym×Int×Unit→Sym×Unit} (af3:∀s n,ShY s→p10 (s,n,())=true) (af4:∀s n,ShY s→f10 (s,n,())=(symEnd s n,())) (c:List Int) (hc:By c):Xb (std 0) p1 f1 p2 f2 p3 f3 p4 f4 p5 f5 p6 f6 p7 f7 p8 f8 p9 f9 p10 f10 (c,()) (fun y=>y=(true,())):=by
 dsimp only [Xb,Alg.cl,Alg.cg,Alg.rb,Alg.bd,Alg.l1,Tup.q,Tup.o]
 simp (disch:=omega) only [RR]
 by_cases hl:1048576< (c.length:Int)
 ·simp (disch:=omega) only [RR,hl]
 ·obtain⟨D0,D2,D3⟩:=hf8 c hc (by omega)
  have D1:ShY (f8 (c,())).1:=D0
  have P:=hp8 c hc (by omega)
  generalize (f8 (c,())).1=s at D1 D2 D3 ⊢
  generalize (f8 (c,())).2.1=n
  have sh:=UY D1 n
  simp (disch:=omega) only [RR,RB,hl,P,hp3 s n D1 (by omega) (by omega),hf3 s n D1 (by omega) (by omega),af3 s n D1,af4 s n D1,hp7 _ _ rfl sh,hf7 _ _ rfl sh,hp9 _ D1.x,hf9 _ D1.x,hp9 _ D1.y,hf9 _ D1.y,hp1 _ D1.x,hf1 _ D1.x,hp1 _ D1.y,hf1 _ D1.y,hp4,hf4,hp5 _ _ D1.x,hf5 _ _ D1.x,hp6 _ _ sh.r,hf6 _ _ sh.r,hp2 _ _ sh.x,hf2 _ _ sh.x]
  refine⟨fun h=> ?_,fun h=> ?_⟩
  ·have no:¬(aG s.x∧aG s.y):=by
    rintro⟨a,b⟩
    rcases h with h | h
    ·rw [bZ a]at h;cases h
    ·rw [bZ b]at h;cases h
   have e:symEnd s n=QN:=by unfold symEnd;rw [if_pos (gG no)]
   rw [e];rfl
  ·have ok:aG s.x∧aG s.y:=⟨bO.1 h.1,bO.1 h.2⟩
   obtain⟨k1,k2,k3,k4⟩:=qD (n:=n) ok
   have tw:=JA ok n
   have cs:=qF ok n
   have fr:0≤(symEnd s n).fin∧(symEnd s n).fin≤4:=by
    rcases cs with⟨_,k,e⟩ | ⟨_,⟨e,_⟩ | ⟨_,_,e⟩⟩<;>rw [e]<;>(try dsimp only)<;>omega
   have A:=hp3 (symEnd s n) n sh fr.1 fr.2
   have F:=hf3 (symEnd s n) n sh fr.1 fr.2
   rw [tw]at F
   rw [F]
   dsimp only
   rw [hf7 _ _ rfl sh,k2,bZ rfl,k1]
   refine⟨A,hp7 _ _ rfl sh,fun g=>by simp at g,fun _=>⟨fun g=> ?_,fun g=> ?_⟩⟩
   ·rw [bO]at g
    rcases cs with⟨_,k,e⟩ | ⟨c,_⟩
    ·rw [e];rfl
    ·exact absurd g c
   ·have no:¬aag s:=fun o=>by
     rcases o with⟨o1,o2⟩ | ⟨o1,o2⟩
     ·have:=g.1;rw [decide_eq_true o1,o2]at this;cases this
     ·have g2:=g.2
      have e1:(decide (s.fin=3) || decide (s.fin=4))=true:=by rw [Bool.or_eq_true];exact o1.imp decide_eq_true decide_eq_true
      rw [e1,Bool.true_and,Bool.or_eq_false_iff,Bool.and_eq_false_iff]at g2
      rcases o2 with⟨o3,o4⟩ | o3
      ·rw [o3,o4]at g2;rcases g2.1 with g3 | g3<;>cases g3
      ·rw [bZ o3]at g2;cases g2.2
    rcases cs with⟨c,_⟩ | ⟨_,⟨e,f⟩ | ⟨f,g2,e⟩⟩
    ·exact absurd c no
    ·rw [e]
     by_cases c:s.fin=3
     ·rw [decide_eq_true rfl,decide_eq_true rfl,decide_eq_true (f c),Bool.or_true];rfl
     ·rw [decide_eq_true rfl,decide_eq_true rfl,decide_eq_false c];rfl
    ·rw [e]
     have fl:=H9 s.x s.y
     dsimp only
     rw [decide_eq_true rfl,decide_eq_true rfl,decide_eq_true (show eu s.y s.x<0 by omega),Bool.or_true];rfl
end Go.TX.F
namespace Go.TX
open Go Go.AE
theorem enters_of {P:Program} {f:FuncId} {fn:Func} {c:Code} (hf:P.funcs[f]? =some fn) (hname:(fn.name== "runtime.NumGoroutine")=false) (hb:fn.body=some c):Enters P f:=by
 intro args w
 have h1:fn.name≠ "runtime.NumGoroutine" :=by simpa using hname
 simp [callFunc,hf,h1,hb,mark]
def TK (P:Program):Nat→List Field→Bool
 | _,[]=>true
 | k,f::fs=> !(f.name== "_")&&f.offset==k&& (match P.underlying f.type with | some (.int _)=>true | _=>false)&&TK P (k+1) fs
theorem TL {P:Program} (w:World) (d:Nat) (xs ys:List Int) (hl:xs.length=ys.length):∀(fs:List Field) (k:Nat),TK P k fs=true→k+fs.length=xs.length→
  (Op.eqFields (d+1) (xs.map (Value.int .i64)).toArray (ys.map (Value.int .i64)).toArray fs).run P w= .ok (xs.drop k==ys.drop k) w
 | [],k,_,h2=>by
  rw [List.drop_eq_nil_of_le (show xs.length≤k by simp only [List.length_nil]at h2;omega),List.drop_eq_nil_of_le (show ys.length≤k by simp only [List.length_nil]at h2;omega)]
  simp [Op.eqFields]
 | f::fs,k,h1,h2=>by
  simp only [List.length_cons]at h2
  simp only [TK,Bool.and_eq_true,Bool.not_eq_true',beq_eq_false_iff_ne,beq_iff_eq]at h1
  obtain⟨⟨⟨n1,n2⟩,n3⟩,n4⟩:=h1
  have hk:k<xs.length:=by omega
  have hk':k<ys.length:=by omega
  obtain⟨kd,hu⟩:∃kd,P.underlying f.type=some (.int kd):=by
   cases hu:P.underlying f.type with
   | none=>rw [hu]at n3;cases n3
   | some z=>cases z<;>(first | exact⟨_,rfl⟩ | (rw [hu]at n3;cases n3))
  have pk:P.plainKey f.type=true:=by unfold Program.plainKey;rw [hu]
  have p1:=run_part_plain w pk (xs:=(xs.map (Value.int .i64)).toArray) (off:=f.offset) (v:= .int .i64 xs[k]) (by rw [n2];simp [hk])
  have p2:=run_part_plain w pk (xs:=(ys.map (Value.int .i64)).toArray) (off:=f.offset) (v:= .int .i64 ys[k]) (by rw [n2];simp [hk'])
  have ih:=TL w d xs ys hl fs (k+1) n4 (by omega)
  simp only [Op.eqFields,if_pos n1,Sem.run_bind,p1,p2,Result.andThen_ok,run_equalIn_int w d f.type .i64 kd _ _ hu]
  have e:(xs.drop k==ys.drop k)=((xs[k]==ys[k])&& (xs.drop (k+1)==ys.drop (k+1))):=by rw [List.drop_eq_getElem_cons hk,List.drop_eq_getElem_cons hk'];rfl
  rw [e]
  by_cases c:(xs[k]==ys[k])=true
  ·rw [c]
   simp only [Bool.not_true,Bool.false_eq_true,if_false,ih,Bool.true_and]
  ·have c2:(xs[k]==ys[k])=false:=by simpa using c
   rw [c2]
   simp only [Bool.not_false,if_true,Sem.run_pure,Bool.false_and]
theorem af9 {P:Program} {t:TypeId} {n:Nat} (hu:P.underlying t=some (.struct (P.fieldsOf t))) (hs:P.stoodInHeld t=false) (hg:P.eqGuardType P.depth t=false) (hf:TK P 0 (P.fieldsOf t).toList=true) (hn:(P.fieldsOf t).size=n) (xs ys:List Int) (hx:xs.length=n) (hy:ys.length=n) (w:World):
  (Op.equal t (.agg (xs.map (Value.int .i64)).toArray) (.agg (ys.map (Value.int .i64)).toArray)).run P w= .ok (xs==ys) w∧
  (eqGuard .eql t (.tmp 0) (.tmp 0) (.agg (xs.map (Value.int .i64)).toArray) (.agg (ys.map (Value.int .i64)).toArray)).run P w= .ok () w:=by
 refine⟨?_,run_eqGuard_agg w _ _ _ _ _ _ hg⟩
 show(Op.equalIn (9999+1) t _ _).run P w=_
 rw [run_equalIn_struct w 9999 t _ _ hu hs,TL w 9998 xs ys (by omega) _ 0 hf (by rw [Array.length_toList];omega)]
 rfl
abbrev amv:Sig:={args:=[.c (.rows true .u8)],objs:=[],res:=[.c .bool],dO:=[]}
def entry (W:World):Ctx:={K:=fun _ b=>b<W.heap.size,μ:=fun _=>none,n:=0}
theorem Q6 (W:World):bF (entry W) W []:=
 ⟨fun l o h=>(by cases h),fun l o l' o' b h=>(by cases h),fun f b ⟨l,o,h,_⟩=>(by cases h),fun f b h=>h,fun b h=>h⟩
theorem MQ {W W':World} {c':Ctx} {h':Heap} (g:Grow (entry W) W [] c' W' h'):RowKit.Below W.heap.size W W':=
 ⟨g.os,g.tape,g.output,g.size,fun k hk=>g.kept k hk fun⟨l,o,h,_⟩=>by cases h⟩
theorem aah {c:Ctx} {w:World} {v:Value} {r:PV} {N:NM} {b:Bool} (h1:bD c w v r) (h2:PVR N r (.c (.d true (.bool b)))):v= .bool b:=by
 cases h2 with
 | one h=>
  cases h with
  | c h=>
   cases h with
   | d h3 _=>
    subst h3
    cases h1 with
    | c _ _ h4=>cases h4 with
     | d _ _ _ h5=>cases h5;rfl
  | agg h=>cases h
theorem amw {E:Tab} {f:FuncId} {c:Ct aC amv} (hc:iR E f (iF c)) {xs:List Int} {W:World} {v:Value} (hv:dH (fun b=>b<W.heap.size) W v (.rows 1 (aK .u8 xs)))
  (hg:pJ E (entry W) W) (hp:c.pre (xs,())=true):Go.Calls E.P f #[v] W fun e W'=>e= .returned (.bool (c.fn (xs,())).1)∧RowKit.Below W.heap.size W W':=by
 refine(hc.calls [.c (.d true (.rows 1 (aK .u8 xs)))] [] 0 (fun r _ _=>PVR (nmh []) r (.c (.d true (.bool (c.fn (xs,())).1)))) ?_ (entry W) W [v] rfl (.cons (.c _ _ (.d true _ _ hv)) .nil) (Q6 W) hg).mono ?_
 ·refine⟨0,[.c (.d true (.rows .u8 xs))],[],.cons (.one (.c (.d rfl fun _=> .inl rfl))) .nil,⟨fun l o h=>(by cases h),fun _ _=>rfl⟩,rfl,_,rfl,?_,_,_,rfl,?_⟩
  ·intro b hb
   rcases List.mem_append.1 hb with h | h
   ·cases h
   ·rw [List.mem_singleton]at h;rw [h];exact hp
  ·intro r _ _ h _ _ _;exact h
 ·rintro e W' he
  cases e with
  | returned u=>
   obtain⟨c',r,h',j,g,_,_,h1,h2⟩:=he
   exact⟨by rw [aah h1 h2],MQ g⟩
  | outgrown=>exact he.elim
  | panicked _=>exact he.elim
open Go.RowKit Go.ChangeShapes Go.WideShapes Go.ChangeAt in
theorem Ya {H:Type} {enc:TypeId×Value→H} {P:Program} {t e:TypeId} (ht:P.underlying t=some (.slice e)) (he:P.underlying e=some (.int .u8)) (hc:P.cellsOf e=1) {W:World} {base:Nat} {v:Value} {d:DataW H} {p:List MemPlace}
  (hval:Value.okWide P W .any base t v) (h:DataW.Trod enc P W 0 (fun _=>true) true t v d p) (hlt:∀x∈p,x.block<W.heap.size):
  ∃xs:List Int,dH (fun b=>b<W.heap.size) W v (.rows 1 (aK .u8 xs))∧∀z∈xs,0≤z∧z≤255:=by
 obtain⟨a0,len,cap,rfl⟩:=okWide_slice ht hval
 obtain⟨fuel,hf⟩:=h
 rcases open_ints ht he hc hf with⟨hcs,hx⟩ | ⟨a,len',cap',zs,hcs,_,hl,hm,hz,hx,hcell,hwz⟩
 ·simp [Value.cells]at hcs
  obtain⟨rfl,rfl,rfl⟩:=hcs
  exact⟨[],.none _ _ _,fun _ h=>by cases h⟩
 ·simp [Value.cells]at hcs
  obtain⟨rfl,rfl,rfl⟩:=hcs
  simp only [Prod.mk.injEq]at hx
  obtain⟨rfl,rfl⟩:=hx
  simp only [if_true]at hz
  have rng:∀z∈zs,0≤z∧z≤255:=fun z hz=>by
   obtain⟨i,hi,rfl⟩:=List.getElem_of_mem hz
   have:=range_u8 hwz i
   rwa [List.getElem?_eq_getElem hi]at this
  refine⟨zs.take len,?_,fun z h=>rng z (List.mem_of_mem_take h)⟩
  by_cases h0:len=0
  ·subst h0;exact .none _ _ _
  ·obtain⟨b,off,spot⟩:=a
   have hspot:spot=none:=by simpa [Addr.add]using World.cell?_spot (hcell 0 (by omega))
   subst hspot
   have hbW:b<W.heap.size:=hlt (.cell b off) (MemPlace.mem_row.2 ⟨0,by omega,by simp⟩)
   have hlen:(aK .u8 (zs.take len)).length=len:=by simp only [aK,List.length_map,List.length_take];omega
   have hget:∀i,i<len→(aK .u8 (zs.take len)).getD i []=[.int .u8 (zs.getD i 0)]:=fun i hi=>by
    simp only [aK,List.getD,List.getElem?_map,List.getElem?_take_of_lt hi,List.getElem?_eq_getElem (show i<zs.length by omega)]
    rfl
   refine .rows b off cap 1 len _ (fun i j=> .int .u8 (zs.getD i 0)) hbW hlen.symm hl (fun i j hi hj=> ?_) (fun i hi=> ?_) (fun i j hi hj=> ?_)
   ·rw [hlen]at hi
    have:=hcell i (by omega)
    rw [add_plain]at this
    rw [show off+i*1+j=off+i by omega]
    exact this
   ·rw [hlen]at hi;rw [hget i hi];rfl
   ·rw [hlen]at hi
    have hj0:j=0:=by omega
    subst hj0
    unfold gd;rw [hget i hi];exact .int _ _
end Go.TX
namespace Go.TX.Seat
open Go Go.AE Go.TX Go.TX.F Go.Proofs
set_option maxRecDepth 100000
theorem amx:∀t n,E.ieq t=some n→∀(xs ys:List Int),xs.length=n→ys.length=n→∀w,
  (Op.equal t (.agg (xs.map (Value.int .i64)).toArray) (.agg (ys.map (Value.int .i64)).toArray)).run E.P w= .ok (xs==ys) w∧
  (eqGuard .eql t (.tmp 0) (.tmp 0) (.agg (xs.map (Value.int .i64)).toArray) (.agg (ys.map (Value.int .i64)).toArray)).run E.P w= .ok () w:=by
 intro t n h
 obtain⟨c,hc,rfl⟩:∃c,ieq t=some c∧c.size=n:=by
  have h':(ieq t).map (fun c=>c.size)=some n:=h
  cases hi:ieq t with
  | none=>rw [hi]at h';cases h'
  | some c=>rw [hi]at h';cases h';exact⟨c,rfl,rfl⟩
 unfold ieq at hc
 split at hc
 all_goals first | (cases hc;exact af9 (by kernel_rfl) (by kernel_rfl) (by kernel_rfl) (by kernel_rfl) (by kernel_rfl)) | cases hc
theorem hE:aF E:=⟨amg,amx⟩
theorem amy:∀t c,X.ieq t=some c→(c= .ins∧E.ieq t=some 4)∨(c= .iop∧E.ieq t=some 5):=by
 intro t c h
 have h:ieq t=some c:=h
 have e:E.ieq t=(ieq t).map fun c=>c.size:=rfl
 rw [e,h]
 unfold ieq at h
 split at h
 all_goals first | (cases h;first | exact Or.inl ⟨rfl,rfl⟩ | exact Or.inr ⟨rfl,rfl⟩) | cases h
theorem xok:XOK X E:=⟨rfl,fun g c h=>(by cases h),amy⟩
theorem hm:E.P.follows .mixedOrders=true:=by kernel_rfl
theorem hlN:∀p∈([]:List (FuncId×Sigma (Ct aC))),iR E p.1 (iF p.2.2):=fun _ h=>by cases h
theorem hlC {f:FuncId} {s:Sig} {c:Ct aC s} {l:List (FuncId×Sigma (Ct aC))} (h:iR E f (iF c)) (r:∀p∈l,iR E p.1 (iF p.2.2)):∀p∈(f,⟨s,c⟩)::l,iR E p.1 (iF p.2.2):=fun p hp=>by
 rcases List.mem_cons.1 hp with rfl | hp
 ·exact h
 ·exact r p hp
@[reducible] def _root_.Go.TX.Fn.c {E : Tab} {f : FuncId} {s : Sig} {F : gM s.inp → (gM s.out → Prop) → Prop} {c : Ct aC s} (_ : Fn E f F c) : Ct aC s := c
theorem mk {lk:aL} {f:FuncId} {fn:Func} (hf:E.P.funcs[f]? =some fn) {l:List (FuncId×Sigma (Ct aC))} (hl:∀p∈l,iR E p.1 (iF p.2.2)) {ord:List (Nat×List eP)} {s:Sig} {an:Ann}
 {F:gM s.inp→(gM s.out→Prop)→Prop} (h:Ru X E (std 0) ord an s fn l F) (hb:fn.body.isSome=true:=by rfl) (hn:(fn.name== "runtime.NumGoroutine")=false:=by kernel_rfl):Fn E f F (cn F):=alC hE xok hm hf hb (fun _=>enters_of hf hn) hl h
end Go.TX.Seat
namespace Go.TX.F
open Go Go.AE Go.TX Go.TX.Seat Go.Proofs
set_option maxRecDepth 100000
def JB:=mk Tryz.func20 hlN (ade (std 0))
noncomputable def FJ:=JB.c
def aga:=fun b hb hl=>(JB.cs (XC b hb hl)).1
def agb:=fun b hb hl=>(JB.cs (XC b hb hl)).2
def jV:=mk Tryz.func22 hlN (adf (std 0))
noncomputable def aY:=jV.c
def oH:=fun n b p hb h1 h2=>(jV.cs (XD n b p hb h1 h2)).1
def oI:=fun n b p hb h1 h2=>(jV.cs (XD n b p hb h1 h2)).2
def jJ:=mk Tryz.func48 hlN (adg (std 0))
noncomputable def aU:=jJ.c
def kJ:=fun a b c=>(jJ.cs (Xl a b c)).1
def kK:=fun a b c=>(jJ.cs (Xl a b c)).2
def xK:=mk Tryz.func23 (hlC jJ.ok hlN) (adh (std 0) aU)
noncomputable def dY:=xK.c
def qV:=fun a=>xK.cs (aeW kJ kK a)
def F5:=fun a=>(qV a).1
def F6:=fun a=>(qV a).2
def F7:=mk Tryz.func24 (hlC jV.ok hlN) (adi (std 0) aY)
noncomputable def iZ:=F7.c
def tV:=fun b p hb h1 h2=>F7.cs (afk oH oI b p hb h1 h2)
def Q7:=fun b p hb h1 h2=>(tV b p hb h1 h2).1
def Q8:=fun b p hb h1 h2=>(tV b p hb h1 h2).2
def Q9:=mk Tryz.func37 (hlC jJ.ok hlN) (adj (std 0) aU)
noncomputable def Ez:=Q9.c
def vX:=fun m hm=>Q9.cs (aeY kJ kK m hm)
def agc:=fun m hm=>(vX m hm).1
def agd:=fun m hm=>(vX m hm).2
def Ac:=mk Tryz.func38 hlN (adk (std 0))
noncomputable def iX:=Ac.c
def Ra:=fun a b ha=>(Ac.cs (Xq a b ha)).1
def Rb:=fun a b ha=>(Ac.cs (Xq a b ha)).2
def qG:=mk Tryz.func9 (hlC Q9.ok (hlC Ac.ok hlN)) (adl (std 0) Ez iX)
noncomputable def bT:=qG.c
def yV:=fun a ha=>qG.cs (aeZ agc agd Ra Rb a ha)
def xL:=fun a ha=>(yV a ha).1
def xM:=fun a ha=>(yV a ha).2
def xO:=mk Tryz.func105 hlN (adn (std 0))
noncomputable def gu:=xO.c
def JC:=fun a=>(xO.cs (Xp a)).1
def JD:=fun a=>(xO.cs (Xp a)).2
def JE:=mk Tryz.func106 (hlC Ac.ok (hlC xO.ok hlN)) (ado (std 0) iX gu)
noncomputable def nI:=JE.c
def vY:=fun l m hl hn hm hma=>JE.cs (afe Ra Rb JC JD l m hl hn hm hma)
def Yb:=fun l m hl hn hm hma=>(vY l m hl hn hm hma).1
def Yc:=fun l m hl hn hm hma=>(vY l m hl hn hm hma).2
def kL:=mk Tryz.func32 hlN (adp (std 0))
noncomputable def bq:=kL.c
def qH:=fun a ha=>(kL.cs (Xv a ha)).1
def qI:=fun a ha=>(kL.cs (Xv a ha)).2
def JF:=mk Tryz.func107 (hlC kL.ok hlN) (adq (std 0) bq)
noncomputable def nJ:=JF.c
def yX:=fun a ha=>JF.cs (ae6 qH qI a ha)
def Yd:=fun a ha=>(yX a ha).1
def Ye:=fun a ha=>(yX a ha).2
def F8:=mk Tryz.func57 (hlC qG.ok (hlC JE.ok (hlC JF.ok hlN))) (adr (std 0) bT nI nJ)
noncomputable def iY:=F8.c
def vZ:=fun a b ha hb=>F8.cs (aff xL xM Yb Yc Yd Ye a b ha hb)
def Rc:=fun a b ha hb=>(vZ a b ha hb).1
def Rf:=fun a b ha hb=>(vZ a b ha hb).2
def xP:=mk Tryz.func58 (hlC jJ.ok hlN) (ads (std 0) aU)
noncomputable def dX:=xP.c
def tX:=fun a=>xP.cs (aeX kJ kK a)
def F9:=fun a=>(tX a).1
def Ga:=fun a=>(tX a).2
def JG:=mk Tryz.func169 hlN (adt (std 0))
noncomputable def EA:=JG.c
def agf:=fun a b ha hb sa sb=>(JG.cs (Xy a b ha hb sa sb)).1
def agh:=fun a b ha hb sa sb=>(JG.cs (Xy a b ha hb sa sb)).2
def JH:=mk Tryz.func138 (hlC qG.ok (hlC xO.ok (hlC JE.ok (hlC JG.ok (hlC JF.ok hlN))))) (adu (std 0) bT gu nI EA nJ)
noncomputable def nK:=JH.c
def wm:=fun a b ha hb=>JH.cs (afg xL xM JC JD Yb Yc agf agh Yd Ye a b ha hb)
def Yf:=fun a b ha hb=>(wm a b ha hb).1
def Yg:=fun a b ha hb=>(wm a b ha hb).2
def Rh:=mk Tryz.func103 (hlC jV.ok (hlC xP.ok (hlC JH.ok (hlC F8.ok (hlC xK.ok (hlC F7.ok hlN)))))) (adw (std 0) aY dX nK iY dY iZ)
noncomputable def EC:=Rh.c
def tY:=fun n b p hb hn h1 h2=>Rh.cs (afl oH oI F9 Ga Yf Yg Rc Rf F5 F6 Q7 Q8 n b p hb hn h1 h2)
def agi:=fun n b p hb hn h1 h2=>(tY n b p hb hn h1 h2).1
def agj:=fun n b p hb hn h1 h2=>(tY n b p hb hn h1 h2).2
def Ri:=mk Tryz.func104 (hlC jV.ok hlN) (adx (std 0) aY)
noncomputable def EB:=Ri.c
def pG:=fun n b p hb h1 h2=>Ri.cs (afj oH oI n b p hb h1 h2)
def agk:=fun n b p hb h1 h2=>(pG n b p hb h1 h2).1
def agl:=fun n b p hb h1 h2=>(pG n b p hb h1 h2).2
def Rj:=mk Tryz.func55 (hlC Ri.ok (hlC jV.ok (hlC Rh.ok hlN))) (ady (std 0) EB aY EC)
noncomputable def ED:=Rj.c
def pI:=fun n b p hb h1 h2=>Rj.cs (af5 agk agl oH oI agi agj n b p hb h1 h2)
def agm:=fun n b p hb h1 h2=>(pI n b p hb h1 h2).1
def agn:=fun n b p hb h1 h2=>(pI n b p hb h1 h2).2
def xQ:=mk Tryz.func87 hlN (adz (std 0))
noncomputable def gy:=xQ.c
def JI:=fun a=>(xQ.cs (Xm a)).1
def JJ:=fun a=>(xQ.cs (Xm a)).2
def JK:=mk Tryz.func56 (hlC qG.ok (hlC xO.ok (hlC kL.ok (hlC xQ.ok hlN)))) (adA (std 0) bT gu bq gy)
noncomputable def nL:=JK.c
def qW:=fun a n ha=>JK.cs (afh xL xM JC JD qH qI JI JJ a n ha)
def Yh:=fun a n ha=>(qW a n ha).1
def Yi:=fun a n ha=>(qW a n ha).2
def Rk:=mk Tryz.func21 (hlC F8.ok (hlC xK.ok (hlC JK.ok (hlC jV.ok (hlC F7.ok (hlC Rj.ok hlN)))))) (adB (std 0) iY dY nL aY iZ ED)
noncomputable def FL:=Rk.c
def wo:=fun n b p hb h1 h2=>Rk.cs (af6 Rc Rf F5 F6 Yh Yi oH oI Q7 Q8 agm agn n b p hb h1 h2)
def agp:=fun n b p hb h1 h2=>(wo n b p hb h1 h2).1
def agq:=fun n b p hb h1 h2=>(wo n b p hb h1 h2).2
def JL:=mk Tryz.func25 (hlC xP.ok hlN) (adC (std 0) dX)
noncomputable def nW:=JL.c
def wu:=JL.cs (afm F9 Ga)
def Yj:=(wu).1
def Yk:=(wu).2
def Gb:=mk Tryz.func33 (hlC kL.ok hlN) (adD (std 0) bq)
noncomputable def jd:=Gb.c
def tZ:=fun a ha=>Gb.cs (afW qH qI a ha)
def Rl:=fun a ha=>(tZ a ha).1
def Rm:=fun a ha=>(tZ a ha).2
def Gc:=mk Tryz.func34 (hlC qG.ok hlN) (adE (std 0) bT)
noncomputable def jc:=Gc.c
def wz:=fun a ha=>Gc.cs (ae5 xL xM a ha)
def Rn:=fun a ha=>(wz a ha).1
def Ro:=fun a ha=>(wz a ha).2
def Gd:=mk Tryz.func35 hlN (adF (std 0))
noncomputable def nM:=Gd.c
def Yl:=fun s k=>(Gd.cs (X5 s k)).1
def Ym:=fun s k=>(Gd.cs (X5 s k)).2
def Ad:=mk Tryz.func79 (hlC Ac.ok hlN) (adG (std 0) iX)
noncomputable def gB:=Ad.c
def qX:=fun a b ha=>Ad.cs (ae0 Ra Rb a b ha)
def JM:=fun a b ha=>(qX a b ha).1
def JN:=fun a b ha=>(qX a b ha).2
def Rp:=mk Tryz.func36 (hlC Gc.ok (hlC Ad.ok (hlC Gd.ok hlN))) (adH (std 0) jc gB nM)
noncomputable def EF:=Rp.c
def A8:=fun s n hs hx hy hf=>Rp.cs (afZ Rn Ro JM JN Yl Ym s n hs hx hy hf)
def agr:=fun s n hs hx hy hf=>(A8 s n hs hx hy hf).1
def ags:=fun s n hs hx hy hf=>(A8 s n hs hx hy hf).2
def JO:=mk Tryz.func8 (hlC Gc.ok (hlC qG.ok (hlC kL.ok (hlC Gd.ok (hlC Rp.ok (hlC Gb.ok hlN)))))) (adI (std 0) jc bT bq nM EF jd)
noncomputable def nU:=JO.c
def wB:=fun s n hs=>JO.cs (af0 Rn Ro xL xM qH qI Yl Ym agr ags Rl Rm s n hs)
def Yn:=fun s n hs=>(wB s n hs).1
def Yo:=fun s n hs=>(wB s n hs).2
def Rq:=mk Tryz.func130 (hlC jJ.ok hlN) (adJ (std 0) aU)
noncomputable def EG:=Rq.c
def uf:=fun k=>Rq.cs (afp kJ kK k)
def agt:=fun k=>(uf k).1
def agu:=fun k=>(uf k).2
def JQ:=mk Tryz.func88 (hlC Rq.ok hlN) (adK (std 0) EG)
noncomputable def nN:=JQ.c
def yY:=fun ops x n h1=>JQ.cs (afq agt agu ops x n h1)
def Yp:=fun ops x n h1=>(yY ops x n h1).1
def Yq:=fun ops x n h1=>(yY ops x n h1).2
def Rs:=mk Tryz.func49 (hlC xQ.ok (hlC jJ.ok (hlC JQ.ok hlN))) (adL (std 0) gy aU nN)
noncomputable def EI:=Rs.c
def A9:=fun ops i len h0 h1 h3=>Rs.cs (afr JI JJ kJ kK Yp Yq ops i len h0 h1 h3)
def agv:=fun ops i len h0 h1 h3=>(A9 ops i len h0 h1 h3).1
def agw:=fun ops i len h0 h1 h3=>(A9 ops i len h0 h1 h3).2
def Rt:=mk Tryz.func50 (hlC xQ.ok (hlC JQ.ok hlN)) (adM (std 0) gy nN)
noncomputable def EH:=Rt.c
def yZ:=fun b=>Rt.cs (afu JI JJ Yp Yq b)
def agx:=fun b=>(yZ b).1
def agy:=fun b=>(yZ b).2
def ug:=mk Tryz.func18 (hlC jJ.ok (hlC Rt.ok (hlC Rs.ok hlN))) (adN (std 0) aU EH EI)
noncomputable def dz:=ug.c
def Ba:=fun b h2=>ug.cs (afv kJ kK agx agy agv agw b h2)
def Ae:=fun b h2=>(Ba b h2).1
def Af:=fun b h2=>(Ba b h2).2
def JR:=mk Tryz.func139 hlN (adO (std 0))
noncomputable def EK:=JR.c
def agz:=fun a=>(JR.cs (Xt a)).1
def agA:=fun a=>(JR.cs (Xt a)).2
def JU:=mk Tryz.func140 hlN (adP (std 0))
noncomputable def EJ:=JU.c
def agB:=fun a n ha=>(JU.cs (Xr a n ha)).1
def agC:=fun a n ha=>(JU.cs (Xr a n ha)).2
def JV:=mk Tryz.func108 (hlC jJ.ok (hlC qG.ok (hlC JU.ok (hlC JR.ok hlN)))) (adQ (std 0) aU bT EJ EK)
noncomputable def nO:=JV.c
def wC:=fun a n ha=>JV.cs (ae1 kJ kK xL xM agB agC agz agA a n ha)
def Yr:=fun a n ha=>(wC a n ha).1
def Yt:=fun a n ha=>(wC a n ha).2
def JW:=mk Tryz.func109 (hlC Ad.ok hlN) (adR (std 0) gB)
noncomputable def nP:=JW.c
def wD:=fun a b ha=>JW.cs (ae2 JM JN a b ha)
def Yu:=fun a b ha=>(wD a b ha).1
def Yv:=fun a b ha=>(wD a b ha).2
def Rv:=mk Tryz.func59 (hlC JV.ok (hlC JW.ok hlN)) (adS (std 0) nO nP)
noncomputable def EP:=Rv.c
def y7:=fun a ha=>Rv.cs (ae3 Yr Yt Yu Yv a ha)
def agD:=fun a ha=>(y7 a ha).1
def agE:=fun a ha=>(y7 a ha).2
end Go.TX.F
namespace Go.TX.F
open Go Go.AE Go.TX Go.TX.Seat Go.Proofs
set_option maxRecDepth 100000
def JX:=mk Tryz.func110 (hlC kL.ok hlN) (adT (std 0) bq)
noncomputable def nQ:=JX.c
def wE:=fun a ha=>JX.cs (ae7 qH qI a ha)
def Yw:=fun a ha=>(wE a ha).1
def Yx:=fun a ha=>(wE a ha).2
def Rw:=mk Tryz.func60 (hlC JX.ok hlN) (adU (std 0) nQ)
noncomputable def ER:=Rw.c
def wF:=fun a ha=>Rw.cs (ae8 Yw Yx a ha)
def agF:=fun a ha=>(wF a ha).1
def agG:=fun a ha=>(wF a ha).2
def Gf:=mk Tryz.func61 (hlC JV.ok (hlC JW.ok (hlC JX.ok hlN))) (adV (std 0) nO nP nQ)
noncomputable def je:=Gf.c
def y8:=fun a t ha ht hok=>Gf.cs (ae9 Yr Yt Yu Yv Yw Yx a t ha ht hok)
def Rx:=fun a t ha ht hok=>(y8 a t ha ht hok).1
def Ry:=fun a t ha ht hok=>(y8 a t ha ht hok).2
def JY:=mk Tryz.func62 hlN (adW (std 0))
noncomputable def EZ:=JY.c
def agH:=fun k l=>(JY.cs (X3 k l)).1
def agI:=fun k l=>(JY.cs (X3 k l)).2
def Rz:=mk Tryz.func111 (hlC JH.ok (hlC F8.ok (hlC JK.ok hlN))) (adX (std 0) nK iY nL)
noncomputable def EM:=Rz.c
def wG:=fun op x y hx hy=>Rz.cs (afc Yf Yg Rc Rf Yh Yi op x y hx hy)
def agJ:=fun op x y hx hy=>(wG op x y hx hy).1
def agK:=fun op x y hx hy=>(wG op x y hx hy).2
def JZ:=mk Tryz.func141 (hlC xO.ok (hlC xQ.ok hlN)) (adY (std 0) gu gy)
noncomputable def nS:=JZ.c
def y9:=fun op a b=>JZ.cs (ae4 JI JJ JC JD op a b)
def Yy:=fun op a b=>(y9 op a b).1
def Yz:=fun op a b=>(y9 op a b).2
def RA:=mk Tryz.func142 (hlC kL.ok hlN) (adZ (std 0) bq)
noncomputable def EL:=RA.c
def wH:=fun op n y hy=>RA.cs (afa qH qI op n y hy)
def agL:=fun op n y hy=>(wH op n y hy).1
def agM:=fun op n y hy=>(wH op n y hy).2
def RD:=mk Tryz.func112 (hlC Ad.ok (hlC kL.ok (hlC JZ.ok (hlC xK.ok (hlC Gc.ok (hlC RA.ok hlN)))))) (ad1 (std 0) gB bq nS dY jc EL)
noncomputable def EN:=RD.c
def wI:=fun op x y hx hy=>RD.cs (afb JM JN qH qI Yy Yz F5 F6 Rn Ro agL agM op x y hx hy)
def agN:=fun op x y hx hy=>(wI op x y hx hy).1
def agO:=fun op x y hx hy=>(wI op x y hx hy).2
def RF:=mk Tryz.func63 (hlC xP.ok (hlC Ad.ok (hlC Rz.ok (hlC RD.ok (hlC Gf.ok hlN))))) (ad2 (std 0) dX gB EM EN je)
noncomputable def ET:=RF.c
def Bb:=fun op x y t hop hx hy ht hok=>RF.cs (afd F9 Ga JM JN agJ agK agN agO Rx Ry op x y t hop hx hy ht hok)
def agP:=fun op x y t hop hx hy ht hok=>(Bb op x y t hop hx hy ht hok).1
def agQ:=fun op x y t hop hx hy ht hok=>(Bb op x y t hop hx hy ht hok).2
def J2:=mk Tryz.func113 hlN (ad3 (std 0))
noncomputable def EO:=J2.c
def agR:=fun l k hl=>(J2.cs (X4 l k hl)).1
def agS:=fun l k hl=>(J2.cs (X4 l k hl)).2
def RG:=mk Tryz.func64 (hlC xP.ok (hlC Gf.ok (hlC J2.ok hlN))) (ad4 (std 0) dX je EO)
noncomputable def EU:=RG.c
def uh:=fun l k t hl ht hk=>RG.cs (afX F9 Ga Rx Ry agR agS l k t hl ht hk)
def agT:=fun l k t hl ht hk=>(uh l k t hl ht hk).1
def agU:=fun l k t hl ht hk=>(uh l k t hl ht hk).2
def RH:=mk Tryz.func65 (hlC kL.ok (hlC Gb.ok hlN)) (ad5 (std 0) bq jd)
noncomputable def EW:=RH.c
def uj:=fun o x y r hx hy hr=>RH.cs (afY qH qI Rl Rm o x y r hx hy hr)
def agV:=fun o x y r hx hy hr=>(uj o x y r hx hy hr).1
def agW:=fun o x y r hx hy hr=>(uj o x y r hx hy hr).2
def J3:=mk Tryz.func66 hlN (ad6 (std 0))
noncomputable def E5:=J3.c
def agX:=fun b=>(J3.cs (X6 b)).1
def agY:=fun b=>(J3.cs (X6 b)).2
def J4:=mk Tryz.func67 hlN (ad7 (std 0))
noncomputable def E8:=J4.c
def agZ:=fun b=>(J4.cs (X7 b)).1
def ag0:=fun b=>(J4.cs (X7 b)).2
def RJ:=mk Tryz.func26 (hlC ug.ok (hlC xP.ok (hlC xK.ok (hlC JO.ok (hlC JL.ok (hlC Rv.ok (hlC kL.ok (hlC Rw.ok (hlC RF.ok (hlC Gf.ok (hlC RG.ok (hlC RH.ok (hlC JY.ok (hlC Gb.ok (hlC J3.ok (hlC J4.ok hlN)))))))))))))))) (ad8 (std 0) dz dX dY nU nW EP bq ER ET je EU EW EZ jd E5 E8)
noncomputable def FH:=RJ.c
def wJ:=fun t b ht hb=>RJ.cs (af2 Ae Af F9 Ga F5 F6 Yn Yo Yj Yk agD agE qH qI agF agG agP agQ Rx Ry agT agU agV agW agH agI Rl Rm agX agY agZ ag0 t b ht hb)
def ag1:=fun t b ht hb=>(wJ t b ht hb).1
def ag2:=fun t b ht hb=>(wJ t b ht hb).2
def RL:=mk Tryz.func143 (hlC jV.ok hlN) (ad9 (std 0) aY)
noncomputable def Fa:=RL.c
def wK:=fun b p hb h1 h2=>RL.cs (afI oH oI b p hb h1 h2)
def ag3:=fun b p hb h1 h2=>(wK b p hb h1 h2).1
def ag4:=fun b p hb h1 h2=>(wK b p hb h1 h2).2
def RN:=mk Tryz.func170 hlN (aea (std 0))
noncomputable def E9:=RN.c
def ag5:=fun i=>(RN.cs (afx i)).1
def J5:=mk Tryz.func145 (hlC jJ.ok (hlC RN.ok hlN)) (aeb (std 0) aU E9)
noncomputable def nY:=J5.c
def J6:=fun i=>J5.cs (afy kJ kK ag5 i)
def YA:=fun i=>(J6 i).1
def J7:=mk Tryz.func146 hlN (aec (std 0))
noncomputable def nX:=J7.c
def YB:=fun i=>(J7.cs (afz i)).1
def J8:=mk Tryz.func144 (hlC J7.ok (hlC J5.ok hlN)) (aed (std 0) nX nY)
noncomputable def nZ:=J8.c
def Gg:=fun i=>J8.cs (afA YB YA i)
def YC:=fun i=>(Gg i).1
def RO:=mk Tryz.func114 (hlC RL.ok (hlC jV.ok (hlC J8.ok hlN))) (aee (std 0) Fa aY nZ)
noncomputable def Fb:=RO.c
def um:=fun b p hb h1 h2=>RO.cs (afJ ag3 ag4 oH oI YC b p hb h1 h2)
def ag6:=fun b p hb h1 h2=>(um b p hb h1 h2).1
def ag7:=fun b p hb h1 h2=>(um b p hb h1 h2).2
def RP:=mk Tryz.func68 (hlC RO.ok (hlC jV.ok hlN)) (aef (std 0) Fb aY)
noncomputable def FD:=RP.c
def uo:=fun b p hb h1 h2=>RP.cs (afK ag6 ag7 oH oI b p hb h1 h2)
def ag8:=fun b p hb h1 h2=>(uo b p hb h1 h2).1
def ag9:=fun b p hb h1 h2=>(uo b p hb h1 h2).2
def RQ:=mk Tryz.func115 (hlC J7.ok (hlC J5.ok (hlC jJ.ok (hlC J8.ok hlN)))) (aeg (std 0) nX nY aU nZ)
noncomputable def Fj:=RQ.c
def J9:=fun pc l hl=>RQ.cs (afB YB YA kJ kK YC pc l hl)
def aha:=fun pc l hl=>(J9 pc l hl).1
def uw:=mk Tryz.func147 hlN (aeh (std 0))
noncomputable def dZ:=uw.c
def xR:=fun a1 a2 a3 a4 a5 a6 o ops hl=>(uw.cs (XL a1 a2 a3 a4 a5 a6 o ops hl)).1
def xS:=fun a1 a2 a3 a4 a5 a6 o ops hl=>(uw.cs (XL a1 a2 a3 a4 a5 a6 o ops hl)).2
def Gh:=mk Tryz.func148 (hlC uw.ok hlN) (aei (std 0) dZ)
noncomputable def oh:=Gh.c
def YD:=fun a1 a2 a3 a4 a5 a6 k x ops hl=>(Gh.cs (XO xR xS a1 a2 a3 a4 a5 a6 k x ops hl)).1
def YE:=fun a1 a2 a3 a4 a5 a6 k x ops hl=>(Gh.cs (XO xR xS a1 a2 a3 a4 a5 a6 k x ops hl)).2
def xU:=mk Tryz.func149 (hlC uw.ok hlN) (aej (std 0) dZ)
noncomputable def gF:=xU.c
def Gi:=fun a1 a2 a3 a4 a5 a6 k ops hl=>(xU.cs (XM xR xS a1 a2 a3 a4 a5 a6 k ops hl)).1
def Gj:=fun a1 a2 a3 a4 a5 a6 k ops hl=>(xU.cs (XM xR xS a1 a2 a3 a4 a5 a6 k ops hl)).2
def Ka:=mk Tryz.func150 (hlC xU.ok (hlC uw.ok hlN)) (aek (std 0) gF dZ)
noncomputable def og:=Ka.c
def qY:=fun a1 a2 a3 a4 a5 a6 k a o ops hl=>Ka.cs (afC Gi Gj xR xS a1 a2 a3 a4 a5 a6 k a o ops hl)
def YF:=fun a1 a2 a3 a4 a5 a6 k a o ops hl=>(qY a1 a2 a3 a4 a5 a6 k a o ops hl).1
def YG:=fun a1 a2 a3 a4 a5 a6 k a o ops hl=>(qY a1 a2 a3 a4 a5 a6 k a o ops hl).2
def RS:=mk Tryz.func151 hlN (ael (std 0))
noncomputable def Fh:=RS.c
def ahb:=fun k hk=>(RS.cs (afE k hk)).1
def RU:=mk Tryz.func152 (hlC xU.ok (hlC uw.ok (hlC Ka.ok (hlC Gh.ok hlN)))) (aem (std 0) gF dZ og oh)
noncomputable def Fg:=RU.c
def uz:=fun a1 a2 a3 a4 a5 a6 i k ops hl=>RU.cs (afD Gi Gj xR xS YF YG YD YE a1 a2 a3 a4 a5 a6 i k ops hl)
def ahc:=fun a1 a2 a3 a4 a5 a6 i k ops hl=>(uz a1 a2 a3 a4 a5 a6 i k ops hl).1
def ahd:=fun a1 a2 a3 a4 a5 a6 i k ops hl=>(uz a1 a2 a3 a4 a5 a6 i k ops hl).2
def Kc:=mk Tryz.func153 (hlC xU.ok hlN) (aen (std 0) gF)
noncomputable def Fe:=Kc.c
def ahe:=fun a1 a2 a3 a4 a5 a6 i ops hl=>(Kc.cs (XP Gi Gj a1 a2 a3 a4 a5 a6 i ops hl)).1
def ahf:=fun a1 a2 a3 a4 a5 a6 i ops hl=>(Kc.cs (XP Gi Gj a1 a2 a3 a4 a5 a6 i ops hl)).2
def RV:=mk Tryz.func116 (hlC xU.ok (hlC Kc.ok (hlC uw.ok (hlC RU.ok (hlC Ka.ok (hlC Gh.ok (hlC RS.ok hlN))))))) (aeo (std 0) gF Fe dZ Fg og oh Fh)
noncomputable def Fp:=RV.c
def za:=fun a1 a2 a3 a4 a5 a6 i k ops hk hl=>RV.cs (afF Gi Gj ahe ahf xR xS ahc ahd YF YG YD YE ahb a1 a2 a3 a4 a5 a6 i k ops hk hl)
def ahg:=fun a1 a2 a3 a4 a5 a6 i k ops hk hl=>(za a1 a2 a3 a4 a5 a6 i k ops hk hl).1
def ahh:=fun a1 a2 a3 a4 a5 a6 i k ops hk hl=>(za a1 a2 a3 a4 a5 a6 i k ops hk hl).2
def RX:=mk Tryz.func69 (hlC RQ.ok (hlC RV.ok hlN)) (aep (std 0) Fj Fp)
noncomputable def FB:=RX.c
def qZ:=fun pc l hl hk=>RX.cs (afG aha ahg ahh pc l hl hk)
def ahi:=fun pc l hl hk=>(qZ pc l hl hk).1
def ahj:=fun pc l hl hk=>(qZ pc l hl hk).2
def Gm:=mk Tryz.func120 hlN (aer (std 0))
noncomputable def oq:=Gm.c
def YH:=fun b hb=>(Gm.cs (XQ b hb)).1
def YI:=fun b hb=>(Gm.cs (XQ b hb)).2
def Gn:=mk Tryz.func121 (hlC jJ.ok hlN) (aes (std 0) aU)
noncomputable def om:=Gn.c
def YJ:=fun o al hk hx hy=>(Gn.cs (XV kJ kK o al hk hx hy)).1
def YK:=fun o al hk hx hy=>(Gn.cs (XV kJ kK o al hk hx hy)).2
def Ke:=mk Tryz.func71 (hlC ug.ok (hlC Gn.ok (hlC Gm.ok hlN))) (aeu (std 0) dz om oq)
noncomputable def oC:=Ke.c
def uD:=fun b hb=>Ke.cs (afU Ae Af YJ YK YH YI b hb)
def YL:=fun b hb=>(uD b hb).1
def YM:=fun b hb=>(uD b hb).2
end Go.TX.F
namespace Go.TX.F
open Go Go.AE Go.TX Go.TX.Seat Go.Proofs
set_option maxRecDepth 100000
def Kg:=mk Tryz.func154 (hlC Gn.ok hlN) (aev (std 0) om)
noncomputable def ou:=Kg.c
def uE:=fun b kp ok hk=>Kg.cs (afQ YJ YK b kp ok hk)
def YN:=fun b kp ok hk=>(uE b kp ok hk).1
def YO:=fun b kp ok hk=>(uE b kp ok hk).2
def RY:=mk Tryz.func155 (hlC ug.ok (hlC jJ.ok hlN)) (aew (std 0) dz aU)
noncomputable def Fq:=RY.c
def uF:=fun b hb=>RY.cs (afP Ae Af kJ kK b hb)
def ahk:=fun b hb=>(uF b hb).1
def ahl:=fun b hb=>(uF b hb).2
def RZ:=mk Tryz.func117 (hlC ug.ok (hlC RY.ok (hlC Kg.ok hlN))) (aex (std 0) dz Fq ou)
noncomputable def Fy:=RZ.c
def uG:=fun b hb=>RZ.cs (afR Ae Af ahk ahl YN YO b hb)
def ahm:=fun b hb=>(uG b hb).1
def ahn:=fun b hb=>(uG b hb).2
def Kh:=mk Tryz.func156 hlN (aey (std 0))
noncomputable def Fu:=Kh.c
def aho:=fun ops k h0 h1 h2=>(Kh.cs (XW ops k h0 h1 h2)).1
def ahp:=fun ops k h0 h1 h2=>(Kh.cs (XW ops k h0 h1 h2)).2
def R3:=mk Tryz.func118 (hlC ug.ok (hlC Kg.ok (hlC Kh.ok hlN))) (aez (std 0) dz ou Fu)
noncomputable def Fz:=R3.c
def uH:=fun b hb=>R3.cs (afS Ae Af YN YO aho ahp b hb)
def ahq:=fun b hb=>(uH b hb).1
def ahr:=fun b hb=>(uH b hb).2
def Gp:=mk Tryz.func157 hlN (aeA (std 0))
noncomputable def ow:=Gp.c
def YP:=fun ops k=>(Gp.cs (XR ops k)).1
def YQ:=fun ops k=>(Gp.cs (XR ops k)).2
def Ki:=mk Tryz.func171 hlN (aeB (std 0))
noncomputable def Fv:=Ki.c
def ahs:=fun b k=>(Ki.cs (XU b k)).1
def aht:=fun b k=>(Ki.cs (XU b k)).2
def R4:=mk Tryz.func158 (hlC Ki.ok (hlC Gp.ok hlN)) (aeC (std 0) Fv ow)
noncomputable def Fw:=R4.c
def uI:=fun b h=>R4.cs (afL ahs aht YP YQ b h)
def ahu:=fun b h=>(uI b h).1
def ahv:=fun b h=>(uI b h).2
def R5:=mk Tryz.func119 (hlC ug.ok (hlC JZ.ok (hlC R4.ok (hlC Gp.ok (hlC Gm.ok hlN))))) (aeD (std 0) dz nS Fw ow oq)
noncomputable def Fx:=R5.c
def q8:=fun b hb=>R5.cs (afO Ae Af Yy Yz ahu ahv YP YQ YH YI b hb)
def ahw:=fun b hb=>(q8 b hb).1
def ahx:=fun b hb=>(q8 b hb).2
def R6:=mk Tryz.func70 (hlC R5.ok (hlC Ke.ok (hlC RZ.ok (hlC R3.ok hlN)))) (aeE (std 0) Fx oC Fy Fz)
noncomputable def FC:=R6.c
def wL:=fun b hb=>R6.cs (afM ahw ahx YL YM ahm ahn ahq ahr b hb)
def ahy:=fun b hb=>(wL b hb).1
def ahz:=fun b hb=>(wL b hb).2
def R7:=mk Tryz.func27 (hlC RX.ok (hlC R6.ok (hlC Ke.ok (hlC jV.ok (hlC RP.ok hlN))))) (aeF (std 0) FB FC oC aY FD)
noncomputable def FK:=R7.c
def q9:=fun b p hb h1 h2=>R7.cs (afV ahi ahj ahy ahz YL YM oH oI ag8 ag9 b p hb h1 h2)
def ahA:=fun b p hb h1 h2=>(q9 b p hb h1 h2).1
def ahB:=fun b p hb h1 h2=>(q9 b p hb h1 h2).2
def R8:=mk Tryz.func5 (hlC xK.ok (hlC JL.ok (hlC RJ.ok (hlC JB.ok (hlC jV.ok (hlC F7.ok (hlC R7.ok (hlC Rk.ok hlN)))))))) (aeG (std 0) dY nW FH FJ aY iZ FK FL)
noncomputable def FN:=R8.c
def mO:=fun c hc hl=>R8.cs (af8 F5 F6 Yj Yk ag1 ag2 aga agb oH oI Q7 Q8 ahA ahB agp agq c hc hl)
def ahC:=fun c hc hl=>(mO c hc hl).1
def ahD:=fun c hc hl=>(mO c hc hl).2
def YR:=mk Tryz.func80 hlN (amh (std 0))
noncomputable def Gt:=YR.c
def akm:=fun a=>(YR.cs (ajP a)).1
def akn:=fun a=>(YR.cs (ajP a)).2
def YS:=mk Tryz.func41 (hlC YR.ok hlN) (ami (std 0) Gt)
noncomputable def xD:=YS.c
def mP:=fun a b=>YS.cs (amm akm akn a b)
def ahE:=fun a b=>(mP a b).1
def ahF:=fun a b=>(mP a b).2
def YT:=mk Tryz.func42 hlN (amj (std 0))
noncomputable def Gu:=YT.c
def ako:=fun a b=>(YT.cs (ajQ a b)).1
def akp:=fun a b=>(YT.cs (ajQ a b)).2
def YU:=mk Tryz.func81 (hlC YS.ok hlN) (ajl (std 0) xD)
noncomputable def Mf:=YU.c
def iP:=fun a b ha=>YU.cs (ajR ahE ahF a b ha)
def akq:=fun a b ha=>(iP a b ha).1
def akr:=fun a b ha=>(iP a b ha).2
def TM:=mk Tryz.func43 (hlC YT.ok (hlC YS.ok (hlC YU.ok hlN))) (ajm (std 0) Gu xD Mf)
noncomputable def vP:=TM.c
def mQ:=fun a b ha=>TM.cs (ajS ahE ahF akq akr ako akp a b ha)
def aaT:=fun a b ha=>(mQ a b ha).1
def aaU:=fun a b ha=>(mQ a b ha).2
def MR:=mk Tryz.func72 hlN (ajn (std 0))
noncomputable def vO:=MR.c
def YV:=fun a b c=>(MR.cs (aaI a b c)).1
def YW:=fun a b c=>(MR.cs (aaI a b c)).2
def ahG:=mk Tryz.func122 (hlC YR.ok hlN) (amk (std 0) Gt)
noncomputable def Xc:=ahG.c
def uJ:=fun a b=>ahG.cs (amn akm akn a b)
def amA:=fun a b=>(uJ a b).1
def amB:=fun a b=>(uJ a b).2
def YX:=mk Tryz.func73 (hlC ahG.ok hlN) (ajo (std 0) Xc)
noncomputable def Mq:=YX.c
def iL:=fun a ha=>YX.cs (ajT amA amB a ha)
def aks:=fun a ha=>(iL a ha).1
def akt:=fun a ha=>(iL a ha).2
def TN:=mk Tryz.func124 hlN (ajp (std 0))
noncomputable def Mg:=TN.c
def aku:=fun a n=>(TN.cs (aaK a n)).1
def akv:=fun a n=>(TN.cs (aaK a n)).2
def YZ:=mk Tryz.func159 (hlC TN.ok hlN) (ajq (std 0) Mg)
noncomputable def Mh:=YZ.c
def iB:=fun a n ha=>YZ.cs (ajU aku akv a n ha)
def akw:=fun a n ha=>(iB a n ha).1
def akx:=fun a n ha=>(iB a n ha).2
def Y0:=mk Tryz.func123 (hlC YZ.ok hlN) (ajr (std 0) Mh)
noncomputable def Mi:=Y0.c
def gI:=fun a n ha=>Y0.cs (ajV akw akx a n ha)
def aky:=fun a n ha=>(gI a n ha).1
def akz:=fun a n ha=>(gI a n ha).2
def Y1:=mk Tryz.func74 (hlC Y0.ok hlN) (ajs (std 0) Mi)
noncomputable def Ml:=Y1.c
def ru:=fun a n ha=>Y1.cs (ajW aky akz a n ha)
def akA:=fun a n ha=>(ru a n ha).1
def akB:=fun a n ha=>(ru a n ha).2
def TP:=mk Tryz.func76 hlN (ajt (std 0))
noncomputable def Mj:=TP.c
def akC:=fun m=>(TP.cs (aaL m)).1
def akD:=fun m=>(TP.cs (aaL m)).2
def Y2:=mk Tryz.func125 (hlC TP.ok hlN) (aju (std 0) Mj)
noncomputable def Mk:=Y2.c
def dw:=fun a ha=>Y2.cs (ajX (G:=(fun m:aj=>0<m.atoms.length∧m.atoms.getD 0 default<0)) akC akD a ha)
def akE:=fun a ha=>(dw a ha).1
def akF:=fun a ha=>(dw a ha).2
def Y3:=mk Tryz.func75 (hlC Y2.ok hlN) (ajv (std 0) Mk)
noncomputable def Mr:=Y3.c
def cK:=fun a ha=>Y3.cs (ajY (G:=(fun m:aj=>0<m.atoms.length∧m.atoms.getD 0 default<0)) akE akF a ha)
def akG:=fun a ha=>(cK a ha).1
def akH:=fun a ha=>(cK a ha).2
def TQ:=mk Tryz.func28 (hlC MR.ok (hlC Y1.ok (hlC YX.ok (hlC TM.ok (hlC Y3.ok hlN))))) (ajw (std 0) vO Ml Mq vP Mr)
noncomputable def vQ:=TQ.c
def ze:=fun a ha=>TQ.cs (ajZ YV YW akA akB aks akt aaT aaU akG akH a ha)
def aaV:=fun a ha=>(ze a ha).1
def aaW:=fun a ha=>(ze a ha).2
def TR:=mk Tryz.func12 (hlC TQ.ok hlN) (ajx (std 0) vQ)
noncomputable def vT:=TR.c
def wM:=fun a ha=>TR.cs (aj2 aaV aaW a ha)
def aaX:=fun a ha=>(wM a ha).1
def aaY:=fun a ha=>(wM a ha).2
def MS:=mk Tryz.func14 (hlC YT.ok (hlC YS.ok (hlC TM.ok hlN))) (ajy (std 0) Gu xD vP)
noncomputable def lX:=MS.c
def rz:=fun a b ha=>MS.cs (aj0 ako akp ahE ahF aaT aaU a b ha)
def Y4:=fun a b ha=>(rz a b ha).1
def Y5:=fun a b ha=>(rz a b ha).2
def TS:=mk Tryz.func126 hlN (ajz (std 0))
noncomputable def Ms:=TS.c
def akI:=fun a ha=>(TS.cs (aaM a ha)).1
def akJ:=fun a ha=>(TS.cs (aaM a ha)).2
def TT:=mk Tryz.func78 (hlC TS.ok hlN) (ajA (std 0) Ms)
noncomputable def vR:=TT.c
def kG:=fun a ha=>TT.cs (aj3 akI akJ a ha)
def aaZ:=fun a ha=>(kG a ha).1
def aa0:=fun a ha=>(kG a ha).2
def Y6:=mk Tryz.func77 (hlC TT.ok hlN) (ajB (std 0) vR)
noncomputable def Mt:=Y6.c
def mR:=fun a ha=>Y6.cs (akc aaZ aa0 a ha)
def akK:=fun a ha=>(mR a ha).1
def akL:=fun a ha=>(mR a ha).2
def Y7:=mk Tryz.func29 (hlC TT.ok (hlC Y6.ok hlN)) (ajC (std 0) vR Mt)
noncomputable def Mv:=Y7.c
def kN:=fun s hs=>Y7.cs (akd aaZ aa0 akK akL s hs)
def akM:=fun s hs=>(kN s hs).1
def akN:=fun s hs=>(kN s hs).2
end Go.TX.F
namespace Go.TX.F
open Go Go.AE Go.TX Go.TX.Seat Go.Proofs
set_option maxRecDepth 100000
def Y8:=mk Tryz.func30 (hlC MS.ok hlN) (ajD (std 0) lX)
noncomputable def Mw:=Y8.c
def kP:=fun a b ha=>Y8.cs (aj1 Y4 Y5 a b ha)
def akO:=fun a b ha=>(kP a b ha).1
def akP:=fun a b ha=>(kP a b ha).2
def MU:=mk Tryz.func39 (hlC MR.ok hlN) (ajE (std 0) vO)
noncomputable def vS:=MU.c
def aa1:=fun a=>(MU.cs (aaJ YV YW a)).1
def aa2:=fun a=>(MU.cs (aaJ YV YW a)).2
def Y9:=mk Tryz.func31 (hlC MU.ok hlN) (ajF (std 0) vS)
noncomputable def Mx:=Y9.c
def wN:=fun r a b=>Y9.cs (akb aa1 aa2 r a b)
def akQ:=fun r a b=>(wN r a b).1
def akR:=fun r a b=>(wN r a b).2
def Za:=mk Tryz.func6 (hlC TR.ok (hlC TQ.ok (hlC MS.ok (hlC Y7.ok (hlC Y8.ok (hlC Y9.ok hlN)))))) (ajG (std 0) vT vQ lX Mv Mw Mx)
noncomputable def MC:=Za.c
def wO:=fun s n hs h0 h1=>Za.cs (ake aaX aaY aaV aaW Y4 Y5 akM akN akO akP akQ akR s n hs h0 h1)
def akS:=fun s n hs h0 h1=>(wO s n hs h0 h1).1
def akT:=fun s n hs h0 h1=>(wO s n hs h0 h1).2
def TU:=mk Tryz.func40 hlN (ajH (std 0))
noncomputable def MB:=TU.c
def akU:=fun a b ha=>(TU.cs (aaN a b ha)).1
def akV:=fun a b ha=>(TU.cs (aaN a b ha)).2
def MV:=mk Tryz.func13 (hlC TU.ok hlN) (ajI (std 0) MB)
noncomputable def lY:=MV.c
def wP:=fun a b ha=>MV.cs (aj5 akU akV a b ha)
def Zb:=fun a b ha=>(wP a b ha).1
def Zc:=fun a b ha=>(wP a b ha).2
def TW:=mk Tryz.func11 (hlC MV.ok hlN) (ajJ (std 0) lY)
noncomputable def vU:=TW.c
def uK:=fun a b ha=>TW.cs (akg Zb Zc a b ha)
def aa3:=fun a b ha=>(uK a b ha).1
def aa4:=fun a b ha=>(uK a b ha).2
def Zd:=mk Tryz.func7 (hlC MV.ok (hlC TW.ok hlN)) (ajK (std 0) lY vU)
noncomputable def MF:=Zd.c
def zf:=fun a b he ha=>Zd.cs (akh Zb Zc aa3 aa4 a b he ha)
def akW:=fun a b he ha=>(zf a b he ha).1
def akX:=fun a b he ha=>(zf a b he ha).2
def Ze:=mk Tryz.func10 (hlC MU.ok hlN) (ajL (std 0) vS)
noncomputable def ME:=Ze.c
def Bc:=Ze.cs (aj4 aa1 aa2)
def akY:=(Bc).1
def akZ:=(Bc).2
def aa5:=mk Tryz.func3 (hlC TR.ok (hlC MS.ok (hlC Za.ok (hlC Ze.ok (hlC MV.ok (hlC TW.ok (hlC Zd.ok (hlC R8.ok (hlC qG.ok (hlC JO.ok hlN)))))))))) (ajM (std 0) vT lX MC ME lY vU MF FN bT nU)
def rA:=fun c hc=>aa5.cs (akl aaX aaY Y4 Y5 akS akT akY akZ Zb Zc aa3 aa4 akW akX ahC ahD xL xM Yn Yo c hc)
def ak0:=fun c hc=>(rA c hc).1
def ak1:=fun c hc=>(rA c hc).2
end Go.TX.F
namespace Go.TX.F
open Go Go.AE Go.TX Go.TX.Seat Go.Proofs
set_option maxRecDepth 100000
end Go.TX.F
namespace Go.TX.F
open Go Go.AE Go.TX Go.TX.Seat Go.Proofs
set_option maxRecDepth 100000
end Go.TX.F
namespace Go.Proofs.YtdmoejehiedihaaGreat
open Go.ChangeShapes Go.WideShapes Go.ChangeAt Go.RowKit
theorem amC:ownKnob Tryz.prog.godebug=Option.none:=by kernel_rfl
theorem ak2:laidOutB Tryz.prog=true:=by kernel_rfl
theorem ahH:Tryz.prog.cellsOf 5=1:=by kernel_rfl
set_option maxRecDepth 100000 in
theorem lifted (os:Os) (started:os.Started) (H:Type) (enc:TypeId×Value→H):
  ReturnsInHanded {} Tryz.checked os 3 .any (Rows.fnSymEndSpec.pre6 enc Tryz.prog Tryz.f3 Rows.fnSymEndRow.domain false) (Rows.fnSymEndSpec.post enc Tryz.prog Tryz.f3 false true false false):=by
 refine returnsInHanded_of_change (C:=Tryz.checked) amC started (by kernel_rfl) Tryz.func3
  (ChangeSpec.witness6 (enc:=enc) (C:=Tryz.checked) false ⟨#[], #[.slice none 0 0],[]⟩ 8 (by kernel_rfl) (by kernel_rfl) (by kernel_rfl) (by kernel_rfl)) ?_
 intro W base args ds gs before hval0 hW _ _
 have hval:∀(j:Nat) t v,Tryz.f3.params[j]? =some t→args[j]? =some v→Value.okWide Tryz.prog W .any base t v:=hval0
 have hW':=hW
 obtain⟨p,q,hA0,hV,rfl,_,_⟩:=hW
 have hA:DataW.TrodAll enc Tryz.prog W 0 (fun _=>true) true Tryz.f3.params.toList args.toList ds p:=hA0
 rw [Tryz.params3]at hA hval
 obtain⟨v0,d0,rfl,rfl,h0⟩:=trodAll_one hA
 obtain⟨rfl,rfl⟩:=trodVars_none hV
 clear hA0 hval0
 simp only [List.append_nil]at hW'
 have hlt:∀x∈p,x.block<W.heap.size:=fun x hx=>by simpa using hW'.lt x hx
 obtain⟨xs,hr,hb⟩:=Go.TX.Ya Tryz.underlying22 Tryz.underlying5 ahH (hval 0 22 v0 rfl rfl) h0 hlt
 have hp:=Go.TX.F.ak0 xs hb
 have hq:=Go.TX.F.ak1 xs hb
 refine(Go.TX.amw Go.TX.F.aa5.ok hr (fun g d h=>by cases h) hp).mono fun e W' ⟨he,hw⟩=> ?_
 have he:e= .returned (.bool true):=he.trans (congrArg (fun z:Bool×Unit=>Ending.returned (.bool z.1)) hq)
 refine⟨_,he,[d0],[],p,[],p,[],hW',trodAll_mk1 (shut_bool Tryz.underlying4 true),?_,rfl,hw.frame _,fun h=>by cases h⟩
 exact trodAll_mk1 (Below.trod ak2 (by kernel_rfl) (of_decide_eq_true (by kernel_rfl)) h0 hw hlt)
theorem y1:Tryz.pinned.checked.prog.funcNamed Rows.fnSymEndRow.func=some 3:=by kernel_rfl
theorem aS {a b:Bool} (h:a=true) (k:b=true):(a&&b)=true:=by rw [h,k];rfl
set_option maxHeartbeats 4000000 in
theorem y2:joinedFacts Tryz.pinned.checked.prog 3 Tryz.f3 Rows.fnSymEndSpec Rows.fnSymEndRow=true:=by
 unfold joinedFacts
 repeat' with_reducible apply aS
 all_goals (as_aux_lemma=>kernel_rfl)
theorem y3:Func.isWrapper Tryz.prog Tryz.f3 Rows.fnSymEndRow.wrapper Rows.fnSymEndRow.mainSum:=(by unfold Func.isWrapper;first | (rw [if_pos (by decide+kernel)];kernel_rfl) | (rw [if_neg (by decide+kernel)];exact⟨rfl,rfl⟩))
theorem x_holds:Rows.FnSymEndSaid:=
 OpenClaim.holds_of_wide 3 Tryz.f3 rfl rfl rfl rfl rfl rfl rfl ⟨rfl,rfl,rfl,rfl,rfl⟩ rfl rfl rfl rfl rfl y1 Tryz.func3 y2
  (of_decide_eq_true (by kernel_rfl)) y3
  (fun os started H enc _=>lifted os started H enc)
end Go.Proofs.YtdmoejehiedihaaGreat
