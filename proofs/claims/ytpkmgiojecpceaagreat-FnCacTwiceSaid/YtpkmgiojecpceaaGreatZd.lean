/- Part 4 of a proof: what the last part needs. No condition. -/
import Derived.Test.YtpkmgiojecpceaaGreatZc
import Derived.Lib.Bytes
set_option maxHeartbeats 1000000
set_option linter.all false
set_option linter.unusedSectionVars false
set_option linter.unusedVariables false
set_option linter.unusedSimpArgs false
namespace Go.TX.F
open Go Go.AE Go.TX
def fcO(f:List IOp)(o:IOp):IOp:=if o.kind=3/\(((f).getD (o.x).toNat default)).kind=1/\(((f).getD (o.y).toNat default)).kind=1 then⟨1,0,0,wdo o.k (((f).getD (o.x).toNat default)).k (((f).getD (o.y).toNat default)).k,0⟩else o
def fc(ops:List IOp):Nat->List IOp
 | 0=> []
 | i+1=>fc ops i++ [fcO (fc ops i) (ops.getD i default)]
def fcB(b:Blk)(f:List IOp):Blk:=
 if b.fin=2/\(((f).getD (b.x).toNat default)).kind=1 then⟨b.pc,b.len,f,1,0,b.y,(((f).getD (b.x).toNat default)).k⟩
 else if 3<=b.fin/\(((f).getD (b.x).toNat default)).kind=1/\(((f).getD (b.y).toNat default)).kind=1 then⟨b.pc,b.len,f,1,0,0,if b.fin=3/\(((f).getD (b.x).toNat default)).k=(((f).getD (b.y).toNat default)).k\/b.fin=4/\(((f).getD (b.x).toNat default)).k< (((f).getD (b.y).toNat default)).k then b.k else b.pc+b.len⟩
 else⟨b.pc,b.len,f,b.fin,b.x,b.y,b.k⟩
noncomputable def eP (b:Blk):Blk:=if bp (cu b)=true then fcB b (fc b.ops b.ops.length)else PG
def lZ(ops:List IOp):∀i,(fc ops i).length=i
 | 0=>rfl
 | i+1=>by show(fc ops i++ [_]).length=_;rw [List.length_append,lZ ops i];rfl
def aff(ops:List IOp){i n j:Nat}(h1:j<i)(h2:i<=n):(fc ops n).getD j default=(fc ops i).getD j default:=by
  induction n with
  | zero => have : i = 0 := by omega
            subst this;rfl
  | succ n ih=>
    by_cases c:i=n+1
    · subst c;rfl
    · have:=ih ah;rw [<-this];show(fc ops n++ [_]).getD j default=_;rw [dY,if_pos (by rw [lZ];omega)]
def PN(ops:List IOp){i n:Nat}(h:i<n):(fc ops n).getD i default=fcO (fc ops i) (ops.getD i default):=by
 rw [aff ops (show i<i+1 by omega) (show i+1<=n by omega)];show(fc ops i++ [_]).getD i default=_;rw [dY,if_neg (by rw [lZ];omega),if_pos (by rw [lZ])]
structure FI(ops:List IOp)(i:Nat)(s:SS):Prop where
 c:∀j:Int,0<=j->j<i->((((fc ops i)).getD (j).toNat default)).kind=1->(0<=((((fc ops i)).getD (j).toNat default)).k/\((((fc ops i)).getD (j).toNat default)).k<=65535)/\((s.vals).getD (j).toNat default)=aR ((((fc ops i)).getD (j).toNat default)).k
 m:∀j:Int,0<=j->j<i->mkV ((ops).getD (j).toNat default)->mkV (((fc ops i)).getD (j).toNat default)
def UK(t:List Atom){op a b:Int}(hop:1<=op/\op<=5)(ha:0<=a/\a<=65535)(hb:0<=b/\b<=65535):tDo t op (aR a) (aR b)=(t,aR (wdo op a b)):=by
 unfold tDo;rw [Py hop ha hb,if_pos rfl]
def AQ{b:Blk}(hb:cu b)(t:List Atom):∀i:Nat,i<=b.ops.length->
  ((fc b.ops b.ops.length).take i).foldl stp (s0 t)=(b.ops.take i).foldl stp (s0 t)/\FI b.ops i ((b.ops.take i).foldl stp (s0 t))
 | 0,_=>⟨rfl,⟨λj h1 h2=>absurd h2 ah,λj h1 h2=>absurd h2 ah⟩⟩
 | i+1,hi=>by
  obtain⟨ih1,ih2⟩:=AQ hb t i ah;have hlt:i<b.ops.length:=hi;have hok:=hb.op i ah ah;rw [show(i:Int).toNat=i from rfl,getD_lt hlt]at hok;have eo:b.ops.getD i default=b.ops[i]:=getD_lt hlt;have hv:=vB (b.ops.take i) (s0 t);rw [List.length_take,Nat.min_eq_left ah,show(s0 t).vals.length=0 from rfl,Nat.zero_add]at hv;have fl:=lZ b.ops i;have fo:(fc b.ops b.ops.length)[i]'(by rw [lZ];exact hlt)=fcO (fc b.ops i) b.ops[i]:=by
   rw [<-eo,<-PN b.ops hlt,getD_lt]
  rw [ku _ _ (by rw [lZ];exact hlt),ku _ _ hlt,ih1,fo]
  clear ih1
  generalize (b.ops.take i).foldl stp (s0 t)=s at ih2 hv ⊢;generalize ho:b.ops[i]=o at hok eo fo ⊢;have key:o.kind=3/\((((fc b.ops i)).getD (o.x).toNat default)).kind=1/\((((fc b.ops i)).getD (o.y).toNat default)).kind=1->xOf s o=aR ((((fc b.ops i)).getD (o.x).toNat default)).k/\yOf s o=aR ((((fc b.ops i)).getD (o.y).toNat default)).k/\(0<=((((fc b.ops i)).getD (o.x).toNat default)).k/\((((fc b.ops i)).getD (o.x).toNat default)).k<=65535)/\(0<=((((fc b.ops i)).getD (o.y).toNat default)).k/\((((fc b.ops i)).getD (o.y).toNat default)).k<=65535):=λ⟨c1,c2,c3⟩=>by
   have hx:hX o:=by unfold hX;omega
   have hy:hY o:=Or.inl c1;have v1:=hok.x1 hx;have v2:=hok.y1 hy;have g1:=ih2.c o.x v1.1 v1.2.1 c2;have g2:=ih2.c o.y v2.1 v2.2.1 c3;refine⟨?_,?_,g1.1,g2.1⟩
   .unfold xOf;rw [if_pos hx];exact g1.2
   .unfold yOf;rw [if_pos hy];exact g2.2
  have es:stp s (fcO (fc b.ops i) o)=stp s o/\((fcO (fc b.ops i) o).kind=1->(0<=(fcO (fc b.ops i) o).k/\(fcO (fc b.ops i) o).k<=65535)/\nV s o=aR (fcO (fc b.ops i) o).k)/\(mkV o->mkV (fcO (fc b.ops i) o)):=by
   unfold fcO;by_cases c:o.kind=3/\((((fc b.ops i)).getD (o.x).toNat default)).kind=1/\((((fc b.ops i)).getD (o.y).toNat default)).kind=1
   .rw [if_pos c];obtain⟨k1,k2,k3,k4⟩:=key c;have hd:=UK s.t (hok.k3 c.1) k3 k4;have e1:nT s o=s.t:=by unfold nT;rw [if_pos c.1,k1,k2,hd]
    have e2:nV s o=aR (wdo o.k ((((fc b.ops i)).getD (o.x).toNat default)).k ((((fc b.ops i)).getD (o.y).toNat default)).k):=by unfold nV;rw [if_neg ah,if_neg ah,if_pos c.1,k1,k2,hd]
    refine⟨?_,λ_=>⟨Cy _ _ _,e2⟩,λ_=>Or.inl ⟨by dsimp only;omega,by dsimp only;omega⟩⟩;have e3:nR s o=s.regs:=by unfold nR;rw [if_neg ah]
    have e4:nE s o=s.evs:=by unfold nE;rw [if_neg ah]
    show SS.mk (nT s ⟨1,0,0,_,0⟩) (nR s ⟨1,0,0,_,0⟩) (s.vals++ [nV s ⟨1,0,0,_,0⟩]) (if(1:Int)=4 then _ else _) (if(1:Int)=6 then _ else _) (nE s ⟨1,0,0,_,0⟩)=SS.mk (nT s o) (nR s o) (s.vals++ [nV s o]) (if o.kind=4 then _ else _) (if o.kind=6 then _ else _) (nE s o);rw [e1,e2,e3,e4,if_neg (show¬o.kind=4 by omega),if_neg (show¬o.kind=6 by omega)];rfl
   .rw [if_neg c];refine⟨rfl,λh=>⟨hok.k1 h,by unfold nV;rw [if_pos h]⟩,λh=>h⟩
  refine⟨es.1,?_⟩;have vs:∀j:Int,0<=j->j<i->(((stp s o).vals).getD (j).toNat default)=((s.vals).getD (j).toNat default):=λj h1 h2=>by
   show(((s.vals++ [nV s o])).getD (j).toNat default)=_;rw [dY,if_pos ah]
  have vi:(((stp s o).vals).getD ((i:Int)).toNat default)=nV s o:=by
   show(((s.vals++ [nV s o])).getD ((i:Int)).toNat default)=_;rw [dY,if_neg ah,if_pos ah]
  have ns:∀j:Int,0<=j->j<i->(((fc b.ops (i+1))).getD (j).toNat default)=(((fc b.ops i)).getD (j).toNat default):=λj h1 h2=>aff b.ops ah ah
  have ni:(((fc b.ops (i+1))).getD ((i:Int)).toNat default)=fcO (fc b.ops i) o:=by
   rw [show((i:Int)).toNat=i from rfl,PN b.ops (show i<i+1 by omega),eo]
  have eoi:((b.ops).getD ((i:Int)).toNat default)=o:=by rw [show(i:Int).toNat=i from rfl,eo]
  refine⟨λj h1 h2 h3=> ?_,λj h1 h2 h3=> ?_⟩
  .by_cases c:j<i
   .rw [ns j h1 c]at h3 ⊢;rw [vs j h1 c];exact ih2.c j h1 c h3
   .have:j=(i:Int):=by omega
    subst this;rw [ni]at h3 ⊢;rw [vi];exact es.2.1 h3
  .by_cases c:j<i
   .rw [ns j h1 c];exact ih2.m j h1 c h3
   .have:j=(i:Int):=by omega
    subst this;rw [eoi]at h3;rw [ni];exact es.2.2 h3
def PO{a b:Int}(ha:0<=a/\a<=65535)(hb:0<=b/\b<=65535)(h:aR a=aR b):a=b:=by
 have:=gI ha;rw [h,gI hb]at this;exact(congrArg Prod.fst this).symm
def amm(b:Blk)(f:List IOp):(fcB b f).pc=b.pc/\(fcB b f).len=b.len/\(fcB b f).ops=f:=by
 unfold fcB;split
 .exact⟨rfl,rfl,rfl⟩
 .split<;>exact⟨rfl,rfl,rfl⟩
def KW{b:Blk}(hb:cu b):Lk b (eP b)/\(eP b).ops.length=b.ops.length:=by
 have e:eP b=fcB b (fc b.ops b.ops.length):=by unfold eP;rw [if_pos (aP hb)]
 obtain⟨p1,p2,p3⟩:=amm b (fc b.ops b.ops.length);have fl:=lZ b.ops b.ops.length;obtain⟨_,fi⟩:=AQ hb [] b.ops.length (Nat.le_refl _);have vl:∀ {x n:Int},Vl b.ops x n->n<=b.ops.length->Vl (fc b.ops b.ops.length) x n:=λ{x n} ⟨h1,h2,h3⟩ hn=>⟨h1,h2,fi.m x h1 ah h3⟩
 have en:=hb.en;have h1:=hb.ln;have h2:=hb.pc;have ok:cu (eP b):=by
  rw [e];refine⟨by rw [p2];exact hb.ln,by rw [p1,p2];exact hb.pc,by rw [p3,fl];exact hb.sz,λi i1 i2=> ?_,?_⟩
  .rw [p3]at i2 ⊢;rw [fl]at i2;rw [p2];have ho:=hb.op i i1 i2;rw [PN b.ops (show i.toNat<b.ops.length by omega)];generalize b.ops.getD i.toNat default=o at ho;unfold fcO;split
   .refine⟨by dsimp only;omega,λh=>absurd h (by unfold hX;simp),λ_=>rfl,λh=>absurd h (by unfold hY;simp),λ_=>rfl,λ_=>Cy _ _ _,λh=>absurd h (by simp),λh=>absurd h (by simp),λh=>absurd h (by simp),λh=>absurd h (by unfold evO;simp),λ_=>rfl⟩
   .exact⟨ho.kd,λh=>vl (ho.x1 h) ah,ho.x0,λh=>vl (ho.y1 h) ah,ho.y0,ho.k1,ho.k2,ho.k3,ho.k0,ho.a1,ho.a0⟩
  .unfold fcB;split
   .rename_i c;have v:=en.x1 ah;have g:=fi.c b.x v.1 v.2.1 c.2;exact⟨by dsimp only;omega,λh=>absurd rfl h,λ_=>rfl,λh=>absurd h (by dsimp only;omega),λ_=>en.y0 ah,λ_=>g.1,λh=>absurd h (by simp)⟩
   .split
    .rename_i c;refine⟨by dsimp only;omega,λh=>absurd rfl h,λ_=>rfl,λh=>absurd h (by dsimp only;omega),λ_=>rfl,λ_=> ?_,λh=>absurd h (by simp)⟩;dsimp only;split
     .exact en.k1 ah
     .omega
    .exact⟨en.f,λh=>by dsimp only at h ⊢;rw [fl];exact vl (en.x1 h) (Int.le_refl _),en.x0,λh=>by dsimp only at h ⊢;rw [fl];exact vl (en.y1 h) (Int.le_refl _),en.y0,en.k1,en.k0⟩
 refine⟨⟨hb,ok,by rw [e,p1],by rw [e,p2],λu u1 u2 u3=> ?_⟩,by rw [e,p3,fl]⟩;obtain⟨r1,r3⟩:=AQ hb u b.ops.length (Nat.le_refl _);rw [List.take_of_length_le ah,List.take_of_length_le ah]at r1;rw [List.take_of_length_le ah]at r3;have es:dK u (eP b)=dK u b:=by unfold dK;rw [e,p3];exact r1
 unfold bK;rw [if_pos (aP ⟨u1,u2,ok⟩),if_pos (aP ⟨u1,u2,hb⟩),es];rw [e,p1,p2];have i1:=(I6 u1 u2 hb).1;have pk:=I8 (b:=b) i1
 congr 1
 have r3:FI b.ops b.ops.length (dK u b):=r3;generalize dK u b=s at r3 pk;unfold fcB;split
 .rename_i c;have v:=en.x1 ah;obtain⟨g1,g2⟩:=r3.c b.x v.1 v.2.1 c.2;have ex:(jL b s).x=aR ((((fc b.ops b.ops.length)).getD (b.x).toNat default)).k:=by unfold jL;dsimp only;rw [if_neg ah];exact g2
  have ey:(jL b s).y=[]:=by unfold jL;dsimp only;rw [if_neg ah]
  have e1:symEnd (jL b s) (b.pc+b.len)=⟨s.evs,s.regs,1,[],[],((((fc b.ops b.ops.length)).getD (b.x).toNat default)).k⟩:=by
   unfold symEnd;rw [if_neg (by rw [aP pk];simp),if_pos ⟨c.1,by rw [ex,gI g1]⟩,ex,gI g1];rfl
  rw [e1];unfold symEnd jL;dsimp only;rw [if_neg (by rw [aP ⟨by rw [if_pos rfl];exact bT,by rw [if_neg ah];exact bT⟩];simp),if_neg ah,if_pos ah];rw [if_pos rfl,if_neg ah]
 .split
  .rename_i _ c;have v:=en.x1 ah;have w:=en.y1 c.1;obtain⟨g1,g2⟩:=r3.c b.x v.1 v.2.1 c.2.1;obtain⟨g3,g4⟩:=r3.c b.y w.1 w.2.1 c.2.2;have ex:(jL b s).x=aR ((((fc b.ops b.ops.length)).getD (b.x).toNat default)).k:=by unfold jL;dsimp only;rw [if_neg ah];exact g2
   have ey:(jL b s).y=aR ((((fc b.ops b.ops.length)).getD (b.y).toNat default)).k:=by unfold jL;dsimp only;rw [if_pos c.1];exact g4
   have hf:=en.f;have e1:symEnd (jL b s) (b.pc+b.len)=⟨s.evs,s.regs,1,[],[],if b.fin=3/\((((fc b.ops b.ops.length)).getD (b.x).toNat default)).k=((((fc b.ops b.ops.length)).getD (b.y).toNat default)).k\/b.fin=4/\((((fc b.ops b.ops.length)).getD (b.x).toNat default)).k< ((((fc b.ops b.ops.length)).getD (b.y).toNat default)).k then b.k else b.pc+b.len⟩:=by
    unfold symEnd;rw [if_neg (by rw [aP pk];simp),if_neg (by show¬(b.fin=2/\_);omega),if_neg (by show¬(b.fin≠3/\b.fin≠4);omega)];rw [ex,ey,gI g1,gI g3,if_pos (Or.inr ⟨rfl,rfl⟩)];show Sym.mk s.evs s.regs 1 [] [] _=_
    congr 1
    show(if(_/\b.fin=3\/(true=true/\true=true)/\(b.fin=3/\_\/b.fin=4/\_))then b.k else _)=_;by_cases d:b.fin=3/\((((fc b.ops b.ops.length)).getD (b.x).toNat default)).k=((((fc b.ops b.ops.length)).getD (b.y).toNat default)).k\/b.fin=4/\((((fc b.ops b.ops.length)).getD (b.x).toNat default)).k< ((((fc b.ops b.ops.length)).getD (b.y).toNat default)).k
    .rw [if_pos d];exact if_pos (Or.inr ⟨⟨rfl,rfl⟩,d⟩)
    .rw [if_neg d];refine if_neg ?_;rintro(⟨q1,q2⟩ | ⟨_,q⟩)
     .exact d (Or.inl ⟨q2,PO g1 g3 q1⟩)
     .exact d q
   rw [e1];unfold symEnd jL;dsimp only;rw [if_neg (by rw [aP ⟨by rw [if_pos rfl];exact bT,by rw [if_neg ah];exact bT⟩];simp),if_neg ah,if_pos ah];rw [if_pos rfl,if_neg ah]
  .rfl
def kpS(ops:List IOp)(kp:List Bool):Nat->List Int×List IOp
 | 0=>([],[])
 | i+1=>((kpS ops kp i).1++ [((kpS ops kp i).2.length:Int)],if kp.getD i default=true then(kpS ops kp i).2++ [ops.getD i default]else(kpS ops kp i).2)
def jH(b:Blk)(kp:List Bool):Blk:=PI (kpS b.ops kp b.ops.length).1 b (kpS b.ops kp b.ops.length).2
def kV:List IOp->Int->Bool
 | [],_=>false
 | o::l,r=>if o.kind=4\/o.kind=5\/o.kind=2/\o.k=r then false else if o.kind=8/\o.k=r then true else kV l r
def nD(ops:List IOp)(kp:List Bool):∀i,(kpS ops kp i).1.length=i/\(kpS ops kp i).2.length<=i
 | 0=>⟨rfl,Nat.le_refl _⟩
 | i+1=>by
  obtain⟨h1,h2⟩:=nD ops kp i;unfold kpS;refine⟨by rw [List.length_append,h1];rfl,?_⟩;dsimp only;split
  .rw [List.length_append];simp only [List.length_cons,List.length_nil];omega
  .omega
def Jb(ops:List IOp)(kp:List Bool){i n:Nat}(h:i<=n):(kpS ops kp i).2<+:(kpS ops kp n).2/\(kpS ops kp i).1<+:(kpS ops kp n).1:=by
 induction n with
 | zero=>rw [show i=0 by omega];exact⟨List.prefix_refl _,List.prefix_refl _⟩
 | succ n ih=>
  by_cases c:i=n+1
  .subst c;exact⟨List.prefix_refl _,List.prefix_refl _⟩
  .obtain⟨h1,h2⟩:=ih ah;refine⟨h1.trans ?_,h2.trans (List.prefix_append _ _)⟩;show _<+:if kp.getD n default=true then _ else _
   split
   .exact List.prefix_append _ _
   .exact List.prefix_refl _
def PU(ops:List IOp)(kp:List Bool){j n:Nat}(h:j<n):(kpS ops kp n).1.getD j default=((kpS ops kp j).2.length:Int):=by
 have:=I5 (d:=default) (Jb ops kp (show j+1<=n by omega)).2 (i:=j) (by have:=(nD ops kp (j+1)).1;omega);rw [show((j:Int)).toNat=j from rfl]at this;rw [this];show((kpS ops kp j).1++ [_]).getD j default=_;rw [dY,(nD ops kp j).1,if_neg ah,if_pos rfl]
def Jd(ops:List IOp)(kp:List Bool){j n:Nat}(h:j<n)(k:kp.getD j default=true):(kpS ops kp j).2.length< (kpS ops kp n).2.length/\(kpS ops kp n).2.getD (kpS ops kp j).2.length default=ops.getD j default:=by
 have e:(kpS ops kp (j+1)).2=(kpS ops kp j).2++ [ops.getD j default]:=by show(if kp.getD j default=true then _ else _)=_;rw [if_pos k]
 have p:=(Jb ops kp (show j+1<=n by omega)).1;have l:=jG p;rw [e,List.length_append]at l;simp only [List.length_cons,List.length_nil]at l;refine⟨ah,?_⟩;have:=I5 (d:=default) p (i:=(kpS ops kp j).2.length) (by rw [e,List.length_append];simp);rw [show((((kpS ops kp j).2.length:Nat):Int)).toNat=(kpS ops kp j).2.length from rfl]at this;rw [this,e,dY,if_neg ah,if_pos rfl]
def ZF(ops:List IOp)(kp:List Bool):∀ {n m:Nat},m< (kpS ops kp n).2.length->∃j,j<n/\kp.getD j default=true/\(kpS ops kp j).2.length=m
 | 0,m,h=>absurd h (by simp [kpS])
 | n+1,m,h=>by
  have h:m< (if kp.getD n default=true then(kpS ops kp n).2++ [ops.getD n default]else(kpS ops kp n).2).length:=h;by_cases c:m< (kpS ops kp n).2.length
  .obtain⟨j,h1,h2,h3⟩:=ZF ops kp c;exact⟨j,ah,h2,h3⟩
  .split at h
   .rename_i k;rw [List.length_append]at h;simp only [List.length_cons,List.length_nil]at h;exact⟨n,ah,k,ah⟩
   .omega
structure KP(b:Blk)(kp:List Bool):Prop where
 x:∀i:Int,0<=i->i<b.ops.length->((kp).getD (i).toNat default)=true->hX ((b.ops).getD (i).toNat default)->((kp).getD ((((b.ops).getD (i).toNat default)).x).toNat default)=true
 y:∀i:Int,0<=i->i<b.ops.length->((kp).getD (i).toNat default)=true->hY ((b.ops).getD (i).toNat default)->((kp).getD ((((b.ops).getD (i).toNat default)).y).toNat default)=true
 ex:b.fin≠1->((kp).getD (b.x).toNat default)=true
 ey:3<=b.fin->((kp).getD (b.y).toNat default)=true
 no:∀i:Int,0<=i->i<b.ops.length->((kp).getD (i).toNat default)=false->(((b.ops).getD (i).toNat default)).kind<=3\/(((b.ops).getD (i).toNat default)).kind=8/\kV (b.ops.drop (i.toNat+1)) (((b.ops).getD (i).toNat default)).k=true
structure KI(b:Blk)(kp:List Bool)(i:Nat)(s s':SS):Prop where
 t:s'.t=s.t
 ld:s'.ld=s.ld
 inn:s'.inn=s.inn
 evs:s'.evs=s.evs
 vl:s'.vals.length=(kpS b.ops kp i).2.length
 v:∀j:Nat,j<i->kp.getD j default=true->s'.vals.getD (kpS b.ops kp j).2.length default=s.vals.getD j default
 r4:s'.regs.length=4/\s.regs.length=4
 rg:∀r:Int,0<=r->r<=3->kV (b.ops.drop i) r=false->((s'.regs).getD (r).toNat default)=((s.regs).getD (r).toNat default)
def amn{a b:List (List aj)}(h:a.length=4/\b.length=4)(g:∀r:Int,0<=r->r<=3->((a).getD (r).toNat default)=((b).getD (r).toNat default)):a=b:=by
 refine lu (d:=default) ah λj h1 h2=> ?_
 exact g j h1 ah
def PW{z:SS}{o:IOp}(h:z.regs.length=4):(nR z o).length=4:=by
 unfold nR;split
 .rw [List.length_set];exact h
 .exact h
def KY{b:Blk}(hb:cu b){kp:List Bool}(H:KP b kp)(u:List Atom)(hu:∀i,i<=b.ops.length->((b.ops.take i).foldl stp (s0 u)).t=u)(h4:(s0 u).regs.length=4):∀i:Nat,i<=b.ops.length->
  KI b kp i ((b.ops.take i).foldl stp (s0 u)) (((kpS b.ops kp i).2.map (ren (kpS b.ops kp b.ops.length).1)).foldl stp (s0 u))
 | 0,_=>⟨rfl,rfl,rfl,rfl,rfl,λj h=>absurd h ah,⟨h4,h4⟩,λ_ _ _ _=>rfl⟩
 | i+1,hi=>by
  have ih:=KY hb H u hu h4 i ah;have hlt:i<b.ops.length:=hi;have hok:=hb.op i ah ah;have u0:=hu i ah;have u1:=hu (i+1) hi;have eo:b.ops.getD i default=b.ops[i]:=getD_lt hlt;have hv:=vB (b.ops.take i) (s0 u);rw [List.length_take,Nat.min_eq_left ah,show(s0 u).vals.length=0 from rfl,Nat.zero_add]at hv;have hx:=H.x i ah ah;have hy:=H.y i ah ah;have hn:=H.no i ah ah;rw [ku _ _ hlt]at u1 ⊢;rw [show(i:Int).toNat=i from rfl,eo]at hok hx hy hn;have ed:b.ops.drop i=b.ops[i]::b.ops.drop (i+1):=List.drop_eq_getElem_cons hlt;have lo:∀r,kV (b.ops.drop i) r=if b.ops[i].kind=4\/b.ops[i].kind=5\/b.ops[i].kind=2/\b.ops[i].k=r then false else if b.ops[i].kind=8/\b.ops[i].k=r then true else kV (b.ops.drop (i+1)) r:=λr=>by rw [ed];rfl
  have ek:(kpS b.ops kp (i+1)).2=if kp.getD i default=true then(kpS b.ops kp i).2++ [b.ops[i]]else(kpS b.ops kp i).2:=by rw [<-eo];rfl
  rw [ek];generalize (b.ops.take i).foldl stp (s0 u)=s at ih u0 u1 hv ⊢;generalize b.ops[i]=o at*;have rgn:(o.kind=8->kp.getD i default=false)->∀r:Int,0<=r->r<=3->kV (b.ops.drop (i+1)) r=false->∀s':SS,KI b kp i s s'->((s'.regs).getD (r).toNat default)=(((nR s o)).getD (r).toNat default):=λhno r r1 r2 r3 s' k=>by
   unfold nR;by_cases c:o.kind=8
   .rw [if_pos c];have hk:=hok.k2 (Or.inr c);have:=hn (hno c);have l8:=(this.resolve_left ah).2;rw [xU r1 hk.1 (by have:=k.r4.2;omega)];by_cases c2:r=o.k
    .rw [<-c2,r3]at l8;cases l8
    .rw [if_neg c2];refine k.rg r r1 r2 ?_;rw [lo,if_neg ah,if_neg ah];exact r3
   .rw [if_neg c];refine k.rg r r1 r2 ?_;rw [lo];split
    .rfl
    .rw [if_neg ah];exact r3
  by_cases ck:kp.getD i default=true
  .rw [if_pos ck,List.map_append,List.foldl_append];generalize ((kpS b.ops kp i).2.map (ren (kpS b.ops kp b.ops.length).1)).foldl stp (s0 u)=s' at ih ⊢;show KI b kp (i+1) (stp s o) (stp s' (ren _ o));have vx:∀x:Int,Vl b.ops x i->((kp).getD (x).toNat default)=true->((s'.vals).getD ((((kpS b.ops kp b.ops.length).1).getD (x).toNat default)).toNat default)=((s.vals).getD (x).toNat default):=λx h1 h2=>by
    have g0:=h1.1;have g1:=h1.2.1;rw [PU b.ops kp (show x.toNat<b.ops.length by omega),show((((kpS b.ops kp x.toNat).2.length:Nat):Int)).toNat=(kpS b.ops kp x.toNat).2.length from rfl];exact ih.v x.toNat ah h2
   have ckI:((kp).getD ((i:Int)).toNat default)=true:=ck;have ex:xOf s' (ren (kpS b.ops kp b.ops.length).1 o)=xOf s o:=by
    unfold xOf;by_cases c:hX o
    .rw [if_pos (show hX (ren _ o)from c),if_pos c];show((s'.vals).getD ((if hX o then(((kpS b.ops kp b.ops.length).1).getD (o.x).toNat default)else o.x)).toNat default)=_;rw [if_pos c];exact vx _ (hok.x1 c) (hx ckI c)
    .rw [if_neg (show¬hX (ren _ o)from c),if_neg c]
   have ey:yOf s' (ren (kpS b.ops kp b.ops.length).1 o)=yOf s o:=by
    unfold yOf;by_cases c:hY o
    .rw [if_pos (show hY (ren _ o)from c),if_pos c];show((s'.vals).getD ((if hY o then(((kpS b.ops kp b.ops.length).1).getD (o.y).toNat default)else o.y)).toNat default)=_;rw [if_pos c];exact vx _ (hok.y1 c) (hy ckI c)
    .rw [if_neg (show¬hY (ren _ o)from c),if_neg c]
   have ea:aOf s' (ren (kpS b.ops kp b.ops.length).1 o)=aOf s o:=by
    unfold aOf;rw [ih.ld,ih.inn];rfl
   have eT:nT s' (ren (kpS b.ops kp b.ops.length).1 o)=nT s o:=by
    unfold nT;rw [ex,ey,ea,ih.t];rfl
   have eV:nV s' (ren (kpS b.ops kp b.ops.length).1 o)=nV s o:=by
    unfold nV;rw [ex,ey,ea,ih.t];show(if o.kind=1 then _ else if o.kind=2 then((s'.regs).getD (o.k).toNat default)else _)=_;by_cases c1:o.kind=1
    .rw [if_pos c1,if_pos c1];rfl
    .rw [if_neg c1,if_neg c1];by_cases c2:o.kind=2
     .have hk:=hok.k2 (Or.inl c2);rw [if_pos c2,if_pos c2];exact ih.rg o.k hk.1 hk.2 (by rw [lo,if_pos (Or.inr (Or.inr ⟨c2,rfl⟩))])
     .rw [if_neg c2,if_neg c2];rfl
   have eE:nE s' (ren (kpS b.ops kp b.ops.length).1 o)=nE s o:=by
    unfold nE;rw [ex,ey,ih.evs];show(if evO o then _++ [(⟨o.kind,o.at_,_,_,if o.kind=4\/o.kind=5 then s'.regs else []⟩:Ev)]else _)=_;by_cases c:o.kind=4\/o.kind=5
    .have e:s'.regs=s.regs:=amn ih.r4 λr r1 r2=>ih.rg r r1 r2 (by rw [lo,if_pos ah])
     rw [e]
    .rw [if_neg c,if_neg c]
   refine⟨by rw [show(stp s' (ren (kpS b.ops kp b.ops.length).1 o)).t=_ from eT];rfl,?_,?_,eE,?_,λj h1 h2=> ?_,?_,λr r1 r2 r3=> ?_⟩
   .show(if o.kind=4 then s'.ld+1 else s'.ld)=if o.kind=4 then s.ld+1 else s.ld
    rw [ih.ld]
   .show(if o.kind=6 then s'.inn+1 else s'.inn)=if o.kind=6 then s.inn+1 else s.inn
    rw [ih.inn]
   .show(s'.vals++ [_]).length=_;rw [ek,if_pos ck,List.length_append,List.length_append,ih.vl];rfl
   .show(s'.vals++ [nV s' _]).getD _ default=(s.vals++ [nV s o]).getD j default;rw [eV,dY,dY,ih.vl,hv];by_cases c:j<i
    .have:=(Jd b.ops kp c h2).1;rw [if_pos this,if_pos c];exact ih.v j c h2
    .have e:j=i:=by omega
     subst e;rw [if_neg ah,if_pos rfl,if_neg ah,if_pos rfl]
   .exact⟨PW ih.r4.1,PW ih.r4.2⟩
   .show(((nR s' (ren _ o))).getD (r).toNat default)=(((nR s o)).getD (r).toNat default);unfold nR;rw [ex];show(((if o.kind=8 then s'.regs.set o.k.toNat (xOf s o)else s'.regs)).getD (r).toNat default)=_;by_cases c:o.kind=8
    .have hk:=hok.k2 (Or.inr c);rw [if_pos c,if_pos c,xU r1 hk.1 (by have:=ih.r4.1;omega),xU r1 hk.1 (by have:=ih.r4.2;omega)];by_cases c2:r=o.k
     .rw [if_pos c2,if_pos c2]
     .rw [if_neg c2,if_neg c2];refine ih.rg r r1 r2 ?_;rw [lo,if_neg ah,if_neg ah];exact r3
    .rw [if_neg c,if_neg c];refine ih.rg r r1 r2 ?_;rw [lo];split
     .rfl
     .rw [if_neg ah];exact r3
  .rw [if_neg ck];generalize ((kpS b.ops kp i).2.map (ren (kpS b.ops kp b.ops.length).1)).foldl stp (s0 u)=s' at ih ⊢;have ck2:kp.getD i default=false:=by simpa using ck
   have kd:=hn ck2;refine⟨by rw [ih.t,u0,u1],?_,?_,?_,?_,λj h1 h2=> ?_,⟨ih.r4.1,?_⟩,λr r1 r2 r3=>rgn (λ_=>ck2) r r1 r2 r3 s' ih⟩
   .show s'.ld=if o.kind=4 then s.ld+1 else s.ld
    rw [if_neg ah,ih.ld]
   .show s'.inn=if o.kind=6 then s.inn+1 else s.inn
    rw [if_neg ah,ih.inn]
   .show s'.evs=nE s o;unfold nE;rw [if_neg (by unfold evO;omega),ih.evs]
   .rw [ih.vl,ek,if_neg ck]
   .show _=(s.vals++ [nV s o]).getD j default;by_cases c:j<i
    .rw [dY,if_pos ah];exact ih.v j c h2
    .have e:j=i:=by omega
     subst e;exact absurd h2 ck
   .exact PW ih.r4.2
def UL{b:Blk}{u:List Atom}(hb:cu b)(h1:aH u)(h2:u.length<=100)(h3:(bK u b).1=u):∀i,i<=b.ops.length->((b.ops.take i).foldl stp (s0 u)).t=u:=λi hi=>by
 have sz:=hb.sz;have i0:=BN h1 ah;have hk:=hb.k3;have lt:(b.ops.take i).length=i:=by rw [List.length_take];omega
 obtain⟨a1,a2⟩:=qc (b.ops.take i) 0 (s0 u) i0 (λo ho=>hk o (List.mem_of_mem_take ho)) ah ah;obtain⟨_,b2⟩:=qc (b.ops.drop i) _ _ a1 (λo ho=>hk o (List.mem_of_mem_drop ho)) (by rw [List.length_drop];omega) (by rw [List.length_drop];omega);rw [<-List.foldl_append,List.take_append_drop]at b2;have e:(b.ops.foldl stp (s0 u)).t=u:=by rw [kg h1 h2 hb]at h3;exact h3
 rw [e]at b2;have p:=(BM h1 ah 4 ah).pre.trans a2;exact(p.eq_of_length (Nat.le_antisymm (jG p) (jG b2))).symm
def ZG(f:IOp->IOp){l:List IOp}{m:Nat}(h:m<l.length):(l.map f).getD m default=f (l.getD m default):=by
 rw [getD_lt (by rw [List.length_map];exact h),getD_lt h,List.getElem_map]
def adA{b:Blk}(hb:cu b){kp:List Bool}(H:KP b kp):cu (jH b kp):=by
 have le:=(nD b.ops kp b.ops.length).2;have sz:=hb.sz;have vl:∀ {x:Int} {j:Nat},Vl b.ops x j->j<=b.ops.length->((kp).getD (x).toNat default)=true->Vl ((kpS b.ops kp b.ops.length).2.map (ren (kpS b.ops kp b.ops.length).1)) (((kpS b.ops kp b.ops.length).1).getD (x).toNat default) ((kpS b.ops kp j).2.length:Int):=λ{x j} h hj k=>by
  have g0:=h.1;have g1:=h.2.1;have a:=Jd b.ops kp (show x.toNat<j by omega) k;have a2:=Jd b.ops kp (show x.toNat<b.ops.length by omega) k;rw [PU b.ops kp (show x.toNat<b.ops.length by omega)];refine⟨ah,ah,?_⟩;rw [show((((kpS b.ops kp x.toNat).2.length:Nat):Int)).toNat=(kpS b.ops kp x.toNat).2.length from rfl,ZG _ a2.1,a2.2];exact h.2.2
 have en:=hb.en;refine⟨hb.ln,hb.pc,?_,λi h1 h2=> ?_,?_⟩
 .show((kpS b.ops kp b.ops.length).2.map _).length<=48;rw [List.length_map];omega
 .show lC ((kpS b.ops kp b.ops.length).2.map _) b.len i (((kpS b.ops kp b.ops.length).2.map _).getD i.toNat default);have h2:i< ((kpS b.ops kp b.ops.length).2.map (ren (kpS b.ops kp b.ops.length).1)).length:=h2;rw [List.length_map]at h2;obtain⟨j,j1,j2,j3⟩:=ZF b.ops kp (show i.toNat< (kpS b.ops kp b.ops.length).2.length by omega);have a:=Jd b.ops kp j1 j2;rw [j3]at a;rw [ZG _ a.1,a.2];have ho:=hb.op j ah ah;have hx:=H.x j ah ah j2;have hy:=H.y j ah ah j2;rw [show(j:Int).toNat=j from rfl]at ho hx hy;generalize b.ops.getD j default=o at ho hx hy;have ei:i=((kpS b.ops kp j).2.length:Int):=by omega
  rw [ei];refine⟨ho.kd,λc=> ?_,λc=> ?_,λc=> ?_,λc=> ?_,ho.k1,ho.k2,ho.k3,ho.k0,ho.a1,ho.a0⟩
  .have c:hX o:=c;show Vl _ (if hX o then _ else _) _;rw [if_pos c];exact vl (ho.x1 c) ah (hx c)
  .have c:¬hX o:=c;show(if hX o then _ else _)=_;rw [if_neg c];exact ho.x0 c
  .have c:hY o:=c;show Vl _ (if hY o then _ else _) _;rw [if_pos c];exact vl (ho.y1 c) ah (hy c)
  .have c:¬hY o:=c;show(if hY o then _ else _)=_;rw [if_neg c];exact ho.y0 c
 .have ln:(((jH b kp).ops.length:Nat):Int)=((kpS b.ops kp b.ops.length).2.length:Int):=by show(((kpS b.ops kp b.ops.length).2.map _).length:Int)=_;rw [List.length_map]
  refine⟨en.f,λh=> ?_,λh=> ?_,λh=> ?_,λh=> ?_,en.k1,en.k0⟩
  .have h:b.fin≠1:=h;rw [ln];show Vl _ (if b.fin=1 then _ else _) _;rw [if_neg h];exact vl (en.x1 h) (Nat.le_refl _) (H.ex h)
  .have h:b.fin=1:=h;show(if b.fin=1 then _ else _)=_;rw [if_pos h];exact en.x0 h
  .have h:3<=b.fin:=h;rw [ln];show Vl _ (if 3<=b.fin then _ else _) _;rw [if_pos h];exact vl (en.y1 h) (Nat.le_refl _) (H.ey h)
  .have h:b.fin<=2:=h;show(if 3<=b.fin then _ else _)=_;rw [if_neg ah];exact en.y0 h
def Sl{b:Blk}(hb:cu b){kp:List Bool}(H:KP b kp):Lk b (jH b kp):=by
 have ok:=adA hb H;refine⟨hb,ok,rfl,rfl,λu h1 h2 h3=> ?_⟩;have i1:=BN h1 ah;have K:=KY hb H u (UL hb h1 h2 h3) i1.r4 b.ops.length (Nat.le_refl _);rw [List.take_length]at K;have K:KI b kp b.ops.length (dK u b) (dK u (jH b kp)):=K;rw [kg h1 h2 hb,kg h1 h2 ok];have er:(dK u (jH b kp)).regs=(dK u b).regs:=amn K.r4 λr r1 r2=>by have:=K.rg r r1 r2;rw [List.drop_length]at this;exact this rfl
 have em:jL (jH b kp) (dK u (jH b kp))=jL b (dK u b):=by
  have en:=hb.en;have vv:∀x:Int,Vl b.ops x b.ops.length->((kp).getD (x).toNat default)=true->(((dK u (jH b kp)).vals).getD ((((kpS b.ops kp b.ops.length).1).getD (x).toNat default)).toNat default)=(((dK u b).vals).getD (x).toNat default):=λx g k=>by
   have g0:=g.1;have g1:=g.2.1;rw [PU b.ops kp (show x.toNat<b.ops.length by omega),show((((kpS b.ops kp x.toNat).2.length:Nat):Int)).toNat=(kpS b.ops kp x.toNat).2.length from rfl];exact K.v x.toNat ah k
  unfold jL;show Sym.mk (dK u (jH b kp)).evs (dK u (jH b kp)).regs b.fin (if b.fin=1 then []else(((dK u (jH b kp)).vals).getD ((if b.fin=1 then b.x else(((kpS b.ops kp b.ops.length).1).getD (b.x).toNat default))).toNat default)) (if 3<=b.fin then(((dK u (jH b kp)).vals).getD ((if 3<=b.fin then(((kpS b.ops kp b.ops.length).1).getD (b.y).toNat default)else b.y)).toNat default)else []) b.k=_;rw [K.evs,er]
  congr 1
  .by_cases c:b.fin=1
   .rw [if_pos c,if_pos c]
   .rw [if_neg c,if_neg c,if_neg c];exact vv _ (en.x1 c) (H.ex c)
  .by_cases c:3<=b.fin
   .rw [if_pos c,if_pos c,if_pos c];exact vv _ (en.y1 c) (H.ey c)
   .rw [if_neg c,if_neg c]
 rw [em,K.t];rfl
def l5(ops:List IOp):List Bool:=(List.range ops.length).map λi=> !(decide ((ops.getD i default).kind=8)&&kV (ops.drop (i+1)) (ops.getD i default).k)
noncomputable def lD (b:Blk):Blk:=if bp (cu b)=true then jH b (l5 b.ops)else PG
def AU{ops:List IOp}{i:Nat}(h:i<ops.length):(l5 ops).getD i default= !(decide ((ops.getD i default).kind=8)&&kV (ops.drop (i+1)) (ops.getD i default).k):=by
 unfold l5;rw [getD_lt (by rw [List.length_map,List.length_range];exact h),List.getElem_map,List.getElem_range]
def UM{b:Blk}(hb:cu b):KP b (l5 b.ops):=by
 have v:∀ {x n:Int},Vl b.ops x n->n<=b.ops.length->(((l5 b.ops)).getD (x).toNat default)=true:=λ{x n} h hn=>by
  have g0:=h.1;have g1:=h.2.1;have g:=h.2.2;rw [AU ah,decide_eq_false (show¬(b.ops.getD x.toNat default).kind=8 from λe=>by unfold mkV at g;omega)];rfl
 have en:=hb.en;refine⟨λi h1 h2 _ c=>v ((hb.op i h1 h2).x1 c) ah,λi h1 h2 _ c=>v ((hb.op i h1 h2).y1 c) ah,λc=>v (en.x1 c) (Int.le_refl _),λc=>v (en.y1 c) (Int.le_refl _),λi h1 h2 c=>Or.inr ?_⟩;rw [AU ah,Bool.not_eq_false',Bool.and_eq_true,decide_eq_true_eq]at c;exact c
def PX{b:Blk}(hb:cu b):Lk b (lD b):=by
 unfold lD;rw [if_pos (aP hb)];exact Sl hb (UM hb)
def us0(b:Blk):List Bool:=(λm:List Bool=>if 3<=b.fin then m.set b.y.toNat true else m) (if b.fin=1 then List.replicate b.ops.length false else(List.replicate b.ops.length false).set b.x.toNat true)
def usO(o:IOp)(i:Nat)(m:List Bool):List Bool:=
 if(m.getD i default || decide (4<=o.kind))=true then(λm:List Bool=>if hY o then m.set o.y.toNat true else m) ((λm:List Bool=>if hX o then m.set o.x.toNat true else m) (m.set i true))else m
def us(b:Blk):Nat->List Bool
 | 0=>us0 b
 | k+1=>usO (b.ops.getD (b.ops.length-1-k) default) (b.ops.length-1-k) (us b k)
noncomputable def CB (b:Blk):List Bool:=if bp (cu b)=true then us b b.ops.length else []
noncomputable def jI (b:Blk):Blk:=if bp (cu b)=true then jH b (us b b.ops.length)else PG
def adB(o:IOp)(i:Nat)(m:List Bool):(usO o i m).length=m.length:=by
 unfold usO;dsimp only;repeat' split
 all_goals simp only [List.length_set]
def adC(b:Blk):(us0 b).length=b.ops.length:=by
 unfold us0;dsimp only;repeat' split
 all_goals simp only [List.length_set,List.length_replicate]
def AV(b:Blk):∀k,(us b k).length=b.ops.length
 | 0=>adC b
 | k+1=>by unfold us;rw [adB,AV b k]
def vC{m:List Bool}{i:Nat}{j:Int}(h:j.toNat<m.length):(m.set j.toNat true).getD i default=(m.getD i default || decide (i=j.toNat)):=by
 by_cases c:i=j.toNat
 .subst c;rw [getD_lt (by rw [List.length_set];exact h),List.getElem_set_self,decide_eq_true rfl,Bool.or_true]
 .rw [decide_eq_false c,Bool.or_false];simp only [List.getD,List.getElem?_set_ne (Ne.symm c)]
def Sn{o:IOp}{i t:Nat}{m:List Bool}(hi:i<m.length)(hx:hX o->o.x.toNat<m.length)(hy:hY o->o.y.toNat<m.length):(usO o i m).getD t default=true↔m.getD t default=true\/(m.getD i default=true\/4<=o.kind)/\(t=i\/hX o/\t=o.x.toNat\/hY o/\t=o.y.toNat):=by
 unfold usO;dsimp only;by_cases c:(m.getD i default || decide (4<=o.kind))=true
 .rw [if_pos c];rw [Bool.or_eq_true,decide_eq_true_eq]at c;have e1:∀t:Nat,(m.set i true).getD t default=true↔m.getD t default=true\/t=i:=λt=>by
   have:=vC (m:=m) (i:=t) (j:=(i:Int)) hi;rw [show((i:Int)).toNat=i from rfl]at this;rw [this,Bool.or_eq_true,decide_eq_true_eq]
  have e2:∀t:Nat,((if hX o then(m.set i true).set o.x.toNat true else m.set i true).getD t default=true)↔(m.getD t default=true\/t=i)\/hX o/\t=o.x.toNat:=λt=>by
   by_cases d:hX o
   .rw [if_pos d,vC (by rw [List.length_set];exact hx d),Bool.or_eq_true,decide_eq_true_eq,e1];exact⟨λh=>h.elim Or.inl (λh=>Or.inr ⟨d,h⟩),λh=>h.elim Or.inl (λh=>Or.inr h.2)⟩
   .rw [if_neg d,e1];exact⟨Or.inl,λh=>h.elim id (λh=>absurd h.1 d)⟩
  have l2:(if hX o then(m.set i true).set o.x.toNat true else m.set i true).length=m.length:=by split<;>simp only [List.length_set]
  by_cases d:hY o
  .rw [if_pos d,vC (by rw [l2];exact hy d),Bool.or_eq_true,decide_eq_true_eq,e2];have c':=eq_true c;have d':=eq_true d;generalize hY o=Y at d' ⊢;generalize hX o=Z;rw [c',d'];grind
  .rw [if_neg d,e2];have c':=eq_true c;have d':=eq_false d;generalize hY o=Y at d' ⊢;generalize hX o=Z;rw [c',d'];grind
 .rw [if_neg c];rw [Bool.or_eq_true,decide_eq_true_eq]at c;simp only [c,false_and,or_false]
def PZ{m:List Bool}{t:Nat}{j:Int}(h:j.toNat<m.length):(m.set j.toNat true).getD t default=true↔m.getD t default=true\/t=j.toNat:=by rw [vC h,Bool.or_eq_true,decide_eq_true_eq]
structure UI(b:Blk)(p:Nat)(m:List Bool):Prop where
 k:∀i:Nat,p<=i->i<b.ops.length->4<=(b.ops.getD i default).kind->m.getD i default=true
 x:∀i:Nat,p<=i->i<b.ops.length->m.getD i default=true->hX (b.ops.getD i default)->((m).getD ((b.ops.getD i default).x).toNat default)=true
 y:∀i:Nat,p<=i->i<b.ops.length->m.getD i default=true->hY (b.ops.getD i default)->((m).getD ((b.ops.getD i default).y).toNat default)=true
 ex:b.fin≠1->((m).getD (b.x).toNat default)=true
 ey:3<=b.fin->((m).getD (b.y).toNat default)=true
 wh:∀t:Nat,t<b.ops.length->m.getD t default=true->4<=(b.ops.getD t default).kind\/b.fin≠1/\t=b.x.toNat\/3<=b.fin/\t=b.y.toNat\/∃j:Nat,p<=j/\j<b.ops.length/\t<j/\m.getD j default=true/\(hX (b.ops.getD j default)/\t=(b.ops.getD j default).x.toNat\/hY (b.ops.getD j default)/\t=(b.ops.getD j default).y.toNat)
def Sq{b:Blk}(hb:cu b)(t:Nat):(us0 b).getD t default=true↔b.fin≠1/\t=b.x.toNat\/3<=b.fin/\t=b.y.toNat:=by
 have en:=hb.en;have fx:=en.x1;have fy:=en.y1;unfold us0;dsimp only;have r:∀t,(List.replicate b.ops.length false).getD t default=false:=λt=>by
  by_cases c:t<b.ops.length
  .rw [getD_lt (by rw [List.length_replicate];exact c),List.getElem_replicate]
  .rw [List.getD_eq_getElem?_getD,List.getElem?_eq_none (by rw [List.length_replicate];omega)];rfl
 have e1:∀t:Nat,((if b.fin=1 then List.replicate b.ops.length false else(List.replicate b.ops.length false).set b.x.toNat true).getD t default=true)↔b.fin≠1/\t=b.x.toNat:=λt=>by
  by_cases d:b.fin=1
  .rw [if_pos d,r];simp [d]
  .have:=fx d;have g0:=this.1;have g1:=this.2.1;rw [if_neg d,vC (by rw [List.length_replicate];omega),r];simp [d]
 have l1:(if b.fin=1 then List.replicate b.ops.length false else(List.replicate b.ops.length false).set b.x.toNat true).length=b.ops.length:=by split<;>simp only [List.length_set,List.length_replicate]
 by_cases d:3<=b.fin
 .have:=fy d;have g0:=this.1;have g1:=this.2.1;rw [if_pos d,vC (by rw [l1];omega),Bool.or_eq_true,decide_eq_true_eq,e1];simp only [d,true_and]
 .rw [if_neg d,e1];simp only [d,false_and,or_false]
def afg{b:Blk}(hb:cu b):∀k,k<=b.ops.length->UI b (b.ops.length-k) (us b k)
 | 0,_=>by
  have e:=Sq hb;exact⟨λi h1 h2=>absurd h2 ah,λi h1 h2=>absurd h2 ah,λi h1 h2=>absurd h2 ah,λc=>(e _).2 (Or.inl ⟨c,rfl⟩),λc=>(e _).2 (Or.inr ⟨c,rfl⟩),λt _ h=>((e t).1 h).elim (λh=>Or.inr (Or.inl h)) (λh=>Or.inr (Or.inr (Or.inl h)))⟩
 | k+1,hk=>by
  have ih:=afg hb k ah;have ul:=AV b k;have ho:=hb.op ((b.ops.length-1-k:Nat):Int) ah ah;rw [show(((b.ops.length-1-k:Nat):Int)).toNat=b.ops.length-1-k from rfl]at ho;generalize hp:b.ops.length-1-k=p at ho;have e0:b.ops.length-k=p+1:=by omega
  rw [e0]at ih;rw [show b.ops.length- (k+1)=p by omega];have pl:p<b.ops.length:=by omega
  show UI b p (usO (b.ops.getD (b.ops.length-1-k) default) (b.ops.length-1-k) (us b k));rw [hp];have X:hX (b.ops.getD p default)->(b.ops.getD p default).x.toNat<p:=λc=>by have:=ho.x1 c;have g0:=this.1;have g1:=this.2.1;omega
  have Y:hY (b.ops.getD p default)->(b.ops.getD p default).y.toNat<p:=λc=>by have:=ho.y1 c;have g0:=this.1;have g1:=this.2.1;omega
  generalize us b k=m at ih ul;have e:∀t:Nat,_↔_:=λt=>Sn (o:=b.ops.getD p default) (i:=p) (t:=t) (m:=m) ah (λc=>by have:=X c;omega) (λc=>by have:=Y c;omega)
  have hi:∀t:Nat,p<t->((usO (b.ops.getD p default) p m).getD t default=true↔m.getD t default=true):=λt h=>by
   rw [e];constructor
   .rintro(h1 | ⟨_,h1 | ⟨h1,h2⟩ | ⟨h1,h2⟩⟩)
    .exact h1
    .omega
    .have:=X h1;omega
    .have:=Y h1;omega
   .exact Or.inl
  have mono:∀t:Nat,m.getD t default=true->(usO (b.ops.getD p default) p m).getD t default=true:=λt h=>(e t).2 (Or.inl h)
  have pp:(usO (b.ops.getD p default) p m).getD p default=true↔m.getD p default=true\/4<=(b.ops.getD p default).kind:=by
   rw [e];constructor
   .rintro(h1 | ⟨h1,_⟩)
    .exact Or.inl h1
    .exact h1
   .intro h;exact Or.inr ⟨h,Or.inl rfl⟩
  refine⟨λi h1 h2 h3=> ?_,λi h1 h2 h3 h4=> ?_,λi h1 h2 h3 h4=> ?_,λc=>mono _ (ih.ex c),λc=>mono _ (ih.ey c),λt h1 h2=> ?_⟩
  .by_cases c:i=p
   .subst c;exact pp.2 (Or.inr h3)
   .exact mono _ (ih.k i ah h2 h3)
  .by_cases c:i=p
   .subst c;exact(e _).2 (Or.inr ⟨pp.1 h3,Or.inr (Or.inl ⟨h4,rfl⟩)⟩)
   .exact mono _ (ih.x i ah h2 ((hi i ah).1 h3) h4)
  .by_cases c:i=p
   .subst c;exact(e _).2 (Or.inr ⟨pp.1 h3,Or.inr (Or.inr ⟨h4,rfl⟩)⟩)
   .exact mono _ (ih.y i ah h2 ((hi i ah).1 h3) h4)
  .have old:m.getD t default=true->_:=λh=>ih.wh t h1 h
   have go:m.getD t default=true->4<=(b.ops.getD t default).kind\/b.fin≠1/\t=b.x.toNat\/3<=b.fin/\t=b.y.toNat\/∃j:Nat,p<=j/\j<b.ops.length/\t<j/\(usO (b.ops.getD p default) p m).getD j default=true/\(hX (b.ops.getD j default)/\t=(b.ops.getD j default).x.toNat\/hY (b.ops.getD j default)/\t=(b.ops.getD j default).y.toNat):=λh=>by
    rcases old h with h | h | h | ⟨j,j1,j2,j3,j4,j5⟩
    .exact Or.inl h
    .exact Or.inr (Or.inl h)
    .exact Or.inr (Or.inr (Or.inl h))
    .exact Or.inr (Or.inr (Or.inr ⟨j,ah,j2,j3,mono _ j4,j5⟩))
   rcases(e t).1 h2 with h | ⟨h,g⟩
   .exact go h
   .rcases g with g | ⟨g1,g2⟩ | ⟨g1,g2⟩
    .subst g;rcases h with h | h
     .exact go h
     .exact Or.inl h
    .exact Or.inr (Or.inr (Or.inr ⟨p,Nat.le_refl _,pl,by have:=X g1;omega,pp.2 h,Or.inl ⟨g1,g2⟩⟩))
    .exact Or.inr (Or.inr (Or.inr ⟨p,Nat.le_refl _,pl,by have:=Y g1;omega,pp.2 h,Or.inr ⟨g1,g2⟩⟩))
def afh{b:Blk}(hb:cu b):UI b 0 (us b b.ops.length):=by
 have:=afg hb b.ops.length (Nat.le_refl _);rw [Nat.sub_self]at this;exact this
def amo{b:Blk}(hb:cu b):KP b (us b b.ops.length):=by
 have h:=afh hb;refine⟨λi h1 h2 h3 c=>h.x i.toNat (Nat.zero_le _) ah h3 c,λi h1 h2 h3 c=>h.y i.toNat (Nat.zero_le _) ah h3 c,h.ex,h.ey,λi h1 h2 c=>Or.inl ?_⟩;by_cases g:(((b.ops).getD (i).toNat default)).kind<=3
 .exact g
 .have:=h.k i.toNat (Nat.zero_le _) ah ah;rw [c]at this;cases this
def EF{b:Blk}(hb:cu b):Lk b (jI b):=by
 unfold jI;rw [if_pos (aP hb)];exact Sl hb (amo hb)
def ZH(b:Blk)(kp:List Bool):(jH b kp).ops.length=(kpS b.ops kp b.ops.length).2.length:=List.length_map _
theorem P9(o:IOp)(l:List IOp)(r:Int):kV (o::l) r=if o.kind=4\/o.kind=5\/o.kind=2/\o.k=r then false else if o.kind=8/\o.k=r then true else kV l r:=rfl
def KZ(b:Blk)(kp:List Bool):(jH b kp).ops.length<=b.ops.length:=by rw [ZH];exact(nD b.ops kp b.ops.length).2
def EG(b:Blk):(lD b).ops.length<=b.ops.length:=by
 unfold lD;split
 .exact KZ _ _
 .exact Nat.zero_le _
def xV(b:Blk):(jI b).ops.length<=b.ops.length:=by
 unfold jI;split
 .exact KZ _ _
 .exact Nat.zero_le _
def adD(b:Blk)(f:List IOp):(fcB b f).ops=f:=by
 unfold fcB;split; · rfl
 split<;>rfl
def BP(b:Blk):(eP b).ops.length<=b.ops.length:=by
 unfold eP;split
 .rw [adD,lZ];exact Nat.le_refl _
 .exact Nat.zero_le _
def xW(b:Blk):(dw b).ops.length<=b.ops.length:=by
 unfold dw;split
 .exact Nat.le_of_eq (List.length_map _)
 .exact Nat.zero_le _
noncomputable def xX (b:Blk):Blk:=jI (lD (jI (eP (dw b))))
def GI(b:Blk):(xX b).ops.length<=b.ops.length:=Nat.le_trans (xV _) (Nat.le_trans (EG _) (Nat.le_trans (xV _) (Nat.le_trans (BP _) (xW _))))
def UN{b:Blk}(hb:cu b):Lk b (xX b):=by
 have h1:=(PL hb).1;have h2:=(KW h1.oc).1;have h3:=EF h2.oc;have h4:=PX h3.oc;exact h1.trans (h2.trans (h3.trans (h4.trans (EF h4.oc))))
def Je{b:Blk}(hb:cu b):eP b=fcB b (fc b.ops b.ops.length):=by unfold eP;rw [if_pos (aP hb)]
def RB:(∀o:IOp,dB .iop 0 o=o.kind)/\(∀o:IOp,dB .iop 1 o=o.x)/\(∀o:IOp,dB .iop 2 o=o.y)/\(∀o:IOp,dB .iop 3 o=o.k)/\(∀o:IOp,dB .iop 4 o=o.at_)/\
  (∀b:Blk,dB .blk 0 b=b.pc)/\(∀b:Blk,dB .blk 1 b=b.len)/\(∀b:Blk,iE .blk 2 .iop b=b.ops)/\(∀b:Blk,dB .blk 3 b=b.fin)/\(∀b:Blk,dB .blk 4 b=b.x)/\(∀b:Blk,dB .blk 5 b=b.y)/\(∀b:Blk,dB .blk 6 b=b.k)/\
  (∀x,Co.mk .iop x=⟨x.1,x.2.1,x.2.2.1,x.2.2.2.1,x.2.2.2.2.1⟩)/\(∀x,Co.mk .blk x=⟨x.1,x.2.1,x.2.2.1,x.2.2.2.1,x.2.2.2.2.1,x.2.2.2.2.2.1,x.2.2.2.2.2.2.1⟩)/\
  (∀i:Ins,dB .ins 0 i=i.op)/\(∀i:Ins,dB .ins 1 i=i.d)/\(∀i:Ins,dB .ins 2 i=i.a)/\(∀i:Ins,dB .ins 3 i=i.k)/\(∀x,Co.mk .ins x=⟨x.1,x.2.1,x.2.2.1,x.2.2.2.1⟩)/\
  (∀e:Ev,dB .ev 0 e=e.kind)/\(∀e:Ev,dB .ev 1 e=e.at_)/\(∀e:Ev,iE .ev 2 .mono e=e.x)/\(∀e:Ev,iE .ev 3 .mono e=e.y)/\(∀e:Ev,iE .ev 4 .poly e=e.regs)/\(∀x,Co.mk .ev x=⟨x.1,x.2.1,x.2.2.1,x.2.2.2.1,x.2.2.2.2.1⟩)/\
  (∀s:Sym,iE .sym 0 .ev s=s.events)/\(∀s:Sym,iE .sym 1 .poly s=s.regs)/\(∀s:Sym,dB .sym 2 s=s.fin)/\(∀s:Sym,iE .sym 3 .mono s=s.x)/\(∀s:Sym,iE .sym 4 .mono s=s.y)/\(∀s:Sym,dB .sym 5 s=s.k)/\
  (∀x,Co.mk .sym x=⟨x.1,x.2.1,x.2.2.1,x.2.2.2.1,x.2.2.2.2.1,x.2.2.2.2.2.1⟩)/\(∀x,Co.mk .bool x=x.1)/\(∀x:Bool,ML .bool 0 x=x):=
 ⟨λ_=>rfl,λ_=>rfl,λ_=>rfl,λ_=>rfl,λ_=>rfl,λ_=>rfl,λ_=>rfl,λ_=>rfl,λ_=>rfl,λ_=>rfl,λ_=>rfl,λ_=>rfl,λ_=>rfl,λ_=>rfl,λ_=>rfl,λ_=>rfl,λ_=>rfl,λ_=>rfl,λ_=>rfl,λ_=>rfl,λ_=>rfl,λ_=>rfl,λ_=>rfl,λ_=>rfl,λ_=>rfl,λ_=>rfl,λ_=>rfl,λ_=>rfl,λ_=>rfl,λ_=>rfl,λ_=>rfl,λ_=>rfl,λ_=>rfl,λ_=>rfl⟩
abbrev hK(o : IOp) : Prop := o.kind = 1 \/ o.kind = 2 \/ o.kind = 3 \/ o.kind = 8
def ZI{ops:List IOp}{len i:Int}{o:IOp}:lC ops len i o↔(1<=o.kind/\o.kind<=8)/\(hX o/\Vl ops o.x i\/¬hX o/\o.x=0)/\(hY o/\Vl ops o.y i\/¬hY o/\o.y=0)/\
  (hK o/\(o.kind=1/\(0<=o.k/\o.k<=65535)\/(o.kind=2\/o.kind=8)/\(0<=o.k/\o.k<=3)\/o.kind=3/\(1<=o.k/\o.k<=5))\/¬hK o/\o.k=0)/\(evO o/\(0<=o.at_/\o.at_<len)\/¬evO o/\o.at_=0):=by
 constructor
 .rintro⟨kd,x1,x0,y1,y0,k1,k2,k3,k0,a1,a0⟩;refine⟨kd,?_,?_,?_,?_⟩
  .by_cases h:hX o
   .exact Or.inl ⟨h,x1 h⟩
   .exact Or.inr ⟨h,x0 h⟩
  .by_cases h:hY o
   .exact Or.inl ⟨h,y1 h⟩
   .exact Or.inr ⟨h,y0 h⟩
  .unfold hK;omega
  .by_cases h:evO o
   .exact Or.inl ⟨h,a1 h⟩
   .exact Or.inr ⟨h,a0 h⟩
 .rintro⟨kd,x,y,k,a⟩;refine⟨kd,λh=> ?_,λh=> ?_,λh=> ?_,λh=> ?_,λh=> ?_,λh=> ?_,λh=> ?_,λh h'=> ?_,λh=> ?_,λh=> ?_⟩
  .rcases x with x | x
   .exact x.2
   .exact absurd h x.1
  .rcases x with x | x
   .exact absurd x.1 h
   .exact x.2
  .rcases y with y | y
   .exact y.2
   .exact absurd h y.1
  .rcases y with y | y
   .exact absurd y.1 h
   .exact y.2
  .unfold hK at k;omega
  .unfold hK at k;omega
  .unfold hK at k;omega
  .unfold hK at k;omega
  .rcases a with a | a
   .exact a.2
   .exact absurd h a.1
  .rcases a with a | a
   .exact absurd a.1 h
   .exact a.2
structure Y52(pp:Blk×Int×Int×Unit->Bool)(ff:Blk×Int×Int×Unit->Bool×Unit):Prop where
 hp:∀b x n,0<=n->n<=b.ops.length->b.ops.length<1000000000->pp (b,x,n,())=true
 hf:∀b x n,0<=n->n<=b.ops.length->b.ops.length<1000000000->ff (b,x,n,())=(bp (Vl b.ops x n),())
structure Y53(pp:IOp×Unit->Bool)(ff:IOp×Unit->Bool×Bool×Bool×Bool×Unit):Prop where
 hp:∀o,pp (o,())=true
 hf:∀o,ff (o,())=(decide (hX o),decide (hY o),decide (hK o),decide (evO o),())
def UO{b:Blk}:GD b↔(1<=b.fin/\b.fin<=4)/\(b.fin≠1/\Vl b.ops b.x b.ops.length\/¬b.fin≠1/\b.x=0)/\(3<=b.fin/\Vl b.ops b.y b.ops.length\/¬3<=b.fin/\b.y=0)/\(b.fin≠2/\(0<=b.k/\b.k<=65535)\/¬b.fin≠2/\b.k=0):=by
 constructor
 .rintro⟨f,x1,x0,y1,y0,k1,k0⟩;refine⟨f,?_,?_,ah⟩
  .by_cases h:b.fin=1
   .exact Or.inr ⟨λg=>g h,x0 h⟩
   .exact Or.inl ⟨h,x1 h⟩
  .by_cases h:3<=b.fin
   .exact Or.inl ⟨h,y1 h⟩
   .exact Or.inr ⟨h,y0 ah⟩
 .rintro⟨f,x,y,k⟩;refine⟨f,λh=> ?_,λh=> ?_,λh=> ?_,λh=> ?_,λh=>by omega,λh=>by omega⟩
  .rcases x with x | x
   .exact x.2
   .exact absurd h x.1
  .rcases x with x | x
   .exact absurd h x.1
   .exact x.2
  .rcases y with y | y
   .exact y.2
   .exact absurd h y.1
  .rcases y with y | y
   .exact absurd y.1 ah
   .exact y.2
structure Y54(pp:Blk×Unit->Bool)(ff:Blk×Unit->Bool×Bool×Bool×Unit):Prop where
 hp:∀b,pp (b,())=true
 hf:∀b,ff (b,())=(decide (b.fin≠1),decide (3<=b.fin),decide (b.fin≠2),())
def ah7{p1 f1}(U1:Y1 p1 f1)(k:Int):
  NW.F (p1,f1,()) (k,()) (λy=>y=(decide ((1<=k/\k<=4)\/k=6),())):=by
 dsimp only [NW,gm];simp (disch:=omega) only [RR,U1.hp,U1.hf];refine Prod.ext ?_ rfl;rw [Bool.eq_iff_iff];simp [inB]
def ah8{p1:Int×Unit->Bool}{f1:Int×Unit->Bool×Unit}(hp1:∀k,p1 (k,())=true)(hf1:∀k,f1 (k,())=(decide ((1<=k/\k<=4)\/k=6),()))(ops:List IOp)(x n:Int)(h1:n<=ops.length):
  NY.F (p1,f1,()) (ops,x,n,()) (λy=>y=(bp (Vl ops x n),())):=by
 dsimp only [NY,gm];simp (disch:=omega) only [RR,RB,hp1,hf1];refine⟨by simp only [Bool.and_eq_false_iff,decide_eq_false_iff_not];omega,by simp only [Bool.and_eq_false_iff,decide_eq_false_iff_not];omega,?_⟩;refine Prod.ext ?_ rfl;dsimp only;rw [Bool.eq_iff_iff,aU,Bool.and_eq_true,Bool.and_eq_true,decide_eq_true_eq,decide_eq_true_eq,decide_eq_true_eq,and_assoc];rfl
structure Y55(pp:List IOp×Int×Int×Unit->Bool)(ff:List IOp×Int×Int×Unit->Bool×Unit):Prop where
 hp:∀(ops:List IOp) (x n:Int),n<=ops.length->pp (ops,x,n,())=true
 hf:∀(ops:List IOp) (x n:Int),n<=ops.length->ff (ops,x,n,())=(bp (Vl ops x n),())
def ah9{p4 f4 p1 f1 p3 f3}(U4:Y9 p4 f4)(U1:Y1 p1 f1)(U3:Y55 p3 f3)(ops:List IOp)(i len:Int)(h0:0<=i)(h1:i<ops.length)(h3:1<=len/\len<=8):NZ.F (p4,f4,p1,f1,p3,f3,()) (ops,i,len,()) (λy=>y=(bp (lC ops len i ((ops).getD (i).toNat default)),())):=by
 have aia:=λx=>U3.hp ops x i ah
 have aib:=λx=>U3.hf ops x i ah
 have e:∀ {a:Int},(0<=a/\a<=len-1)↔(0<=a/\a<len):=λ{a}=>by omega
 dsimp only [NZ,gm];simp (disch:=omega) only [RR,RB,U1.hp,U1.hf,aia,aib,U4.hp,U4.hf];refine⟨ah,ah,?_⟩;rw [show bp (lC ops len i ((ops).getD (i).toNat default))=bp (_)from xQ ZI];generalize ((ops).getD (i).toNat default)=o;have go:∀ {c:Bool} {P:Prop},(c=true↔P)->(c,())=(bp P,()):=λ{c P} h=>Prod.ext (by dsimp only;rw [Bool.eq_iff_iff,aU];exact h) rfl
 refine⟨λc=> ?_,λc1=>⟨λc=> ?_,λc2=>⟨λc=> ?_,λc3=> ?_⟩⟩⟩
 .refine go ?_;simp only [Bool.and_eq_true,decide_eq_true_eq,aU,dF,c,hX,hY,hK,evO,e];simp [and_assoc]
 .refine go ?_;simp only [Bool.and_eq_true,decide_eq_true_eq,aU,dF,c,hX,hY,hK,evO,e];simp [and_assoc]
 .refine go ?_;simp only [Bool.and_eq_true,decide_eq_true_eq,aU,dF,c,hX,hY,hK,evO,e];simp [and_assoc]
 .by_cases c4:o.kind=4\/o.kind=7
  .have c5:o.kind≠8:=by omega
   rcases c4 with c | c<;>simp (disch:=omega) only [RR,c,Int.reduceEq]<;>(refine go ?_)<;>simp only [Bool.and_eq_true,decide_eq_true_eq,aU,dF,c,hX,hY,hK,evO,e]<;>simp [and_assoc]
  .by_cases c:o.kind=5
   .simp (disch:=omega) only [RR,c,Int.reduceEq];refine go ?_;simp only [Bool.and_eq_true,decide_eq_true_eq,aU,dF,c,hX,hY,hK,evO,e];simp [and_assoc]
   .by_cases c':o.kind=6
    .simp (disch:=omega) only [RR,c',Int.reduceEq];refine go ?_;simp only [Bool.and_eq_true,decide_eq_true_eq,aU,dF,c',hX,hY,hK,evO,e];simp [and_assoc]
    .by_cases c8:o.kind=8
     .simp (disch:=omega) only [RR,c8,Int.reduceEq];refine go ?_;simp only [Bool.and_eq_true,decide_eq_true_eq,aU,dF,c8,hX,hY,hK,evO,e];simp [and_assoc]
     .have n4:¬o.kind=4:=λh=>c4 (Or.inl h)
      have n7:¬o.kind=7:=λh=>c4 (Or.inr h)
      simp (disch:=omega) only [RR,n4,n7,c,c',c8];rw [bL (λh=>by have:=h.1;omega)]
def aic{p4 f4 p3 f3}(U4:Y9 p4 f4)(U3:Y55 p3 f3)(b:Blk):N7.F (p4,f4,p3,f3,()) (b,()) (λy=>y=(bp (GD b),())):=by
 have aia:=λx=>U3.hp b.ops x b.ops.length (Int.le_refl _)
 have aib:=λx=>U3.hf b.ops x b.ops.length (Int.le_refl _)
 dsimp only [N7,gm];simp (disch:=omega) only [RR,RB,aia,aib,U4.hp,U4.hf];rw [show bp (GD b)=bp (_)from xQ UO];have go:∀ {c:Bool} {P:Prop},(c=true↔P)->(c,())=(bp P,()):=λ{c P} h=>Prod.ext (by dsimp only;rw [Bool.eq_iff_iff,aU];exact h) rfl
 refine⟨λc=> ?_,λc1=>⟨λc=> ?_,λc2=> ?_⟩⟩
 .refine go ?_;simp only [Bool.and_eq_true,decide_eq_true_eq,aU,dF,c];simp [and_assoc]
 .refine go ?_;simp only [Bool.and_eq_true,decide_eq_true_eq,aU,dF,c];simp [and_assoc]
 .by_cases c:b.fin=3
  .simp (disch:=omega) only [RR,c,Int.reduceEq];refine go ?_;simp only [Bool.and_eq_true,decide_eq_true_eq,aU,dF,c];simp [and_assoc]
  .by_cases c4:b.fin=4
   .simp (disch:=omega) only [RR,c4,Int.reduceEq];refine go ?_;simp only [Bool.and_eq_true,decide_eq_true_eq,aU,dF,c4];simp [and_assoc]
   .simp (disch:=omega) only [RR,c,c4];rw [bL (λh=>by have:=h.1;omega)]
def amq{p1 f1}(U1:Y1 p1 f1){p2:Blk×Unit->Bool}{f2:Blk×Unit->Bool×Unit}(hp2:∀b,p2 (b,())=true)(hf2:∀b,f2 (b,())=(bp (GD b),())){p3:List IOp×Int×Int×Unit->Bool}{f3:List IOp×Int×Int×Unit->Bool×Unit}(hp3:∀(ops:List IOp) (i len:Int),0<=i->i<ops.length->1<=len/\len<=8->p3 (ops,i,len,())=true)(hf3:∀(ops:List IOp) (i len:Int),0<=i->i<ops.length->1<=len/\len<=8->f3 (ops,i,len,())=(bp (lC ops len i ((ops).getD (i).toNat default)),()))(b:Blk)(h2:b.ops.length<1000000000):
  XI.F (p1,f1,p2,f2,p3,f3,()) (b,()) (λy=>y=(bp (cu b),())):=by
 dsimp only [XI,gm];simp (disch:=omega) only [RR,RB,U1.hp,U1.hf];by_cases hl:1<=b.len/\b.len<=8
 .have hl':=dF.2 hl;simp (disch:=omega) only [RR,hl',dF,qB];refine⟨λh=> ?_,λh=> ?_⟩
  .rw [bL (λg=> ?_)];have g1:=g.pc;have g2:=g.sz;omega
  .refine aB (λ(y:Int×Blk×Unit)=>y.2.1=b/\0<=y.1/\y.1<=b.ops.length/\All y.1 (λi=>lC b.ops b.len i ((b.ops).getD (i).toNat default))) (λy=>(b.ops.length-y.1).toNat) ⟨rfl,by simp,by simp,All.zero⟩ ?_;rintro⟨(i:Int),(b':Blk),⟨⟩⟩ hI;dsimp only at hI ⊢;obtain⟨rfl,h3,h4,h5⟩:=hI;simp (disch:=omega) only [RR,hp2 b',hf2 b'];refine⟨λh6=>⟨hp3 b'.ops i b'.len h3 h6 hl,?_⟩,λh6=> ?_⟩
   .rw [hf3 b'.ops i b'.len h3 h6 hl];dsimp only;refine⟨λh7=> ?_,λh7=>⟨⟨ah,ah,h5.snoc (aU.1 h7)⟩,ah⟩⟩;rw [bL (λg=>kU.1 h7 (g.op i h3 h6))]
   .by_cases he:GD b'
    .rw [aP he,aP (show cu b' from⟨hl,ah,ah,λj j1 j2=>h5 j j1 ah,he⟩)]
    .rw [bL he,bL (λg=>he g.en)]
 .have hl':=qB.2 hl;simp (disch:=omega) only [RR,hl'];rw [bL (λg=>hl g.ln)];exact⟨rfl,λh=>h.1.1.elim⟩
structure Y56(pp:List (List aj)×Unit->Bool)(ff:List (List aj)×Unit->List (List aj)×Unit):Prop where
 hp:∀a,ShP a->pp (a,())=true
 hf:∀a,ShP a->ff (a,())=(a,())
theorem Sv(t:List Atom)(n:Nat):rN t (n+1)=((bA (rN t n).1 ⟨1,n,[],[]⟩).1,(rN t n).2++ [dS (bA (rN t n).1 ⟨1,n,[],[]⟩).2]):=rfl
structure Y57(pp:Int×Int×List Atom×Bool×Unit->Bool)(ff:Int×Int×List Atom×Bool×Unit->List aj×List Atom×Bool×Unit):Prop where
 hp:∀kd k (t:List Atom) fl,t.length<1000000000->pp (kd,k,t,fl,())=true
 hf:∀kd k (t:List Atom) fl,t.length<1000000000->ff (kd,k,t,fl,())=if(bA t ⟨kd,k,[],[]⟩).2<0 then([],t,true,())else(dS (bA t ⟨kd,k,[],[]⟩).2,(bA t ⟨kd,k,[],[]⟩).1,fl,())
structure Y58(pp:List Atom×Bool×Unit->Bool)(ff:List Atom×Bool×Unit->List Atom×Bool×List (List aj)×Unit):Prop where
 hp:∀(t:List Atom) fl,aH t->t.length<=196->pp (t,fl,())=true
 hf:∀(t:List Atom) fl,aH t->t.length<=196->ff (t,fl,())=((rN t 4).1,fl,(rN t 4).2,())
structure Y59(pp:Int×Int×Int×Unit->Bool)(ff:Int×Int×Int×Unit->Bool×Unit):Prop where
 hp:∀r a b,pp (r,a,b,())=true
 hf:∀r a b,ff (r,a,b,())=(inB a 0 65535&&inB b 0 65535&& (decide (r=1/\a=b\/r=2/\a<b)),())
noncomputable def SW (t:List Atom) (b:Blk) (i:Nat):SS:=(b.ops.take i).foldl stp (s0 t)
structure At(t:List Atom)(b:Blk)(i:Nat)(ld inn:Int)(tb:List Atom)(V:List (List aj))(ev:List Ev)(rg:List (List aj)):Prop where
 ld:ld=(SW t b i).ld
 inn:inn=(SW t b i).inn
 tb:tb=(SW t b i).t
 V:V=(SW t b i).vals++List.replicate (b.ops.length-i) []
 ev:ev=(SW t b i).evs
 rg:rg=(SW t b i).regs
def Sw(t:List Atom):∀(l:List IOp) (s:SS),(l.foldl stp s).evs.length<=s.evs.length+l.length
 | [],s=>Nat.le_refl _
 | o::r,s=>by
  rw [List.foldl_cons,List.length_cons];have h1:=Sw t r (stp s o);have h2:(stp s o).evs.length<=s.evs.length+1:=by
   show(nE s o).length<=_;unfold nE;split
   .rw [List.length_append];exact Nat.le_refl _
   .omega
  omega
theorem aie{t:List Atom}{b:Blk}(i:Nat)(hi:i<=b.ops.length):(SW t b i).evs.length<=i:=by
 have:=Sw t (b.ops.take i) (s0 t);rw [List.length_take,Nat.min_eq_left hi]at this;show((b.ops.take i).foldl stp (s0 t)).evs.length<=i;have e:(s0 t).evs.length=0:=rfl;omega
def Sy{t:List Atom}{b:Blk}{i:Nat}(hi:i<b.ops.length):SW t b (i+1)=stp (SW t b i) (b.ops.getD i default):=by
 unfold SW;rw [ku _ _ hi,getD_lt hi]
def At.next{t:List Atom}{b:Blk}{i:Nat}{ld inn:Int}{tb:List Atom}{V:List (List aj)}{ev:List Ev}{rg:List (List aj)}(h:At t b i ld inn tb V ev rg)(hv:(SW t b i).vals.length=i)(hi:i<b.ops.length){o:IOp}(ho:b.ops.getD i default=o)
  {ld' amr:Int} {tb':List Atom} {V':List (List aj)} {ev':List Ev} {rg':List (List aj)} (h1:ld'=if o.kind=4 then ld+1 else ld) (h2:amr=if o.kind=6 then inn+1 else inn) (h3:tb'=nT (SW t b i) o) (h4:V'=V.set i (nV (SW t b i) o)) (h5:ev'=nE (SW t b i) o) (h6:rg'=nR (SW t b i) o):At t b (i+1) ld' amr tb' V' ev' rg':=by
 have e:=Sy (t:=t) hi;rw [ho]at e;refine⟨?_,?_,?_,?_,?_,?_⟩<;>rw [e]
 .rw [h1,h.ld];rfl
 .rw [h2,h.inn];rfl
 .exact h3
 .rw [h4,h.V];show _=((SW t b i).vals++ [nV (SW t b i) o])++_;rw [List.set_append_right _ _ ah,hv,Nat.sub_self,show b.ops.length-i=(b.ops.length- (i+1))+1 by omega,List.replicate_succ,List.set_cons_zero,List.append_assoc];rfl
 .exact h5
 .exact h6
structure Y60(pp:Blk×Unit->Bool)(ff:Blk×Unit->Bool×Unit):Prop where
 hp:∀b,b.ops.length<1000000000->pp (b,())=true
 hf:∀b,b.ops.length<1000000000->ff (b,())=(bp (cu b),())
structure Y61(pp:IOp×Unit->Bool)(ff:IOp×Unit->Bool×Unit):Prop where
 hp:∀o,pp (o,())=true
 hf:∀o,ff (o,())=(decide (evO o),())
structure Y62(pp:Sym×Int×Unit->Bool)(ff:Sym×Int×Unit->Sym×Unit):Prop where
 hp:∀s n,ShY s->0<=s.fin->s.fin<=4->pp (s,n,())=true
 hf:∀s n,ShY s->0<=s.fin->s.fin<=4->ff (s,n,())=(symEnd s n,())
structure Y63(pp:Ins×Unit->Bool)(ff:Ins×Unit->Bool×Unit):Prop where
 hp:∀i,pp (i,())=true
structure Y64(pp:Int×Unit->Bool)(ff:Int×Unit->Bool×Unit):Prop where
 hp:∀i,pp (i,())=true
 hf:∀i,ff (i,())=(bp (11<=i/\i<=13),())
structure Y65(pp:Int×Int×Int×Int×Int×Int×IOp×List IOp×Unit->Bool)(ff:Int×Int×Int×Int×Int×Int×IOp×List IOp×Unit->Int×Int×Int×Int×Int×Int×Int×List IOp×Unit):Prop where
 hp:∀a1 a2 a3 a4 a5 a6 o ops,(ops.length:Int)<1000000->pp (a1,a2,a3,a4,a5,a6,o,ops,())=true
 hf:∀a1 a2 a3 a4 a5 a6 o ops,(ops.length:Int)<1000000->((ff (a1,a2,a3,a4,a5,a6,o,ops,())).2.2.2.2.2.2.2.1.length:Int)=ops.length+1
structure Y66(pp:Int×Int×Int×Int×Int×Int×Int×List IOp×Unit->Bool)(ff:Int×Int×Int×Int×Int×Int×Int×List IOp×Unit->Int×Int×Int×Int×Int×Int×Int×List IOp×Unit):Prop where
 hp:∀a1 a2 a3 a4 a5 a6 k ops,(ops.length:Int)<1000000->pp (a1,a2,a3,a4,a5,a6,k,ops,())=true
 hf:∀a1 a2 a3 a4 a5 a6 k ops,(ops.length:Int)<1000000->((ff (a1,a2,a3,a4,a5,a6,k,ops,())).2.2.2.2.2.2.2.1.length:Int)=ops.length+1
structure Y67(pp:Int×Int×Int×Int×Int×Int×Int×Int×IOp×List IOp×Unit->Bool)(ff:Int×Int×Int×Int×Int×Int×Int×Int×IOp×List IOp×Unit->Int×Int×Int×Int×Int×Int×Int×List IOp×Unit):Prop where
 hp:∀a1 a2 a3 a4 a5 a6 k a o ops,(ops.length:Int)<999000->pp (a1,a2,a3,a4,a5,a6,k,a,o,ops,())=true
 hf:∀a1 a2 a3 a4 a5 a6 k a o ops,(ops.length:Int)<999000->((ff (a1,a2,a3,a4,a5,a6,k,a,o,ops,())).2.2.2.2.2.2.2.1.length:Int)=ops.length+3
structure Y68(pp:Int×Int×Int×Int×Int×Int×Int×Int×List IOp×Unit->Bool)(ff:Int×Int×Int×Int×Int×Int×Int×Int×List IOp×Unit->Int×Int×Int×Int×Int×Int×List IOp×Unit):Prop where
 hp:∀a1 a2 a3 a4 a5 a6 k x ops,(ops.length:Int)<1000000->pp (a1,a2,a3,a4,a5,a6,k,x,ops,())=true
 hf:∀a1 a2 a3 a4 a5 a6 k x ops,(ops.length:Int)<1000000->((ff (a1,a2,a3,a4,a5,a6,k,x,ops,())).2.2.2.2.2.2.1.length:Int)=ops.length+1
def KB(l:List Ins):Prop:=∀i∈l,i.k<1000
def KB.at{l:List Ins}(h:KB l)(n:Nat):(l.getD n default).k<1000:=by
 by_cases h1:n<l.length
 .rw [getD_lt h1];exact h _ (List.getElem_mem _)
 .simp only [List.getD,List.getElem?_eq_none (by omega:l.length<=n)];decide
structure Y69(pp:Int×List Ins×Unit->Bool)(ff:Int×List Ins×Unit->Bool×Unit):Prop where
 hp:∀pc l,(l.length:Int)<1000->pp (pc,l,())=true
structure InD(m:Int)(b:List Int)(p:Int)(y:Int×Int×Int×Int×List Int×Int×Unit):Prop where
 b:y.2.2.2.2.1=b
 lo:p<=y.2.2.2.2.2.1
 hi:y.2.2.2.2.2.1<=p+m
 k:0<=y.2.2.2.1/\y.2.2.2.1<=255
abbrev aif : List Int -> Prop
 | []=>True
 | x::l=>(0<=x/\x<=255)/\aif l
def K4:∀(l:List Int) (n:Nat),aif l->0<=l.getD n default/\l.getD n default<=255
 | [],n,_=>by simp only [List.getD_nil];decide
 | x::l,0,h=>h.1
 | x::l,n+1,h=>K4 l n h.2
def pkR{f1:Int×List Int×Int×Unit->Int×List Int×Int×Unit}{b:List Int}(hb:Bt b)(hf1:∀n b p,Bt b->0<=p->p<1000000000->Pk n b p (f1 (n,b,p,()))):
  (∀n p,0<=p->p<1000000000->(f1 (n,b,p,())).2.1=b)/\(∀n p,0<=p->p<1000000000->(f1 (n,b,p,())).2.2.1=p+1)/\
  (∀n p,0<=p->p<1000000000->(0<=(f1 (n,b,p,())).1)=True)/\(∀n p k,0<=p->p<1000000000->n<=k->0<k->((f1 (n,b,p,())).1<k)=True)/\
  (∀n p k,0<=p->p<1000000000->n<=k+1->0<=k->((f1 (n,b,p,())).1<=k)=True):=
 ⟨λn p h1 h2=>(hf1 n b p hb h1 h2).1,λn p h1 h2=>(hf1 n b p hb h1 h2).2.1,λn p h1 h2=>eq_true (hf1 n b p hb h1 h2).2.2.1,
  λn p k h1 h2 h3 h4=>eq_true (by have:=(hf1 n b p hb h1 h2).2.2;omega),λn p k h1 h2 h3 h4=>eq_true (by have:=(hf1 n b p hb h1 h2).2.2;omega)⟩
def aii{p1 f1}(U1:Y38 p1 f1)(b:List Int)(p:Int)(hb:Bt b)(h1:0<=p)(h2:p<900000000):Ny.F (p1,f1,()) (b,p,()) (λy=>InD 20 b p y):=by
 have R:=pkR hb U1.hf;have P:=λn p h1 h2=>U1.hp n b p hb h1 h2
 dsimp only [Ny,gm];simp (disch:=omega) only [RR,R,P,List.length_cons,List.length_nil]
 repeat' (first | (refine⟨?_,?_⟩) | intro _)
 all_goals try omega
 all_goals refine⟨rfl,by dsimp only;omega,by dsimp only;omega,?_⟩
 all_goals dsimp only
 all_goals first | omega | (refine K4 _ _ ?_;simp (disch:=omega) only [aif,R,Int.reduceLE,and_self,true_and,and_true]) | (simp (disch:=omega) only [R,Int.reduceLE,and_self,true_and,and_true])
structure Y70(pp:List Int×Int×Unit->Bool)(ff:List Int×Int×Unit->Int×Int×Int×Int×List Int×Int×Unit):Prop where
 hp:∀b p,Bt b->0<=p->p<900000000->pp (b,p,())=true
 hf:∀b p,Bt b->0<=p->p<900000000->InD 20 b p (ff (b,p,()))
def aij{p1 f1 p2 f2 p3 f3}(U1:Y70 p1 f1)(U2:Y38 p2 f2)(U3:Y63 p3 f3)(b:List Int)(p:Int)(hb:Bt b)(h1:0<=p)(h2:p<800000000):NA.F (p1,f1,p2,f2,p3,f3,()) (b,p,()) (λy=>InD 30 b p y):=by
 obtain⟨a1,a2,a3,a4⟩:=U1.hf b p hb h1 ah;have R:=pkR hb U2.hf;have P:=λn p h1 h2=>U2.hp n b p hb h1 h2
 dsimp only [NA,gm];simp (disch:=omega) only [RR,U1.hp b p hb h1 ah,U3.hp,a1,R,P];refine⟨λ_=>⟨rfl,by dsimp only;omega,by dsimp only;omega,?_⟩,λ_=>⟨rfl,a2,by dsimp only;omega,a4⟩⟩;dsimp only;simp (disch:=omega) only [R,Int.reduceLE,and_self]
structure LiD(b:List Int)(p:Int)(y:List Int×Int×List Ins×Unit):Prop where
 b:y.1=b
 lo:p<=y.2.1
 hi:y.2.1<=p+1000
 len:(y.2.2.1.length:Int)<=20
 k:KB y.2.2.1
 l1:1<=y.2.2.1.length
def KB.app{l:List Ins}{i:Ins}(h:KB l)(h2:i.k<=255):KB (l++ [i]):=λx hx=>by
 rw [List.mem_append,List.mem_singleton]at hx;rcases hx with hx | rfl
 .exact h x hx
 .omega
structure Y71(pp:List Int×Int×Unit->Bool)(ff:List Int×Int×Unit->Int×Int×Int×Int×List Int×Int×Unit):Prop where
 hp:∀b p,Bt b->0<=p->p<800000000->pp (b,p,())=true
 hf:∀b p,Bt b->0<=p->p<800000000->InD 30 b p (ff (b,p,()))
def aik{p1 f1 p2 f2}(U1:Y71 p1 f1)(U2:Y38 p2 f2)(b:List Int)(p:Int)(hb:Bt b)(h1:0<=p)(h2:p<700000000):O9.F (p1,f1,p2,f2,()) (b,p,()) (λy=>LiD b p y):=by
 obtain⟨e1,e2,e3,e4⟩:=U2.hf 8 b p hb h1 ah;dsimp only [O9,gm];simp (disch:=omega) only [RR,U2.hp 8 b p hb h1 ah,e1,e2]
 refine aB (λ(y:Int×List Int×Int×List Ins×Unit)=>0<=y.1/\y.1<=8/\y.2.1=b/\p<=y.2.2.1/\y.2.2.1+40*y.1<=p+400/\(y.2.2.2.1.length:Int)+y.1<=8/\KB y.2.2.2.1) (λy=>y.1.toNat)
  ⟨e3,by dsimp only;omega,rfl,by dsimp only;omega,by dsimp only;omega,by dsimp only [List.length_nil];omega,λx hx=>by cases hx⟩ ?_
 rintro⟨(k:Int),(b':List Int),(q:Int),(l:List Ins),⟨⟩⟩ hI;dsimp only at hI ⊢;obtain⟨k1,k2,rfl,k3,k4,k5,k6⟩:=hI;have R:=pkR hb U2.hf;have P:=λn p h1 h2=>U2.hp n b' p hb h1 h2
 obtain⟨a1,a2,a3,a4⟩:=U1.hf b' q hb ah ah;obtain⟨b1,b2,b3,b4⟩:=U1.hf b' (q+1) hb ah ah;simp (disch:=omega) only [RR,RB,U1.hp b' q hb ah ah,U1.hp b' (q+1) hb ah ah,a1,b1,R,P,List.length_cons,List.length_nil,List.length_append];refine⟨λc=>⟨ah,⟨ah,ah,ah,ah,ah,k6.app a4.2⟩,ah⟩,λc=>⟨λ_=>⟨ah,rfl,by dsimp only;omega,by dsimp only;omega,?_,?_,?_⟩,λ_=>⟨λ_=>⟨ah,rfl,by dsimp only;omega,by dsimp only;omega,?_,?_,?_⟩,λ_=>⟨ah,rfl,by dsimp only;omega,by dsimp only;omega,?_,?_,?_⟩⟩⟩⟩
 .dsimp only;rw [List.length_append];simp only [List.length_cons,List.length_nil];omega
 .refine k6.app ?_;dsimp only;simp (disch:=omega) only [R]
 .dsimp only;rw [List.length_append];simp only [List.length_cons,List.length_nil];omega
 .dsimp only;rw [List.length_append];simp only [List.length_cons,List.length_nil];omega
 .exact k6.app (by dsimp only;omega)
 .dsimp only;rw [List.length_append];simp only [List.length_cons,List.length_nil];omega
 .dsimp only;rw [List.length_append];simp only [List.length_cons,List.length_nil];omega
 .exact k6.app b4.2
 .dsimp only;rw [List.length_append];simp only [List.length_cons,List.length_nil];omega
def ZJ(b:Blk)(hb:b.ops.length<1000000):NJ.F () (b,()) (λy=>y=(b.pc,b.len,b.fin,b.x,b.y,b.k,b.ops,())):=by
 dsimp only [NJ,gm];simp (disch:=omega) only [RR,RB,List.nil_append,List.length_nil];omega
def kn(ops:List IOp)(k:Int):Int×Bool:=if 0<=k/\k<ops.length/\(((ops).getD (k).toNat default)).kind=1 then((((ops).getD (k).toNat default)).k,true)else(0,false)
abbrev bk7(b : Blk) : Int × Int × Int × Int × Int × Int × List IOp × Unit := (b.pc, b.len, b.fin, b.x, b.y, b.k, b.ops, ())
structure FE(b:Blk):Prop where
 f:1<=b.fin/\b.fin<=4
 x:b.fin≠1->0<=b.x/\b.x<b.ops.length
 y:3<=b.fin->0<=b.y/\b.y<b.ops.length
 y0:b.fin<=2->b.y=0
 p:0<=b.pc/\b.pc<=100/\0<=b.len/\b.len<=100
def afi(ops:List IOp)(k:Int):Yr.F () (ops,k,()) (λy=>y=((kn ops k).1,(kn ops k).2,())):=by
 dsimp only [Yr,gm];simp (disch:=omega) only [RR,RB];unfold kn;refine⟨ah,ah,λh=> ?_,λh=>⟨ah,ah,?_⟩⟩
 .rw [if_neg ah]
 .rw [if_pos ah]
def afj(b:Blk)(k:Int):Yt.F () (b,k,()) (λy=>y=(b.pc,b.len,b.ops,1,0,0,k,())):=by
 dsimp only [Yt,gm];simp (disch:=omega) only [RR,RB]
structure Y72(pp:List IOp×Int×Unit->Bool)(ff:List IOp×Int×Unit->Int×Bool×Unit):Prop where
 hp:∀ops k,pp (ops,k,())=true
 hf:∀ops k,ff (ops,k,())=((kn ops k).1,(kn ops k).2,())
theorem ams{p2 f2}{p1:Blk×Int×Unit->Bool}{f1:Blk×Int×Unit->Int×Int×List IOp×Int×Int×Int×Int×Unit}(hp1:∀b k,p1 (b,k,())=true)(hf1:∀b k,f1 (b,k,())=(b.pc,b.len,b.ops,1,0,0,k,()))(U2:Y72 p2 f2)(b:Blk)(h:FE b):Yu.F (p1,f1,p2,f2,()) (b,()) (λy=>y=(fcB b b.ops,())):=by
 have hp:=h.p;have hf:=h.f;have k1:b.fin≠1->kn b.ops b.x=if(((b.ops).getD (b.x).toNat default)).kind=1 then((((b.ops).getD (b.x).toNat default)).k,true)else(0,false):=λc=>by
  have:=h.x c;unfold kn;simp only [this,true_and]
 have k2:3<=b.fin->kn b.ops b.y=if(((b.ops).getD (b.y).toNat default)).kind=1 then((((b.ops).getD (b.y).toNat default)).k,true)else(0,false):=λc=>by
  have:=h.y c;unfold kn;simp only [this,true_and]
 have y0:=h.y0;have mkE:∀p l o f x y k,Co.mk .blk (p,l,o,f,x,y,k,())=Blk.mk p l o f x y k:=λ_ _ _ _ _ _ _=>rfl
 dsimp only [Yu,gm];simp (disch:=omega) only [RR,RB,hp1,hf1,U2.hp,U2.hf,mkE,Bool.and_eq_false_iff];by_cases c1:b.fin=1
 .have e:fcB b b.ops=b:=by unfold fcB;rw [if_neg ah,if_neg ah]
  rw [e];refine⟨λh=>absurd h.1 ah,λ_=>⟨λh=>absurd h.1.1.1 ah,λ_=>⟨λh=>absurd h.1.1.1 ah,λ_=>⟨λh=>absurd h.1.1 ah,λ_=>rfl⟩⟩⟩⟩
 .rw [k1 c1];by_cases c2:b.fin=2
  .by_cases d:(((b.ops).getD (b.x).toNat default)).kind=1
   .have e:fcB b b.ops=⟨b.pc,b.len,b.ops,1,0,0,(((b.ops).getD (b.x).toNat default)).k⟩:=by unfold fcB;rw [if_pos ⟨c2,d⟩,y0 ah]
    rw [if_pos d,e];refine⟨λ_=>rfl,λh=> ?_⟩;rcases h with h | h
    .exact absurd c2 h
    .cases h
   .have e:fcB b b.ops=b:=by unfold fcB;rw [if_neg (λg=>d g.2),if_neg ah]
    rw [if_neg d,e];refine⟨λh=>absurd h.2 (by decide),λ_=>⟨λh=>absurd h.1.1.1 ah,λ_=>⟨λh=>absurd h.1.1.1 ah,λ_=>⟨λh=>absurd h.1.1 ah,λ_=>rfl⟩⟩⟩⟩
  .rw [k2 ah];refine⟨λh=>absurd h.1 c2,λ_=> ?_⟩;by_cases d:(((b.ops).getD (b.x).toNat default)).kind=1/\(((b.ops).getD (b.y).toNat default)).kind=1
   .have e:fcB b b.ops=⟨b.pc,b.len,b.ops,1,0,0,if b.fin=3/\(((b.ops).getD (b.x).toNat default)).k=(((b.ops).getD (b.y).toNat default)).k\/b.fin=4/\(((b.ops).getD (b.x).toNat default)).k< (((b.ops).getD (b.y).toNat default)).k then b.k else b.pc+b.len⟩:=by
     unfold fcB;rw [if_neg ah,if_pos ⟨ah,d⟩]
    rw [if_pos d.1,if_pos d.2,e];dsimp only;simp only [and_true,Bool.true_eq_false,or_false,Prod.mk.injEq,Blk.mk.injEq,true_and];refine⟨λh=>⟨λ_=>by rw [if_pos (Or.inl h)],λg=>by omega⟩,λh=>⟨λg=>by rw [if_pos (Or.inr g)],λg=>⟨λ_=>by rw [if_neg ah],λq=>by omega⟩⟩⟩
   .have e:fcB b b.ops=b:=by unfold fcB;rw [if_neg ah,if_neg (λg=>d g.2)]
    rw [e];have n:¬((if(((b.ops).getD (b.x).toNat default)).kind=1 then((((b.ops).getD (b.x).toNat default)).k,true)else((0:Int),false)).2=true/\(if(((b.ops).getD (b.y).toNat default)).kind=1 then((((b.ops).getD (b.y).toNat default)).k,true)else((0:Int),false)).2=true):=λ⟨g1,g2⟩=>by
     split at g1
     .split at g2
      .exact d ⟨by assumption,by assumption⟩
      .cases g2
     .cases g1
    exact⟨λh=>absurd ⟨h.1.1.2,h.1.2⟩ n,λ_=>⟨λh=>absurd ⟨h.1.1.2,h.1.2⟩ n,λ_=>⟨λh=>absurd ⟨h.1.2,h.2⟩ n,λ_=>rfl⟩⟩⟩
def afk{p1 f1}(U1:Y1 p1 f1)(o:IOp)(al:List Int)(hk:1<=o.kind/\o.kind<=8)(hx:hX o->0<=o.x/\o.x< (al.length:Int))(hy:hY o->0<=o.y/\o.y< (al.length:Int)):Yk.F (p1,f1,()) (o,al,()) (λy=>y=(ren al o,())):=by
 dsimp only [Yk,gm];simp (disch:=omega) only [RR,RB,U1.hp,U1.hf,dF,qB];have X:((3<=o.kind/\o.kind<=5)\/o.kind=7)\/o.kind=8->hX o:=λc=>by unfold hX;omega
 have Xn:(¬(3<=o.kind/\o.kind<=5)/\¬o.kind=7)/\¬o.kind=8->¬hX o:=λc g=>by unfold hX at g;omega
 unfold ren;refine⟨λc=>⟨(hx (X c)).1,(hx (X c)).2,λd=>⟨(hy d).1,(hy d).2,?_⟩,λd=> ?_⟩,λc=>⟨λd=>⟨(hy d).1,(hy d).2,?_⟩,λd=> ?_⟩⟩
 .rw [if_pos (X c),if_pos (show hY o from d)]
 .rw [if_pos (X c),if_neg (show¬hY o from λg=>g.elim d.1 d.2)]
 .rw [if_neg (Xn c),if_pos (show hY o from d)]
 .rw [if_neg (Xn c),if_neg (show¬hY o from λg=>g.elim d.1 d.2)]
def afl(ops:List IOp)(k:Int)(h0:0<=k)(h1:k<ops.length)(h2:(ops.length:Int)<1000000):Yp.F () (ops,k,()) (λy=>y=(kV (ops.drop (k.toNat+1)) (((ops).getD (k).toNat default)).k,())):=by
 dsimp only [Yp,gm];simp (disch:=omega) only [RR,RB];refine aB (λ(y:List IOp×Int×Int×Unit)=>y.1=ops/\y.2.1=k/\0<=y.2.2.1/\y.2.2.1<=ops.length/\kV (ops.drop (k.toNat+1)) (((ops).getD (k).toNat default)).k=kV (ops.drop y.2.2.1.toNat) (((ops).getD (k).toNat default)).k) (λy=>((ops.length:Int)-y.2.2.1).toNat) ⟨rfl,rfl,by dsimp only;omega,by dsimp only;omega,by dsimp only;rw [show(k+1).toNat=k.toNat+1 by omega]⟩ ?_;rintro⟨(l:List IOp),(k':Int),(j:Int),⟨⟩⟩ hI;dsimp only at hI ⊢;obtain⟨rfl,rfl,h3,h4,h5⟩:=hI;rw [h5];simp (disch:=omega) only [RR,RB,Bool.and_eq_false_iff];have st:j<l.length->kV (l.drop j.toNat) (((l).getD (k').toNat default)).k=if(((l).getD (j).toNat default)).kind=4\/(((l).getD (j).toNat default)).kind=5\/(((l).getD (j).toNat default)).kind=2/\(((l).getD (j).toNat default)).k=(((l).getD (k').toNat default)).k then false else if(((l).getD (j).toNat default)).kind=8/\(((l).getD (j).toNat default)).k=(((l).getD (k').toNat default)).k then true else kV (l.drop (j+1).toNat) (((l).getD (k').toNat default)).k:=λh=>by
  rw [List.drop_eq_getElem_cons (show j.toNat<l.length by omega),P9,<-getD_lt (d:=default) (show j.toNat<l.length by omega),show(j+1).toNat=j.toNat+1 by omega]
 refine⟨λh=>⟨h3,h,ah,ah,ah,ah,ah,ah,ah,ah,λc=> ?_,λc=>⟨h3,h,ah,ah,ah,ah,λd=> ?_,λd=>⟨⟨ah,ah,?_⟩,ah⟩⟩⟩,λh=> ?_⟩
 .rw [st h,if_pos ah]
 .rw [st h,if_neg ah,if_pos ah]
 .rw [st h,if_neg ah,if_neg ah]
 .rw [List.drop_of_length_le ah];rfl
structure Y73(pp:Blk×Unit->Bool)(ff:Blk×Unit->Blk×Unit):Prop where
 hp:∀b,b.ops.length<1000000->pp (b,())=true
 hf:∀b,b.ops.length<1000000->ff (b,())=(eP b,())
structure Y74(pp:Blk×Unit->Bool)(ff:Blk×Unit->Int×Int×Int×Int×Int×Int×List IOp×Unit):Prop where
 hp:∀b,b.ops.length<1000000->pp (b,())=true
 hf:∀b,b.ops.length<1000000->ff (b,())=bk7 (dw b)
structure Y75(pp:Blk×Unit->Bool)(ff:Blk×Unit->Int×Int×Int×Int×Int×Int×List IOp×Unit):Prop where
 hp:∀b,b.ops.length<1000000->pp (b,())=true
 hf:∀b,b.ops.length<1000000->ff (b,())=bk7 (jI b)
structure Y76(pp:Blk×Unit->Bool)(ff:Blk×Unit->Int×Int×Int×Int×Int×Int×List IOp×Unit):Prop where
 hp:∀b,b.ops.length<1000000->pp (b,())=true
 hf:∀b,b.ops.length<1000000->ff (b,())=bk7 (lD b)
theorem amt{p1 f1 p2 f2 p3 f3 p4 f4}(U1:Y73 p1 f1)(U2:Y74 p2 f2)(U3:Y75 p3 f3)(U4:Y76 p4 f4)(b:Blk)(hb:b.ops.length<1000000):Yw.F (p1,f1,p2,f2,p3,f3,p4,f4,()) (b,()) (λy=>y=bk7 (xX b)):=by
 have m1:(dw b).ops.length<1000000:=Nat.lt_of_le_of_lt (xW b) hb;have m2:=Nat.lt_of_le_of_lt (BP (dw b)) m1;have m3:=Nat.lt_of_le_of_lt (xV (eP (dw b))) m2;have m4:=Nat.lt_of_le_of_lt (EG (jI (eP (dw b)))) m3;have mkE:∀c:Blk,Co.mk .blk (c.pc,c.len,c.ops,c.fin,c.x,c.y,c.k,())=c:=λ_=>rfl
 dsimp only [Yw,gm];simp (disch:=omega) only [RR,U2.hp b hb,U2.hf b hb,mkE,U1.hp _ m1,U1.hf _ m1,U3.hp _ m2,U3.hf _ m2,U4.hp _ m3,U4.hf _ m3,U3.hp _ m4,U3.hf _ m4];rfl
def ZK{α:Type}{d:α}{f l:List α}{k:Nat}(hf:f.length=k)(h:k<l.length):(f++l.drop k).getD k d=l.getD k d:=by
 rw [getD_lt (by rw [List.length_append,List.length_drop];omega),getD_lt h,List.getElem_append_right ah,List.getElem_drop];simp only [hf,Nat.sub_self,Nat.add_zero]
def ail{α:Type}{d:α}{f l:List α}{k j:Nat}(hf:f.length=k)(h:j<k):(f++l.drop k).getD j d=f.getD j d:=by
 rw [getD_lt (by rw [List.length_append];omega),getD_lt ah,List.getElem_append_left]
def Sz{α:Type}{x:α}{f l:List α}{k:Nat}(hf:f.length=k)(h:k<l.length):(f++l.drop k).set k x=(f++ [x])++l.drop (k+1):=by
 rw [List.set_append_right _ _ ah,hf,Nat.sub_self,List.drop_eq_getElem_cons h,List.set_cons_zero,List.append_assoc];rfl
def ZL{α:Type}{d:α}{f l:List α}{k:Nat}(h:k<l.length):f++l.drop k=(f++ [l.getD k d])++l.drop (k+1):=by
 rw [List.drop_eq_getElem_cons h,getD_lt h,List.append_assoc];rfl
def SA{α:Type}{f l:List α}{k:Nat}(hf:f.length=k)(h:k<=l.length):(f++l.drop k).length=l.length:=by
 rw [List.length_append,hf,List.length_drop];omega
def cu.fe{b:Blk}(ok:cu b){f:List IOp}(h:f.length=b.ops.length):FE ⟨b.pc,b.len,f,b.fin,b.x,b.y,b.k⟩:=by
 have en:=ok.en;have hp:=ok.pc;have hl:=ok.ln;exact⟨en.f,λc=>⟨(en.x1 c).1,by dsimp only;rw [h];exact(en.x1 c).2.1⟩,λc=>⟨(en.y1 c).1,by dsimp only;rw [h];exact(en.y1 c).2.1⟩,en.y0,by dsimp only;omega⟩
structure Y77(pp:Blk×Unit->Bool)(ff:Blk×Unit->Int×Int×Int×Int×Int×Int×List IOp×Unit):Prop where
 hp:∀b,b.ops.length<1000000->pp (b,())=true
 hf:∀b,b.ops.length<1000000->ff (b,())=(b.pc,b.len,b.fin,b.x,b.y,b.k,b.ops,())
theorem amu{p1 f1 p2 f2 p4 f4 p5 f5}(U1:Y60 p1 f1)(U2:Y24 p2 f2){p3:Blk×Unit->Bool}{f3:Blk×Unit->Blk×Unit}(hp3:∀b,FE b->p3 (b,())=true)(hf3:∀b,FE b->f3 (b,())=(fcB b b.ops,()))(U4:Y72 p4 f4)(U5:Y77 p5 f5)(b:Blk)(hb:b.ops.length<1000000):Yv.F (p1,f1,p2,f2,p3,f3,p4,f4,p5,f5,()) (b,()) (λy=>y=(eP b,())):=by
 have mkE:∀p l o f x y k,Co.mk .blk (p,l,o,f,x,y,k,())=Blk.mk p l o f x y k:=λ_ _ _ _ _ _ _=>rfl
 dsimp only [Yv,gm];simp (disch:=omega) only [RR,RB,U1.hp b ah,U1.hf b ah,U5.hp b hb,U5.hf b hb,mkE];refine⟨λh=>by unfold eP;rw [h,if_neg (by decide)];rfl,λh=> ?_⟩;have ok:=aU.1 h;rw [Je ok];refine aB (λ(y:Int×Int×Int×Int×Int×Int×Int×Int×Int×Int×Int×Int×Int×List IOp×Unit)=>0<=y.1/\y.1<=b.ops.length/\y.2.2.2.2.2.2.2=(b.pc,b.len,b.fin,b.x,b.y,b.k,fc b.ops y.1.toNat++b.ops.drop y.1.toNat,())) (λy=>((b.ops.length:Int)-y.1).toNat) ⟨by dsimp only;omega,by dsimp only;omega,rfl⟩ ?_;rintro⟨(k:Int),u1,u2,u3,u4,u5,u6,b1,b2,b3,b4,b5,b6,(ops:List IOp),⟨⟩⟩ hI;dsimp only at hI ⊢;simp only [Prod.mk.injEq,and_true]at hI;obtain⟨h1,h2,rfl,rfl,rfl,rfl,rfl,rfl,rfl⟩:=hI;have fl:=lZ b.ops k.toNat;have ln:=SA (l:=b.ops) fl ah;simp (disch:=omega) only [RR,RB,U4.hp,U4.hf,U2.hp,U2.hf,ln,mkE];refine⟨λh=> ?_,λh=> ?_⟩
 .have o:=ok.op k h1 h;have ek:=ZK (d:=default) (l:=b.ops) fl ah;have kv:∀x:Int,Vl b.ops x k->kn (fc b.ops k.toNat++b.ops.drop k.toNat) x=if((((fc b.ops k.toNat)).getD (x).toNat default)).kind=1 then(((((fc b.ops k.toNat)).getD (x).toNat default)).k,true)else(0,false):=λx v=>by
   have v0:=v.1;have v1:=v.2.1;unfold kn;rw [ail fl ah];simp only [show 0<=x/\x< ((fc b.ops k.toNat++b.ops.drop k.toNat).length:Int)from⟨v0,ah⟩,true_and]
  have nx:fc b.ops (k+1).toNat=fc b.ops k.toNat++ [fcO (fc b.ops k.toNat) ((b.ops).getD (k).toNat default)]:=by rw [show(k+1).toNat=k.toNat+1 by omega];rfl
  rw [ek];have hk:=ZL (d:=default) (f:=fc b.ops k.toNat) (l:=b.ops) (k:=k.toNat) ah;have hs:=λx=>Sz (x:=x) (l:=b.ops) fl ah
  rw [nx,show(k+1).toNat=k.toNat+1 by omega];generalize ((b.ops).getD (k).toNat default)=q at o hk ⊢;have vx:=λc=>o.x1 c
  have vy:=λc=>o.y1 c
  refine⟨h1,h,h1,h,λc=>⟨h1,h,h1,h,⟨ah,ah,?_⟩,ah⟩,λc=>⟨⟨ah,ah,?_⟩,ah⟩⟩
  .have k1:=kv _ (o.x1 (by unfold hX;omega));have k2:=kv _ (o.y1 (Or.inl c.1.1));rw [k1,k2]at c ⊢;by_cases d1:((((fc b.ops k.toNat)).getD (q.x).toNat default)).kind=1
   .by_cases d2:((((fc b.ops k.toNat)).getD (q.y).toNat default)).kind=1
    .rw [if_pos d1,if_pos d2,hs];have e:fcO (fc b.ops k.toNat) q=⟨1,0,0,wdo q.k ((((fc b.ops k.toNat)).getD (q.x).toNat default)).k ((((fc b.ops k.toNat)).getD (q.y).toNat default)).k,0⟩:=by unfold fcO;rw [if_pos ⟨c.1.1,d1,d2⟩]
     rw [e]
    .rw [if_neg d2]at c;exact absurd c.2 (by decide)
   .rw [if_neg d1]at c;exact absurd c.1.2 (by decide)
  .have e:fcO (fc b.ops k.toNat) q=q:=by
    unfold fcO;refine if_neg ?_;rintro⟨d0,d1,d2⟩;rw [kv _ (o.x1 (by unfold hX;omega)),kv _ (o.y1 (Or.inl d0)),if_pos d1,if_pos d2,decide_eq_true d0]at c;cases c
   rw [e,hk]
 .have e:fc b.ops k.toNat++b.ops.drop k.toNat=fc b.ops b.ops.length:=by rw [List.drop_of_length_le ah,List.append_nil,show k.toNat=b.ops.length by omega]
  rw [e];have fe:=ok.fe (lZ b.ops b.ops.length);rw [hf3 _ fe];exact⟨hp3 _ fe,rfl⟩
def ZM{a b:List Bool}(h:a.length=b.length)(g:∀t:Nat,t<a.length->(a.getD t default=true↔b.getD t default=true)):a=b:=by
 refine List.ext_getElem h λi h1 h2=> ?_
 have:=g i h1;rw [getD_lt h1,getD_lt h2]at this;exact Bool.eq_iff_iff.2 this
theorem amv{p1 f1 p2 f2}(U1:Y60 p1 f1)(U2:Y1 p2 f2)(b:Blk)(hb:b.ops.length<1000000):Yn.F (p1,f1,p2,f2,()) (b,()) (λy=>y=(CB b,())):=by
 obtain⟨hp1,hf1⟩:=U1;obtain⟨hp2,hf2⟩:=U2;dsimp only [Yn,gm];simp (disch:=omega) only [RR,RB,hp1 b ah,hf1 b ah];unfold CB;refine⟨λh=>by rw [h,if_neg (by decide)],λh=> ?_⟩;rw [if_pos h];have ok:=aU.1 h;have n48:=ok.sz;have en:=ok.en;refine aB (λ(y:Int×Blk×List Bool×Unit)=>0<=y.1/\y.1<=b.ops.length/\y.2.1=b/\(y.2.2.1.length:Int)=y.1/\∀t:Nat,t<y.2.2.1.length->(y.2.2.1.getD t default=true↔4<=(b.ops.getD t default).kind)) (λy=>((b.ops.length:Int)-y.1).toNat) ⟨by dsimp only;omega,by dsimp only;omega,rfl,rfl,λt h=>absurd h (by simp)⟩ ?_;rintro⟨(k:Int),(b':Blk),(kp:List Bool),⟨⟩⟩ hI;dsimp only at hI ⊢;obtain⟨h1,h2,rfl,h3,h4⟩:=hI;simp (disch:=omega) only [RR,RB,List.length_append,List.length_cons,List.length_nil];refine⟨λh=>⟨h1,h,ah,⟨ah,ah,ah,λt ht=> ?_⟩,ah⟩,λh=> ?_⟩
 .rw [dY];rcases(by omega:t<kp.length\/t=kp.length)with c | c
  .rw [if_pos c];exact h4 t c
  .rw [if_neg ah,if_pos c,decide_eq_true_eq,c,show k.toNat=kp.length by omega]
 have ex:¬b'.fin=1->0<=b'.x/\b'.x<kp.length:=λc=>by have:=ok.en.x1 c;exact⟨this.1,by have:=this.2.1;omega⟩
 have ey:b'.fin=3\/b'.fin=4->0<=b'.y/\b'.y<kp.length:=λc=>by have:=ok.en.y1 ah;exact⟨this.1,by have:=this.2.1;omega⟩
 have ff:=en.f;have u0:=Sq ok;have kl:kp.length=b'.ops.length:=by omega
 rw [kl]at h4;refine⟨λc=>⟨(ex c).1,(ex c).2,(ex c).1,(ex c).2,λc2=>⟨(ey c2).1,by rw [List.length_set];exact(ey c2).2,(ey c2).1,by rw [List.length_set];exact(ey c2).2,?_⟩,λc2=> ?_⟩,λc=>⟨λc2=>absurd c2 ah,λc2=> ?_⟩⟩
 all_goals
  refine aB (λ(y:Int×Blk×List Bool×Unit)=> -1<=y.1/\y.1<b'.ops.length/\y.2.1=b'/\y.2.2.1.length=b'.ops.length/\∀t:Nat,t<b'.ops.length->(y.2.2.1.getD t default=true↔(us b' (b'.ops.length-1-y.1).toNat).getD t default=true\/4<=(b'.ops.getD t default).kind)) (λy=>(y.1+1).toNat) ⟨by dsimp only;omega,by dsimp only;omega,rfl,by simp only [List.length_set];omega,λt ht=> ?_⟩ ?_
  .dsimp only;rw [show(b'.ops.length-1- ((b'.ops.length:Int)-1)).toNat=0 by omega];show _↔(us0 b').getD t default=true\/_;have q:=h4 t ht;have r:=u0 t
   first
    | (rw [PZ (by rw [List.length_set];have:=ey c2;omega),PZ (by have:=ex c;omega),q,r];grind)
    | (rw [PZ (by have:=ex c;omega),q,r];grind)
    | (rw [q,r];grind)
  rintro⟨(j:Int),(b2:Blk),(ms:List Bool),⟨⟩⟩ hI;dsimp only at hI ⊢;obtain⟨j0,j1,rfl,j3,j4⟩:=hI;simp (disch:=omega) only [RR,RB,hp2,hf2,dF,qB,List.length_set];have ul:=AV b2 (b2.ops.length-1-j).toNat;have us1:0<=j->∀t:Nat,((us b2 (b2.ops.length-1- (j-1)).toNat).getD t default=true↔(us b2 (b2.ops.length-1-j).toNat).getD t default=true\/((us b2 (b2.ops.length-1-j).toNat).getD j.toNat default=true\/4<=(((b2.ops).getD (j).toNat default)).kind)/\(t=j.toNat\/hX (((b2.ops).getD (j).toNat default))/\t=(((b2.ops).getD (j).toNat default)).x.toNat\/hY (((b2.ops).getD (j).toNat default))/\t=(((b2.ops).getD (j).toNat default)).y.toNat)):=λg t=>by
   have o:=ok.op j g j1;rw [show(b2.ops.length-1- (j-1)).toNat=(b2.ops.length-1-j).toNat+1 by omega];show(usO (b2.ops.getD (b2.ops.length-1- (b2.ops.length-1-j).toNat) default) (b2.ops.length-1- (b2.ops.length-1-j).toNat) _).getD t default=true↔_;rw [show b2.ops.length-1- (b2.ops.length-1-j).toNat=j.toNat by omega];exact Sn ah (λc=>by have:=o.x1 c;have g0:=this.1;have g1:=this.2.1;omega) (λc=>by have:=o.y1 c;have g0:=this.1;have g1:=this.2.1;omega)
  have ue:¬0<=j->(us b2 (b2.ops.length-1-j).toNat)=us b2 b2.ops.length:=λg=>by rw [show(b2.ops.length-1-j).toNat=b2.ops.length by omega]
  generalize us b2 (b2.ops.length-1-j).toNat=U at us1 j4 ue;refine⟨λg=> ?_,λg=>congrArg (λm:List Bool=>(m,())) (ZM (b:=us b2 b2.ops.length) (by rw [AV];exact j3) λt ht=> ?_)⟩
  .have o:=ok.op j g j1;have X:hX (((b2.ops).getD (j).toNat default))->0<=(((b2.ops).getD (j).toNat default)).x/\(((b2.ops).getD (j).toNat default)).x<ms.length:=λc=>by have:=o.x1 c;have g0:=this.1;have g1:=this.2.1;omega
   have Y:hY (((b2.ops).getD (j).toNat default))->0<=(((b2.ops).getD (j).toNat default)).y/\(((b2.ops).getD (j).toNat default)).y<ms.length:=λc=>by have:=o.y1 c;have g0:=this.1;have g1:=this.2.1;omega
   have us1:=us1 g;have qj:=j4 j.toNat ah;have kd:=o.kd;generalize ((b2.ops).getD (j).toNat default)=q at*;have cx:((3<=q.kind/\q.kind<=5)\/q.kind=7)\/q.kind=8↔hX q:=by unfold hX;omega
   have cn:(¬(3<=q.kind/\q.kind<=5)/\¬q.kind=7)/\¬q.kind=8↔¬hX q:=by unfold hX;omega
   have cy:q.kind=3\/q.kind=5↔hY q:=Iff.rfl;have dn:¬q.kind=3/\¬q.kind=5↔¬hY q:=by unfold hY;omega
   rw [cx,cn,cy,dn];generalize hX q=HX at*;generalize hY q=HY at*;refine⟨g,j1,g,ah,g,ah,λc=>⟨⟨ah,ah,j3,λt ht=> ?_⟩,ah⟩,λc=>⟨λd=>⟨(X d).1,(X d).2,(X d).1,(X d).2,λe=>⟨(Y e).1,(Y e).2,(Y e).1,(Y e).2,⟨ah,ah,j3,λt ht=> ?_⟩,ah⟩,λe=>⟨⟨ah,ah,j3,λt ht=> ?_⟩,ah⟩⟩,λd=>⟨λe=>⟨(Y e).1,(Y e).2,(Y e).1,(Y e).2,⟨ah,ah,j3,λt ht=> ?_⟩,ah⟩,λe=>⟨⟨ah,ah,j3,λt ht=> ?_⟩,ah⟩⟩⟩⟩
   .rw [us1,j4 t ht];rw [c]at qj;grind
   .rw [PZ (by rw [List.length_set];have:=Y e;omega),PZ (by have:=X d;omega),us1,j4 t ht];grind
   .rw [PZ (by have:=X d;omega),us1,j4 t ht];grind
   .rw [PZ (by have:=Y e;omega),us1,j4 t ht];grind
   .rw [us1,j4 t ht];grind
  .rw [j4 t ah,ue g];exact⟨λh=>h.elim id ((afh ok).k t (Nat.zero_le _) ah),Or.inl⟩
def adE{ops:List IOp}{kp:List Bool}{len:Int}{k n:Nat}{o:IOp}(ho:lC ops len k o)(h:k<n):ren (kpS ops kp (k+1)).1 o=ren (kpS ops kp n).1 o:=by
 have p:=(Jb ops kp (show k+1<=n by omega)).2;have l:=(nD ops kp (k+1)).1;have e:∀x:Int,Vl ops x k->(((kpS ops kp (k+1)).1).getD (x).toNat default)=(((kpS ops kp n).1).getD (x).toNat default):=λx v=>by
  have g0:=v.1;have g1:=v.2.1;exact(I5 p ah).symm
 have ox:=ho.x1;have oy:=ho.y1;unfold ren
 congr 1
 .split
  .rename_i c;exact e _ (ox c)
  .rfl
 .split
  .rename_i c;exact e _ (oy c)
  .rfl
structure Y78(pp:IOp×List Int×Unit->Bool)(ff:IOp×List Int×Unit->IOp×Unit):Prop where
 hp:∀o al,(1<=o.kind/\o.kind<=8)->(hX o->0<=o.x/\o.x< (al.length:Int))->(hY o->0<=o.y/\o.y< (al.length:Int))->pp (o,al,())=true
 hf:∀o al,(1<=o.kind/\o.kind<=8)->(hX o->0<=o.x/\o.x< (al.length:Int))->(hY o->0<=o.y/\o.y< (al.length:Int))->ff (o,al,())=(ren al o,())
theorem amw{p1 f1}(U1:Y78 p1 f1)(b:Blk)(kp:List Bool)(ok:cu b)(hk:kp.length=b.ops.length):Ym.F (p1,f1,()) (b,kp,()) (λy=>y=bk7 (jH b kp)):=by
 have n48:=ok.sz;dsimp only [Ym,gm];simp (disch:=omega) only [RR,RB];refine aB (λ(y:List Bool×Int×Blk×Int×Int×Int×Int×Int×Int×List IOp×List Int×Unit)=>y.1=kp/\0<=y.2.1/\y.2.1<=b.ops.length/\y.2.2.1=b/\y.2.2.2.2.2.2.2.2.2.1=(kpS b.ops kp y.2.1.toNat).2.map (ren (kpS b.ops kp b.ops.length).1)/\y.2.2.2.2.2.2.2.2.2.2.1=(kpS b.ops kp y.2.1.toNat).1) (λy=>((b.ops.length:Int)-y.2.1).toNat) ⟨rfl,by dsimp only;omega,by dsimp only;omega,rfl,rfl,rfl⟩ ?_;rintro⟨(kp':List Bool),(k:Int),(b':Blk),u1,u2,u3,u4,u5,u6,(out:List IOp),(to:List Int),⟨⟩⟩ hI;dsimp only at hI ⊢;obtain⟨rfl,h1,h2,rfl,rfl,rfl⟩:=hI;obtain⟨l1,l2⟩:=nD b'.ops kp' k.toNat;have l3:=(nD b'.ops kp' (k+1).toNat).1;have nx:(kpS b'.ops kp' (k+1).toNat).1=(kpS b'.ops kp' k.toNat).1++ [((kpS b'.ops kp' k.toNat).2.length:Int)]:=by rw [show(k+1).toNat=k.toNat+1 by omega];rfl
 have r:k<b'.ops.length->ren (kpS b'.ops kp' (k+1).toNat).1 ((b'.ops).getD (k).toNat default)=ren (kpS b'.ops kp' b'.ops.length).1 ((b'.ops).getD (k).toNat default):=λh=>by
  rw [show(k+1).toNat=k.toNat+1 by omega];exact adE (by rw [show((k.toNat:Nat):Int)=k by omega];exact ok.op k h1 h) ah
 have s:(kpS b'.ops kp' (k+1).toNat).2=if kp'.getD k.toNat default=true then(kpS b'.ops kp' k.toNat).2++ [((b'.ops).getD (k).toNat default)]else(kpS b'.ops kp' k.toNat).2:=by rw [show(k+1).toNat=k.toNat+1 by omega];rfl
 have fin:¬k<b'.ops.length->kpS b'.ops kp' k.toNat=kpS b'.ops kp' b'.ops.length:=λh=>by rw [show k.toNat=b'.ops.length by omega]
 have kb:jH b' kp'=PI (kpS b'.ops kp' b'.ops.length).1 b' (kpS b'.ops kp' b'.ops.length).2:=rfl;rw [kb];generalize kpS b'.ops kp' b'.ops.length=N at r fin ⊢;generalize hT:kpS b'.ops kp' (k+1).toNat=T at l3 nx r s ⊢;generalize kpS b'.ops kp' k.toNat=S at l1 l2 nx s fin ⊢;have en:=ok.en;have ex:¬k<b'.ops.length->¬b'.fin=1->0<=b'.x/\b'.x< (S.1.length:Int):=λh c=>by have:=en.x1 c;exact⟨this.1,by have:=this.2.1;omega⟩
 have ey:¬k<b'.ops.length->b'.fin=3\/b'.fin=4->0<=b'.y/\b'.y< (S.1.length:Int):=λh c=>by have:=en.y1 ah;exact⟨this.1,by have:=this.2.1;omega⟩
 simp (disch:=omega) only [RR,RB,List.length_append,List.length_cons,List.length_nil,List.length_map,nX,<-nx];refine⟨λh=> ?_,λh=> ?_⟩
 .have op:=ok.op k h1 h;have a2:hX (((b'.ops).getD (k).toNat default))->0<=(((b'.ops).getD (k).toNat default)).x/\(((b'.ops).getD (k).toNat default)).x< (T.1.length:Int):=λc=>⟨(op.x1 c).1,by have:=(op.x1 c).2.1;omega⟩
  have a3:hY (((b'.ops).getD (k).toNat default))->0<=(((b'.ops).getD (k).toNat default)).y/\(((b'.ops).getD (k).toNat default)).y< (T.1.length:Int):=λc=>⟨(op.y1 c).1,by have:=(op.y1 c).2.1;omega⟩
  have P:=U1.hp _ T.1 op.kd a2 a3;rw [U1.hf _ T.1 op.kd a2 a3,hT,s,r h];refine⟨ah,h1,ah,λc=>⟨h1,h,P,ah,⟨ah,ah,?_⟩,ah⟩,λc=>⟨⟨ah,ah,?_⟩,ah⟩⟩
  .rw [if_pos c,List.map_append];exact⟨rfl,rfl⟩
  .rw [c,if_neg (by decide)];exact⟨rfl,rfl⟩
 .have ex:=ex h;have ey:=ey h;rw [fin h]at ex ey ⊢;unfold bk7 PI;refine⟨λc=>⟨(ex c).1,(ex c).2,(ex c).1,(ex c).2,λc2=>⟨(ey c2).1,(ey c2).2,(ey c2).1,(ey c2).2,?_⟩,λc2=> ?_⟩,λc=>⟨λc2=>⟨(ey c2).1,(ey c2).2,(ey c2).1,(ey c2).2,?_⟩,λc2=> ?_⟩⟩
  .rw [if_neg c,if_pos ah]
  .rw [if_neg c,if_neg (by have:=en.f;omega)]
  .exact absurd c2 ah
  .rw [if_pos c,if_neg ah]
structure Y79(pp:Blk×Unit->Bool)(ff:Blk×Unit->List Bool×Unit):Prop where
 hp:∀b,b.ops.length<1000000->pp (b,())=true
 hf:∀b,b.ops.length<1000000->ff (b,())=(CB b,())
structure Y80(pp:Blk×List Bool×Unit->Bool)(ff:Blk×List Bool×Unit->Int×Int×Int×Int×Int×Int×List IOp×Unit):Prop where
 hp:∀b kp,cu b->kp.length=b.ops.length->pp (b,kp,())=true
 hf:∀b kp,cu b->kp.length=b.ops.length->ff (b,kp,())=bk7 (jH b kp)
def amx{p1 f1 p2 f2 p3 f3}(U1:Y60 p1 f1)(U2:Y79 p2 f2)(U3:Y80 p3 f3)(b:Blk)(hb:b.ops.length<1000000):Yo.F (p1,f1,p2,f2,p3,f3,()) (b,()) (λy=>y=bk7 (jI b)):=by
 dsimp only [Yo,gm];simp (disch:=omega) only [RR,RB,U1.hp b ah,U1.hf b ah,U2.hp b hb,U2.hf b hb];unfold jI CB;refine⟨λh=>by rw [h,if_neg (by decide)];rfl,λh=> ?_⟩;have ok:=aU.1 h;rw [if_pos h,if_pos h,U3.hf _ _ ok (AV b _)];exact⟨U3.hp _ _ ok (AV b _),rfl⟩
def amy{p1 f1 p2 f2}(U1:Y60 p1 f1)(U2:Y80 p2 f2){p3:List IOp×Int×Unit->Bool}{f3:List IOp×Int×Unit->Bool×Unit}(hp3:∀ops k,0<=k->k<ops.length->(ops.length:Int)<1000000->p3 (ops,k,())=true)(hf3:∀ops k,0<=k->k<ops.length->(ops.length:Int)<1000000->f3 (ops,k,())=(kV (ops.drop (k.toNat+1)) (((ops).getD (k).toNat default)).k,()))(b:Blk)(hb:b.ops.length<1000000):Yq.F (p1,f1,p2,f2,p3,f3,()) (b,()) (λy=>y=bk7 (lD b)):=by
 dsimp only [Yq,gm];simp (disch:=omega) only [RR,RB,U1.hp b ah,U1.hf b ah];unfold lD;refine⟨λh=>by rw [h,if_neg (by decide)];rfl,λh=> ?_⟩;have ok:=aU.1 h;rw [if_pos h];have kl:(l5 b.ops).length=b.ops.length:=by unfold l5;rw [List.length_map,List.length_range]
 refine aB (λ(y:Int×Blk×Int×Int×Int×Int×Int×Int×List Bool×Unit)=>0<=y.1/\y.1<=b.ops.length/\y.2.1=b/\y.2.2.2.2.2.2.2.2.1=(l5 b.ops).take y.1.toNat) (λy=>((b.ops.length:Int)-y.1).toNat) ⟨by dsimp only;omega,by dsimp only;omega,rfl,rfl⟩ ?_;rintro⟨(k:Int),(b':Blk),u1,u2,u3,u4,u5,u6,(kp:List Bool),⟨⟩⟩ hI;dsimp only at hI ⊢;obtain⟨h1,h2,rfl,rfl⟩:=hI;have tl:((l5 b'.ops).take k.toNat).length=k.toNat:=by rw [List.length_take];omega
 simp (disch:=omega) only [RR,RB,List.length_append,List.length_cons,List.length_nil,tl];refine⟨λh=>⟨h1,h,Or.inr (hp3 _ _ h1 h ah),ah,⟨ah,ah,?_⟩,ah⟩,λh=> ?_⟩
 .rw [hf3 _ _ h1 h ah,show(k+1).toNat=k.toNat+1 by omega,List.take_succ_eq_append_getElem ah,<-getD_lt (d:=default) (show k.toNat< (l5 b'.ops).length by omega),AU ah];refine congrArg (λx=>(l5 b'.ops).take k.toNat++ [x]) ?_;rw [Bool.not_and]
 .rw [List.take_of_length_le ah,U2.hf _ _ ok kl];exact⟨U2.hp _ _ ok kl,rfl⟩
def ain{ops:List IOp}{len:Int}{k n:Nat}{o:IOp}(ho:lC ops len k o)(h:k<=n):ren (cpS ops k).1 o=ren (cpS ops n).1 o:=by
 have l:=(zk ops k).1;have e:∀x:Int,Vl ops x k->(((cpS ops k).1).getD (x).toNat default)=(((cpS ops n).1).getD (x).toNat default):=λx v=>by
  have g0:=v.1;have g1:=v.2.1;exact(PK ops ah h).symm
 have ox:=ho.x1;have oy:=ho.y1;unfold ren
 congr 1
 .split
  .rename_i c;exact e _ (ox c)
  .rfl
 .split
  .rename_i c;exact e _ (oy c)
  .rfl
theorem amA{p1 f1 p2 f2 p3 f3}(U1:Y60 p1 f1)(U2:Y78 p2 f2)(U3:Y77 p3 f3)(b:Blk)(hb:b.ops.length<1000000):Yl.F (p1,f1,p2,f2,p3,f3,()) (b,()) (λy=>y=bk7 (dw b)):=by
 obtain⟨hp1,hf1⟩:=U1;obtain⟨hp2,hf2⟩:=U2;obtain⟨hp3,hf3⟩:=U3;dsimp only [Yl,gm];simp (disch:=omega) only [RR,RB,hp1 b ah,hf1 b ah,hp3 b hb,hf3 b hb,nX];unfold dw;refine⟨λh=>by rw [h,if_neg (by decide)];rfl,λh=> ?_⟩;have ok:=aU.1 h;rw [if_pos h];have n48:=ok.sz;refine aB (λ(y:Int×Int×Int×Int×Int×Int×Int×Int×Int×Int×Int×Int×Int×List Int×List Int×List IOp×Unit)=>0<=y.1/\y.1<=b.ops.length/\y.2.2.2.2.2.2.2=(b.pc,b.len,b.fin,b.x,b.y,b.k,(cpS b.ops y.1.toNat).1,(cpS b.ops y.1.toNat).2,(b.ops.take y.1.toNat).map (ren (cpS b.ops b.ops.length).1)++b.ops.drop y.1.toNat,())) (λy=>((b.ops.length:Int)-y.1).toNat) ⟨by dsimp only;omega,by dsimp only;omega,rfl⟩ ?_;rintro⟨(k:Int),u1,u2,u3,u4,u5,u6,b1,b2,b3,b4,b5,b6,(al:List Int),(la:List Int),(ops:List IOp),⟨⟩⟩ hI;dsimp only at hI ⊢;simp only [Prod.mk.injEq,and_true]at hI;obtain⟨h1,h2,rfl,rfl,rfl,rfl,rfl,rfl,rfl,rfl,rfl⟩:=hI;obtain⟨l1,l2⟩:=zk b.ops k.toNat;have r:=λh:k<b.ops.length=>ain (ops:=b.ops) (k:=k.toNat) (n:=b.ops.length) (by rw [show((k.toNat:Nat):Int)=k by omega];exact ok.op k h1 h) ah
 have fl:((b.ops.take k.toNat).map (ren (cpS b.ops b.ops.length).1)).length=k.toNat:=by rw [List.length_map,List.length_take];omega
 have ln:=SA (l:=b.ops) fl ah;have ek:=λh:k<b.ops.length=>ZK (d:=default) (l:=b.ops) fl ah
 have ms:=λx (h:k<b.ops.length)=>Sz (x:=x) (l:=b.ops) fl ah
 have tk:=λh:k<b.ops.length=>(cZ (d:=default) (l:=b.ops) h1 h rfl)
 have nx:k<b.ops.length->cpS b.ops (k+1).toNat=((cpS b.ops k.toNat).1++ [cpN (cpS b.ops k.toNat) k ((b.ops).getD (k).toNat default)],cpL (cpS b.ops k.toNat) k ((b.ops).getD (k).toNat default)):=λh=>by
  rw [show(k+1).toNat=k.toNat+1 by omega,show k=((k.toNat:Nat):Int) by omega];rfl
 have fin:¬k<b.ops.length->cpS b.ops k.toNat=cpS b.ops b.ops.length:=λh=>by rw [show k.toNat=b.ops.length by omega]
 have en:=ok.en;by_cases h:k<b.ops.length
 .have o:=ok.op k h1 h;have r:=r h;have ek:=ek h;have nx:=nx h;have ms:=λx=>ms x h
  have tk:=tk h;have a2:hX (((b.ops).getD (k).toNat default))->0<=(((b.ops).getD (k).toNat default)).x/\(((b.ops).getD (k).toNat default)).x< ((cpS b.ops k.toNat).1.length:Int):=λc=>⟨(o.x1 c).1,by have:=(o.x1 c).2.1;omega⟩
  have a3:hY (((b.ops).getD (k).toNat default))->0<=(((b.ops).getD (k).toNat default)).y/\(((b.ops).getD (k).toNat default)).y< ((cpS b.ops k.toNat).1.length:Int):=λc=>⟨(o.y1 c).1,by have:=(o.y1 c).2.1;omega⟩
  have P:=hp2 _ _ o.kd a2 a3;have F:=hf2 _ _ o.kd a2 a3;have kd:=o.k2;have rx:(((b.ops).getD (k).toNat default)).kind=8->(ren (cpS b.ops b.ops.length).1 ((b.ops).getD (k).toNat default)).x=(((cpS b.ops k.toNat).1).getD ((((b.ops).getD (k).toNat default)).x).toNat default):=λc=>by rw [<-r];exact if_pos (by unfold hX;omega)
  rw [r]at F;generalize hN:(cpS b.ops b.ops.length).1=N at*;generalize hT:cpS b.ops (k+1).toNat=T at nx ⊢;generalize cpS b.ops k.toNat=S at*;simp (disch:=omega) only [RR,RB,ln,ek,P,F,ms,List.length_append,List.length_cons,List.length_nil,List.length_set,nX,h];generalize hq:((b.ops).getD (k).toNat default)=q at*;have rk:(ren N q).kind=q.kind:=rfl;have rkk:(ren N q).k=q.k:=rfl;generalize hR:ren N q=R at*;have G:∀v w,v=cpN S k q->w=cpL S k q->(b.pc,b.len,b.fin,b.x,b.y,b.k,S.1++ [v],w,((b.ops.take k.toNat).map (ren N)++ [R])++b.ops.drop (k.toNat+1),())=(b.pc,b.len,b.fin,b.x,b.y,b.k,T.1,T.2,(b.ops.take (k+1).toNat).map (ren N)++b.ops.drop (k+1).toNat,()):=λv w e1 e2=>by
   rw [nx,e1,e2,<-tk,List.map_append,show(k+1).toNat=k.toNat+1 by omega,<-hR];rfl
  have ss:∀i:Int,0<=i->i<S.2.length->S.2.set i.toNat ((S.2).getD (i).toNat default)=S.2:=λi i0 i1=>by rw [getD_lt (show i.toNat<S.2.length by omega),List.set_getElem_self]
  by_cases c2:R.kind=2
  .have kk:=kd (Or.inl (rk▸c2));by_cases c3:0<=((S.2).getD (R.k).toNat default)
   .have g:=G (((S.2).getD (R.k).toNat default)) (S.2.set R.k.toNat ((S.2).getD (R.k).toNat default)) (by unfold cpN;rw [<-rk,<-rkk];rw [if_pos ⟨c2,c3⟩]) (by unfold cpL;rw [<-rk,<-rkk];rw [if_pos c2,if_pos c3,ss _ ah ah]);simp only [c2,c3,show¬((2:Int)=8) by decide,true_and,and_true,true_implies,false_implies,not_true_eq_false,not_false_eq_true,false_or,decide_true,Bool.and_self,Bool.true_eq_false,hT,g];omega
   .have g:=G k (S.2.set R.k.toNat k) (by unfold cpN;rw [<-rk,<-rkk];rw [if_neg (λq=>c3 q.2)]) (by unfold cpL;rw [<-rk,<-rkk];rw [if_pos c2,if_neg c3]);simp only [c2,c3,show¬((2:Int)=8) by decide,true_and,and_true,and_false,true_implies,false_implies,not_true_eq_false,not_false_eq_true,false_or,decide_true,decide_false,Bool.and_false,hT,g];omega
  .by_cases c8:R.kind=8
   .have kk:=kd (Or.inr (rk▸c8));have g:=G k (S.2.set R.k.toNat ((S.1).getD (q.x).toNat default)) (by unfold cpN;rw [<-rk,<-rkk];rw [if_neg (λq=>c2 q.1)]) (by unfold cpL;rw [<-rk,<-rkk];rw [if_neg c2,if_pos c8]);rw [<-rx (rk▸c8)]at g;simp only [c8,show¬((8:Int)=2) by decide,false_and,true_and,and_true,and_false,true_implies,false_implies,not_true_eq_false,not_false_eq_true,true_or,decide_false,Bool.false_and,hT,g];omega
   .have g:=G k S.2 (by unfold cpN;rw [<-rk,<-rkk];rw [if_neg (λq=>c2 q.1)]) (by unfold cpL;rw [<-rk,<-rkk];rw [if_neg c2,if_neg c8]);simp only [c2,c8,false_and,true_and,and_true,and_false,true_implies,false_implies,not_true_eq_false,not_false_eq_true,true_or,decide_false,Bool.false_and,hT,g];omega
 .have e:=fin h;have ex:¬b.fin=1->0<=b.x/\b.x< ((cpS b.ops k.toNat).1.length:Int):=λc=>by have:=en.x1 c;exact⟨this.1,by have:=this.2.1;omega⟩
  have ey:b.fin=3\/b.fin=4->0<=b.y/\b.y< ((cpS b.ops k.toNat).1.length:Int):=λc=>by have:=en.y1 ah;exact⟨this.1,by have:=this.2.1;omega⟩
  have ff:=en.f;have z:(b.ops.take k.toNat).map (ren (cpS b.ops b.ops.length).1)++b.ops.drop k.toNat=b.ops.map (ren (cpS b.ops b.ops.length).1):=by rw [List.take_of_length_le ah,List.drop_of_length_le ah,List.append_nil]
  have ln:(b.ops.map (ren (cpS b.ops b.ops.length).1)).length=b.ops.length:=List.length_map _;rw [z];rw [e]at ex ey ⊢;unfold bk7 PI;generalize (cpS b.ops b.ops.length).1=N at*;simp (disch:=omega) only [RR,RB,ln,h];refine⟨λc=>⟨(ex c).1,(ex c).2,(ex c).1,(ex c).2,λc2=>⟨(ey c2).1,(ey c2).2,(ey c2).1,(ey c2).2,?_⟩,λc2=> ?_⟩,λc=>⟨λc2=>absurd c2 ah,λc2=> ?_⟩⟩
  .rw [if_neg c,if_pos ah]
  .rw [if_neg c,if_neg ah]
  .rw [if_pos c,if_neg ah]
structure BkD(m:Int)(n:Nat)(b:List Int)(p:Int)(y:Int×Int×Int×Int×Int×Int×List Int×Int×List IOp×Unit):Prop where
 b:y.2.2.2.2.2.2.1=b
 lo:p<=y.2.2.2.2.2.2.2.1
 hi:y.2.2.2.2.2.2.2.1<=p+m
 len:y.2.2.2.2.2.2.2.2.1.length<=n
structure Y81(pp:Blk×Unit->Bool)(ff:Blk×Unit->Int×Int×Int×Int×Int×Int×List IOp×Unit):Prop where
 hp:∀b,b.ops.length<1000000->pp (b,())=true
 hf:∀b,b.ops.length<1000000->ff (b,())=bk7 (xX b)
structure Y82(pp:List Int×Int×Unit->Bool)(ff:List Int×Int×Unit->List Int×Int×List Ins×Unit):Prop where
 hp:∀b p,Bt b->0<=p->p<700000000->pp (b,p,())=true
 hf:∀b p,Bt b->0<=p->p<700000000->LiD b p (ff (b,p,()))
def aio{p2 f2 p3 f3 p4 f4 p5 f5}{p1:Int×List Ins×Unit->Bool}{f1:Int×List Ins×Unit->Int×Int×Int×Int×Int×Int×List IOp×Unit}(hp1:∀pc l,(l.length:Int)<1000->KB l->p1 (pc,l,())=true)(hf1:∀pc l,(l.length:Int)<1000->KB l->((f1 (pc,l,())).2.2.2.2.2.2.1.length:Int)<=5000)(U2:Y81 p2 f2)(U3:Y74 p3 f3)(U4:Y38 p4 f4)(U5:Y82 p5 f5)(b:List Int)(p:Int)(hb:Bt b)(h1:0<=p)(h2:p<600000000):Pb.F (p1,f1,p2,f2,p3,f3,p4,f4,p5,f5,()) (b,p,()) (λy=>BkD 2000 5000 b p y):=by
 obtain⟨hp2,hf2⟩:=U2;obtain⟨hp3,hf3⟩:=U3;obtain⟨hp4,hf4⟩:=U4;obtain⟨hp5,hf5⟩:=U5
 replace hf2:=λc h=>show(f2 (c,())).2.2.2.2.2.2.1.length<=c.ops.length by rw [hf2 c h];exact GI c
 replace hf3:=λc h=>show(f3 (c,())).2.2.2.2.2.2.1.length<=c.ops.length by rw [hf3 c h];exact xW c
 obtain⟨a1,a2,a3,a4,a5⟩:=hf5 b p hb h1 ah;have R:=pkR hb hf4;have P:=λn p h1 h2=>hp4 n b p hb h1 h2
 have L:=λpc=>hf1 pc _ (show((f5 (b,p,())).2.2.1.length:Int)<1000 by omega) a5
 have O1:=λc (h:c.ops.length<=5000)=>hp2 c ah
 have O2:=λc (h:c.ops.length<=5000)=>hf2 c ah
 have O3:=λc (h:c.ops.length<=5000)=>hp3 c ah
 have O4:=λc (h:c.ops.length<=5000)=>hf3 c ah
 dsimp only [Pb,gm];simp (disch:=omega) only [RR,hp5 b p hb h1 ah,a1,R,P,hp1 _ _ (show((f5 (b,p,())).2.2.1.length:Int)<1000 by omega) a5,List.length_cons,List.length_nil];have L':∀pc,(f1 (pc,(f5 (b,p,())).2.2.1,())).2.2.2.2.2.2.1.length<=5000:=λpc=>by have:=L pc;omega
 refine⟨λ_=>⟨O1 _ (L' _),rfl,by dsimp only;omega,by dsimp only;omega,Nat.le_trans (O2 _ (L' _)) (L' _)⟩,λ_=>⟨λ_=>⟨O3 _ (L' _),rfl,by dsimp only;omega,by dsimp only;omega,Nat.le_trans (O4 _ (L' _)) (L' _)⟩,λ_=>⟨rfl,by dsimp only;omega,by dsimp only;omega,L' _⟩⟩⟩
def aip{p1 f1 p2 f2}(U1:Y38 p1 f1)(U2:Y77 p2 f2)(c:Blk)(b:List Int)(p:Int)(ok:cu c)(hc:c.ops.length<1000000)(hb:Bt b)(h1:0<=p)(h2:p<600000000):Pf.F (p1,f1,p2,f2,()) (c,b,p,()) (λy=>BkD 1000000 c.ops.length b p y):=by
 dsimp only [Pf,gm];simp (disch:=omega) only [RR,RB,U2.hp c hc,U2.hf c hc];refine aB (λ(y:Int×List Int×Int×Int×Int×Int×Int×Int×Int×Int×Int×Int×Int×Int×Int×List IOp×Unit)=>0<=y.1/\y.1<=c.ops.length/\y.2.1=b/\p<=y.2.2.1/\y.2.2.1<=p+y.1/\y.2.2.2.2.2.2.2.2.2.2.2.2.2.2.2.1.length=c.ops.length/\∀j:Int,y.1<=j->((y.2.2.2.2.2.2.2.2.2.2.2.2.2.2.2.1).getD (j).toNat default)=((c.ops).getD (j).toNat default)) (λy=>((c.ops.length:Int)-y.1).toNat) ⟨by dsimp only;omega,by dsimp only;omega,rfl,by dsimp only;omega,by dsimp only;omega,rfl,λ_ _=>rfl⟩ ?_;rintro⟨(k:Int),(b':List Int),(q:Int),u1,u2,u3,u4,u5,u6,b1,b2,b3,b4,b5,b6,(ops:List IOp),⟨⟩⟩ hI;dsimp only at hI ⊢;obtain⟨k1,k2,rfl,k3,k4,k5,k6⟩:=hI;have e:=k6 k (Int.le_refl _);have R:=pkR hb U1.hf;have P:=λn p h1 h2=>U1.hp n b' p hb h1 h2
 simp (disch:=omega) only [RR,RB,e,R,P,List.length_set,Bool.and_eq_false_iff];refine⟨λh=> ?_,λh=>⟨rfl,k3,by dsimp only;omega,Nat.le_of_eq k5⟩⟩;have oy:((c.ops).getD (k).toNat default).kind=3->0<=((c.ops).getD (k).toNat default).y/\((c.ops).getD (k).toNat default).y<k:=λc3=>by have:=(ok.op k k1 ah).y1 (Or.inl c3);exact⟨this.1,this.2.1⟩
 have S:∀(X:List IOp) v (j:Int),k+1<=j->(X.set k.toNat v).getD j.toNat default=X.getD j.toNat default:=λX v j hj=>by
  simp only [List.getD,List.getElem?_set_ne (show k.toNat≠j.toNat by omega)]
 repeat' (first | (refine⟨?_,?_⟩) | intro _)
 all_goals first | omega | rfl | exact k6 _ ah | (simp (disch:=omega) only [S];exact k6 _ ah)
def aiq{p1 f1 p2 f2}(U1:Y38 p1 f1)(U2:Y77 p2 f2)(c:Blk)(b:List Int)(p:Int)(hc:c.ops.length<1000000)(hb:Bt b)(h1:0<=p)(h2:p<900000000):IQ.F (p1,f1,p2,f2,()) (c,b,p,()) (λy=>BkD 20 c.ops.length b p y/\y.1=c.pc):=by
 have R:=pkR hb U1.hf;have P:=λn p h1 h2=>U1.hp n b p hb h1 h2
 by_cases z:(c.ops.length:Int)=0
 .dsimp only [IQ,gm];simp (disch:=omega) only [RR,RB,U2.hp c hc,U2.hf c hc,z];exact⟨rfl,by dsimp only;omega,by dsimp only;omega,Nat.le_refl _⟩
 have B:=(U1.hf c.ops.length b p hb h1 ah).2.2;have W:IntKind.i64.wrap ((f1 (c.ops.length,b,p,())).1-1)=(f1 (c.ops.length,b,p,())).1-1:=w64 ah ah;dsimp only [IQ,gm];simp (disch:=omega) only [RR,RB,U2.hp c hc,U2.hf c hc,R,P,z,List.length_set,W]
 repeat' (first | (refine And.intro ?_ ?_) | intro _)
 all_goals first | omega | exact⟨rfl,by dsimp only;omega,by dsimp only;omega,by dsimp only [Zb];simp only [List.length_set,List.length_take,List.length_drop];omega⟩ | exact⟨rfl,by dsimp only;omega,by dsimp only;omega,by simp only [List.length_drop,List.length_take];omega⟩ | exact⟨rfl,by dsimp only;omega,by dsimp only;omega,Nat.le_refl _⟩ | rfl
structure BoD(b:List Int)(p:Int)(y:Blk×List Int×Int×Unit):Prop where
 len:y.1.ops.length<100000
 b:y.2.1=b
 lo:p<=y.2.2.1
 hi:y.2.2.1<=p+5000
structure Y83(pp:Blk×List Int×Int×Unit->Bool)(ff:Blk×List Int×Int×Unit->Int×Int×Int×Int×Int×Int×List Int×Int×List IOp×Unit):Prop where
 hp:∀c b p,c.ops.length<1000000->Bt b->0<=p->p<900000000->pp (c,b,p,())=true
 hf:∀c b p,c.ops.length<1000000->Bt b->0<=p->p<900000000->BkD 20 c.ops.length b p (ff (c,b,p,()))/\(ff (c,b,p,())).1=c.pc
structure Y84(pp:List Int×Int×Unit->Bool)(ff:List Int×Int×Unit->Int×Int×Int×Int×Int×Int×List Int×Int×List IOp×Unit):Prop where
 hp:∀b p,Bt b->0<=p->p<600000000->pp (b,p,())=true
 hf:∀b p,Bt b->0<=p->p<600000000->BkD 2000 5000 b p (ff (b,p,()))
structure Y85(pp:Int×List Int×Int×Unit->Bool)(ff:Int×List Int×Int×Unit->Blk×List Int×Int×Unit):Prop where
 hp:∀n b p,Bt b->0<=p->p<500000000->pp (n,b,p,())=true
 hf:∀n b p,Bt b->0<=p->p<500000000->BoD b p (ff (n,b,p,()))
structure Y86(pp:Blk×List Int×Int×Unit->Bool)(ff:Blk×List Int×Int×Unit->Int×Int×Int×Int×Int×Int×List Int×Int×List IOp×Unit):Prop where
 hp:∀c b p,cu c->c.ops.length<1000000->Bt b->0<=p->p<600000000->pp (c,b,p,())=true
 hf:∀c b p,cu c->c.ops.length<1000000->Bt b->0<=p->p<600000000->BkD 1000000 c.ops.length b p (ff (c,b,p,()))
structure Y87(pp:Int×List Int×Int×Unit->Bool)(ff:Int×List Int×Int×Unit->Blk×Blk×List Int×Int×Unit):Prop where
 hp:∀n b p,Bt b->0<=p->p<400000000->pp (n,b,p,())=true
 hf:∀n b p,Bt b->0<=p->p<400000000->(ff (n,b,p,())).1.ops.length<100000/\(ff (n,b,p,())).2.1.ops.length<100000/\(ff (n,b,p,())).2.2.1=b/\p<=(ff (n,b,p,())).2.2.2.1/\(ff (n,b,p,())).2.2.2.1<=p+10000000
structure Y88(pp:List (List aj)×List (List aj)×Unit->Bool)(ff:List (List aj)×List (List aj)×Unit->Bool×Unit):Prop where
 hp:∀a b,ShP a->pp (a,b,())=true
 hf:∀a b,ShP a->ff (a,b,())=(bp (a=b),())
structure Y89(pp:List Atom×Blk×Unit->Bool)(ff:List Atom×Blk×Unit->List Atom×Sym×Unit):Prop where
 hp:∀t b,ShT t->b.ops.length<1000000000->pp (t,b,())=true
 hf:∀t b,ShT t->b.ops.length<1000000000->ff (t,b,())=((bK t b).1,(bK t b).2,())
structure Y90(pp:List Int×Unit->Bool)(ff:List Int×Unit->List Atom×Blk×Unit):Prop where
 hp:∀c,By c->c.length<1000000000->pp (c,())=true
 hf:∀c,By c->c.length<1000000000->ShT (ff (c,())).1/\0< (ff (c,())).1.length/\(ff (c,())).2.1.ops.length<100000
structure Y91(pp:Sym×Sym×Unit->Bool)(ff:Sym×Sym×Unit->Bool×Unit):Prop where
 hp:∀a b,a=b->ShY a->pp (a,b,())=true
 hf:∀a b,a=b->ShY a->ff (a,b,())=(true,())
theorem afm(x y:IOp):ak0 .iop x y=decide (x=y):=rfl
def Qa{P:Prop}[Decidable P]:decide P=bp P:=by unfold bp;congr
structure Y92(pp:List IOp×List IOp×Unit->Bool)(ff:List IOp×List IOp×Unit->Bool×Unit):Prop where
 hp:∀a b,a.length<1000000000->pp (a,b,())=true
 hf:∀a b,a.length<1000000000->ff (a,b,())=(bp (a=b),())
structure Y93(pp:Ev×Ev×Unit->Bool)(ff:Ev×Ev×Unit->Bool×Unit):Prop where
 hp:∀a b,ShE a->pp (a,b,())=true
 hf:∀a b,ShE a->ff (a,b,())=(bp (a=b),())
structure Y94(pp:Blk×Blk×Unit->Bool)(ff:Blk×Blk×Unit->Bool×Unit):Prop where
 hp:∀a b,a.ops.length<1000000000->pp (a,b,())=true
 hf:∀a b,a.ops.length<1000000000->ff (a,b,())=(bp (a=b),())
structure Y95(pp:Sym×Sym×Unit->Bool)(ff:Sym×Sym×Unit->Bool×Unit):Prop where
 hp:∀a b,ShY a->pp (a,b,())=true
 hf:∀a b,ShY a->ff (a,b,())=(bp (a=b),())
structure Y96(pp:Blk×Blk×Unit->Bool)(ff:Blk×Blk×Unit->Bool×Unit):Prop where
 hp:∀b c,b.ops.length<1000000000->c.ops.length<1000000000->pp (b,c,())=true
 hf:∀b c,b.ops.length<1000000000->c.ops.length<1000000000->ff (b,c,())=(chk b c,())
structure Y97(pp:List Int×Unit->Bool)(ff:List Int×Unit->Blk×Blk×Unit):Prop where
 hp:∀c,By c->c.length<1000000000->pp (c,())=true
 hf:∀c,By c->c.length<1000000000->(ff (c,())).1.ops.length<100000/\(ff (c,())).2.1.ops.length<100000
structure amB(nm:List Int)(fin x y:Int)(ops:List IOp):Prop where
 op:∀i:Int,0<=i->i<ops.length->(hX ((ops).getD (i).toNat default)->0<=(((ops).getD (i).toNat default)).x/\(((ops).getD (i).toNat default)).x<nm.length)/\(hY ((ops).getD (i).toNat default)->0<=(((ops).getD (i).toNat default)).y/\(((ops).getD (i).toNat default)).y<nm.length)
 x:fin≠1->0<=x/\x<nm.length
 y:3<=fin->0<=y/\y<nm.length
 l:ops.length<1000000000
def amC(b:Blk)(hb:b.ops.length<1000000000):ahx.F () (b,()) (λy=>y=bk7 b):=by
 dsimp only [ahx,gm];simp (disch:=omega) only [RR,RB];omega
structure Y98(pp:List Int×Int×Int×Int×Int×Int×Int×List IOp×Unit->Bool)(ff:List Int×Int×Int×Int×Int×Int×Int×List IOp×Unit->Int×Int×Int×Int×Int×Int×List IOp×Unit):Prop where
 hp:∀(nm:List Int) pc len fin x y k ops,amB nm fin x y ops->pp (nm,pc,len,fin,x,y,k,ops,())=true
 hf:∀(nm:List Int) pc len fin x y k ops,amB nm fin x y ops->ff (nm,pc,len,fin,x,y,k,ops,())=(pc,len,fin,(if fin=1 then x else((nm).getD (x).toNat default)),(if 3<=fin then((nm).getD (y).toNat default)else y),k,ops.map (ren nm),())
structure Y99(pp:Blk×Unit->Bool)(ff:Blk×Unit->Int×Int×Int×Int×Int×Int×List IOp×Unit):Prop where
 hp:∀b,b.ops.length<1000000000->pp (b,())=true
 hf:∀b,b.ops.length<1000000000->ff (b,())=bk7 b
structure arA(pp:Blk×Unit->Bool)(ff:Blk×Unit->List Bool×Unit):Prop where
 hp:∀b,cu b->pp (b,())=true
 hf:∀b,cu b->ff (b,())=(us b b.ops.length,())
structure arB(pp:Blk×Unit->Bool)(ff:Blk×Unit->Blk×Unit):Prop where
 hp:∀b,b.ops.length<1000000->pp (b,())=true
 hf:∀b,b.ops.length<1000000->ff (b,())=(dw b,())
structure arC(pp:Blk×Unit->Bool)(ff:Blk×Unit->Blk×Unit):Prop where
 hp:∀b,b.ops.length<1000000->pp (b,())=true
 hf:∀b,b.ops.length<1000000->ff (b,())=(jI b,())
structure arD(pp:Blk×Unit->Bool)(ff:Blk×Unit->Blk×Unit):Prop where
 hp:∀b,b.ops.length<1000000->pp (b,())=true
 hf:∀b,b.ops.length<1000000->ff (b,())=(lD b,())
def afn(a b:Blk)(ha:a.ops.length<1000000000):YU.F () (a,b,()) (λy=>y=(bp (a=b),())):=by
 dsimp only [YU,gm];simp (disch:=omega) only [RR,RB];refine⟨λh=> ?_,λh=> ?_⟩
 .rw [bL];rintro rfl;simp at h
 have hl:a.ops.length=b.ops.length:=by omega
 refine aB (λ(y:Int×Blk×Blk×Unit)=>y.2.1=a/\y.2.2.1=b/\0<=y.1/\y.1<=a.ops.length/\All y.1 (λi=>a.ops.getD i.toNat default=b.ops.getD i.toNat default)) (λy=>(a.ops.length-y.1).toNat) ⟨rfl,rfl,by simp,by simp,All.zero⟩ ?_;rintro⟨(i:Int),(a':Blk),(b':Blk),⟨⟩⟩ hI;dsimp only at hI ⊢;obtain⟨rfl,rfl,h1,h2,h3⟩:=hI;simp (disch:=omega) only [RR,RB,afm];refine⟨λh4=>⟨ah,ah,ah,ah,λh5=> ?_,λh5=>⟨⟨ah,ah,h3.snoc h5⟩,ah⟩⟩,λh4=> ?_⟩
 .rw [bL];rintro rfl;exact h5 rfl
 .have e:=lu hl (h3.le ah);rw [aP];cases a';cases b';simp_all
structure arE(pp:List Int×Unit->Bool)(ff:List Int×Unit->Blk×Unit):Prop where
 hp:∀c,By c->c.length<1000000000->pp (c,())=true
 hf:∀c,By c->c.length<1000000000->(ff (c,())).1.ops.length<100000
structure arF(pp:Blk×Unit->Bool)(ff:Blk×Unit->Int×Unit):Prop where
 hp:∀b,b.ops.length<1000000->pp (b,())=true
 hf:∀b,b.ops.length<1000000->ff (b,())=(((KU b.ops).length:Int),())
structure arG(pp:Blk×Unit->Bool)(ff:Blk×Unit->Blk×Unit):Prop where
 hp:∀b,b.ops.length<1000000->pp (b,())=true
 hf:∀b,b.ops.length<1000000->ff (b,())=(xX b,())
def ShC(l:List Cer):Prop:=l.length<1000/\∀q∈l,q.base.ops.length<1000000/\q.made.ops.length<1000000
def ZN(l:List Cer)(b c:Blk):Prop:=∃q∈l,q.base=b/\q.made=c
def K6(l:List Cer):Prop:=l.length<=3/\∀q∈l,chk q.base q.made=true
def ShC.at{l:List Cer}(h:ShC l)(i:Nat):(l.getD i default).base.ops.length<1000000/\(l.getD i default).made.ops.length<1000000:=by
 by_cases c:i<l.length
 .rw [getD_lt c];exact h.2 _ (List.getElem_mem _)
 .rw [List.getD_eq_getElem?_getD,List.getElem?_eq_none ah];exact⟨by decide,by decide⟩
def ShC.add{l:List Cer}(h:ShC l)(n:l.length<999){q:Cer}(h1:q.base.ops.length<1000000)(h2:q.made.ops.length<1000000):ShC (l++ [q]):=by
 refine⟨by rw [List.length_append,List.length_singleton];omega,λc g=> ?_⟩;rw [List.mem_append,List.mem_singleton]at g;rcases g with g | rfl
 .exact h.2 c g
 .exact⟨h1,h2⟩
def ShD(l:List Cer):Prop:=l.length<1000000000/\∀q∈l,q.base.ops.length<1000000000/\q.made.ops.length<1000000000
def ShC.d{l:List Cer}(h:ShC l):ShD l:=⟨by have:=h.1;omega,λq g=>by have:=h.2 q g;omega⟩
def ShD.at{l:List Cer}(h:ShD l)(i:Nat):(l.getD i default).base.ops.length<1000000000/\(l.getD i default).made.ops.length<1000000000:=by
 by_cases c:i<l.length
 .rw [getD_lt c];exact h.2 _ (List.getElem_mem _)
 .rw [List.getD_eq_getElem?_getD,List.getElem?_eq_none ah];exact⟨by decide,by decide⟩
def CRB:(∀q:Cer,dB .cer 0 q=q.base.pc)/\(∀q:Cer,dB .cer 1 q=q.base.len)/\(∀q:Cer,iE .cer 2 .iop q=q.base.ops)/\(∀q:Cer,dB .cer 3 q=q.base.fin)/\(∀q:Cer,dB .cer 4 q=q.base.x)/\(∀q:Cer,dB .cer 5 q=q.base.y)/\(∀q:Cer,dB .cer 6 q=q.base.k)/\
  (∀q:Cer,dB .cer 7 q=q.made.pc)/\(∀q:Cer,dB .cer 8 q=q.made.len)/\(∀q:Cer,iE .cer 9 .iop q=q.made.ops)/\(∀q:Cer,dB .cer 10 q=q.made.fin)/\(∀q:Cer,dB .cer 11 q=q.made.x)/\(∀q:Cer,dB .cer 12 q=q.made.y)/\(∀q:Cer,dB .cer 13 q=q.made.k)/\
  (∀x,Co.mk .blk x=⟨x.1,x.2.1,x.2.2.1,x.2.2.2.1,x.2.2.2.2.1,x.2.2.2.2.2.1,x.2.2.2.2.2.2.1⟩):=
 ⟨λ_=>rfl,λ_=>rfl,λ_=>rfl,λ_=>rfl,λ_=>rfl,λ_=>rfl,λ_=>rfl,λ_=>rfl,λ_=>rfl,λ_=>rfl,λ_=>rfl,λ_=>rfl,λ_=>rfl,λ_=>rfl,λ_=>rfl⟩
def SB{α:Type}{d:α}{l:List α}{i:Nat}{G:α->Prop}(h:i<l.length):(∃q∈l.take (i+1),G q)↔(∃q∈l.take i,G q)\/G (l.getD i d):=by
 rw [List.take_succ_eq_append_getElem h,getD_lt h];constructor
 .rintro⟨q,h1,h2⟩;rw [List.mem_append,List.mem_singleton]at h1;rcases h1 with h1 | rfl
  .exact Or.inl ⟨q,h1,h2⟩
  .exact Or.inr h2
 .rintro(⟨q,h1,h2⟩ | h)
  .exact⟨q,List.mem_append_left _ h1,h2⟩
  .exact⟨_,List.mem_append_right _ (List.mem_singleton.2 rfl),h⟩
def afo(a b:Blk)(ha:a.ops.length<1000000000):XJ.F () (a,b,()) (λy=>y=(bp (a=b),())):=by
 dsimp only [XJ,gm];simp (disch:=omega) only [RR,RB];refine⟨λh=> ?_,λh=> ?_⟩
 .rw [bL];rintro rfl;simp at h
 have hl:a.ops.length=b.ops.length:=by omega
 refine aB (λ(y:Int×Blk×Blk×Unit)=>y.2.1=a/\y.2.2.1=b/\0<=y.1/\y.1<=a.ops.length/\All y.1 (λi=>a.ops.getD i.toNat default=b.ops.getD i.toNat default)) (λy=>(a.ops.length-y.1).toNat) ⟨rfl,rfl,by simp,by simp,All.zero⟩ ?_;rintro⟨(i:Int),(a':Blk),(b':Blk),⟨⟩⟩ hI;dsimp only at hI ⊢;obtain⟨rfl,rfl,h1,h2,h3⟩:=hI;simp (disch:=omega) only [RR,RB,afm];refine⟨λh4=>⟨ah,ah,ah,ah,λh5=> ?_,λh5=>⟨⟨ah,ah,h3.snoc h5⟩,ah⟩⟩,λh4=> ?_⟩
 .rw [bL];rintro rfl;exact h5 rfl
 .have e:=lu hl (h3.le ah);rw [aP];cases a';cases b';simp_all
theorem amD{p1 f1}(U1:Y94 p1 f1)(l:List Cer)(b c:Blk)(h:ShC l):YA.F (p1,f1,()) (l,b,c,()) (λy=>y=(bp (ZN l b c),())):=by
 have hl:=h.1;have mE:∀c:Blk,Co.mk .blk (c.pc,c.len,c.ops,c.fin,c.x,c.y,c.k,())=c:=λ_=>rfl
 dsimp only [YA,gm,jU];simp (disch:=omega) only [RR];refine aB (λ(y:List Cer×Int×Blk×Blk×Unit)=>y.1=l/\0<=y.2.1/\y.2.1<=l.length/\y.2.2.1=b/\y.2.2.2.1=c/\¬ZN (l.take y.2.1.toNat) b c) (λy=>(l.length-y.2.1).toNat) ⟨rfl,by simp,by simp,rfl,rfl,by rintro⟨q,h,_⟩;cases h⟩ ?_;rintro⟨(l':List Cer),(i:Int),(b':Blk),(c':Blk),⟨⟩⟩ hI;dsimp only at hI ⊢;obtain⟨rfl,h1,h2,rfl,rfl,h3⟩:=hI;have a:=h.at i.toNat;simp (disch:=omega) only [RR,CRB,mE,U1.hp (((l').getD (i).toNat default)).base b' ah,U1.hf (((l').getD (i).toNat default)).base b' ah,U1.hp (((l').getD (i).toNat default)).made c' ah,U1.hf (((l').getD (i).toNat default)).made c' ah,aU,kU];refine⟨λg=>⟨h1,g,Or.inr h1,Or.inr g,λe=> ?_,λe=>⟨⟨ah,ah,?_⟩,ah⟩⟩,λg=> ?_⟩
 .rw [aP (show ZN l' b' c' from⟨_,dD h1 g,e⟩)]
 .rw [show(i+1).toNat=i.toNat+1 by omega];rw [<-pV]at e;exact λx=>((SB (G:=λq:Cer=>q.base=b'/\q.made=c') ah).1 x).elim h3 (kU.1 e)
 .rw [List.take_of_length_le ah]at h3;rw [bL h3]
structure arH(pp:Int×List Int×Int×Unit->Bool)(ff:Int×List Int×Int×Unit->List Cer×List Int×Int×Unit):Prop where
 hp:∀n b p,Bt b->0<=p->p<300000000->pp (n,b,p,())=true
 hf:∀n b p,Bt b->0<=p->p<300000000->ShC (ff (n,b,p,())).1/\(ff (n,b,p,())).2.1=b/\p<=(ff (n,b,p,())).2.2.1/\(ff (n,b,p,())).2.2.1<=p+20000
structure aqn(pp:List Cer×Blk×Blk×Unit->Bool)(ff:List Cer×Blk×Blk×Unit->Bool×Unit):Prop where
 hp:∀l b c,ShC l->pp (l,b,c,())=true
 hf:∀l b c,ShC l->ff (l,b,c,())=(bp (ZN l b c),())
structure aqo(pp:List Cer×Unit->Bool)(ff:List Cer×Unit->Bool×Unit):Prop where
 hp:∀l,ShD l->pp (l,())=true
 hf:∀l,ShD l->ff (l,())=(bp (K6 l),())
def je(l:List Int):(dA l).Perm l:=List.mergeSort_perm l _
def AX(l:List Int):(dA l).Pairwise (· <= ·):=by
 have:=List.pairwise_mergeSort (le:=λx y:Int=>decide (x<=y)) (λa b c h1 h2=>by simp only [decide_eq_true_eq]at*;omega) (λa b=>by simp only [Bool.or_eq_true,decide_eq_true_eq];omega) l;exact this.imp λh=>by simpa using h
def sJ{a b:List Int}(h:a.Perm b):dA a=dA b:=pX (AX a) ((je a).trans h)
def EH{a:List Int}(h:a.Pairwise (· <= ·)):dA a=a:=(pX h (List.Perm.refl a)).symm
structure Ren(s:Int->Int)(t:Int->Int)(n:Int):Prop where
 rng:∀k,0<=k->k<n->0<=s k/\s k<=199
 back:∀k,0<=k->k<n->t (s k)=k
def mapM(s:Int->Int)(m:aj):aj:=⟨m.bD,dA (m.atoms.map s)⟩
def AtN(n:Int)(l:List Int):Prop:=l.Pairwise (· <= ·)/\∀k∈l,0<=k/\k<n
def Ren.bk{s t:Int->Int}{n:Int}(h:Ren s t n){l:List Int}(hl:AtN n l):dA ((dA (l.map s)).map t)=l:=by
 rw [sJ ((je _).map t),List.map_map];have e:l.map (t ∘ s)=l:=by
  conv=>rhs;rw [<-List.map_id l]
  exact List.map_congr_left λk hk=>h.back k (hl.2 k hk).1 (hl.2 k hk).2
 rw [e,EH hl.1]
def Jf{s t:Int->Int}{n:Int}(h:Ren s t n)(K:List Int):∀ {l:List aj},(∀m∈l,AtN n m.atoms)->cf (l.map (mapM s)) K=if dA ((dA (K.map t)).map s)=K then cf l (dA (K.map t))else 0
 | [],_=>by simp [gG]
 | m::l,hl=>by
  have hm:=hl m List.mem_cons_self;rw [List.map_cons,aX,Jf h K (λm' hm'=>hl m' (List.mem_cons_of_mem _ hm')),aX];show(if dA (m.atoms.map s)=K then m.bD else 0)+_=_;by_cases c:dA (m.atoms.map s)=K
  .have e:=h.bk hm;rw [c]at e;rw [if_pos c,e,if_pos c,if_pos c,if_pos rfl]
  .rw [if_neg c];by_cases d:dA ((dA (K.map t)).map s)=K
   .rw [if_pos d,if_pos d,if_neg (λx=>c (by rw [x,d]))]
   .rw [if_neg d,if_neg d];rfl
noncomputable def aZ (s:Int->Int) (p:List aj):List aj:=nf (p.map (mapM s))
def adF{s t:Int->Int}{n:Int}(h:Ren s t n){l l':List aj}(hl:∀m∈l,AtN n m.atoms)(hl':∀m∈l',AtN n m.atoms)(e:∀k,cf l k%65536=cf l' k%65536):nf (l.map (mapM s))=nf (l'.map (mapM s)):=
 KQ λK=>by
  rw [Jf h K hl,Jf h K hl'];split
  .exact e _
  .rfl
structure Dis(l:List aj):Prop where
 ne:l.Pairwise λa b=>a.atoms≠b.atoms
 co:∀m∈l,1<=m.bD/\m.bD<=65535
def Nf.dis{o:List aj}(h:Nf o):Dis o:=⟨h.ss.imp λg=>g.ne,h.co⟩
def Dis.perm{a b:List aj}(h:Dis a)(p:a.Perm b):Dis b:=⟨(p.pairwise_iff (R:=λa b:aj=>a.atoms≠b.atoms) (λg=>g.symm)).1 h.ne,λm hm=>h.co m (p.mem_iff.2 hm)⟩
def Dis.rng(k:List Int):∀ {l:List aj},Dis l->0<=cf l k/\cf l k<=65535
 | [],_=>by simp [gG]
 | m::l,h=>by
  have c:=h.co m List.mem_cons_self;rw [aX];by_cases e:m.atoms=k
  .rw [if_pos e,gQ λm' hm'=>by rw [<-e];exact(List.rel_of_pairwise_cons h.ne hm').symm];omega
  .rw [if_neg e];have:=Dis.rng k (l:=l) ⟨h.ne.tail,λm hm=>h.co m (List.mem_cons_of_mem _ hm)⟩;omega
def SE{a b:List aj}(p:a.Perm b)(k:List Int):cf a k=cf b k:=by
 induction p with
 | nil=>rfl
 | cons x _ ih=>rw [aX,aX,ih]
 | swap x y l=>rw [aX,aX,aX,aX];omega
 | trans _ _ h1 h2=>rw [h1,h2]
def adG{a b c:List Int}(h1:eO a b<=0)(h2:eO b c<=0):eO a c<=0:=by
 by_cases e:eO b c=0
 .rw [<-iM.1 e];exact h1
 .exact Int.le_of_lt (sG (x:=⟨0,a⟩) (y:=⟨0,b⟩) (z:=⟨0,c⟩) h1 (by dsimp only;omega))
def Dis.nf{l:List aj}(h:Dis l):(nf l).Perm l/\Nf (nf l):=by
 have p:(l.mergeSort λa b=>decide (eO a.atoms b.atoms<=0)).Perm l:=List.mergeSort_perm l _;have g:=List.pairwise_mergeSort (le:=λa b:aj=>decide (eO a.atoms b.atoms<=0)) (λa b c h1 h2=>by
  simp only [decide_eq_true_eq]at*;exact adG h1 h2) (λa b=>by
  simp only [Bool.or_eq_true,decide_eq_true_eq];rw [lG b.atoms a.atoms];omega) l
 have d:=h.perm p.symm;have n:Nf (l.mergeSort λa b=>decide (eO a.atoms b.atoms<=0)):=by
  refine⟨(g.and d.ne).imp λ{a b} x=> ?_,d.co⟩;have x1:eO a.atoms b.atoms<=0:=by simpa using x.1
  have x2:eO a.atoms b.atoms≠0:=λe=>x.2 (iM.1 e)
  show eO _ _<0;omega
 have e:=Gu (l:=l) n λk=>by
  rw [SE p k];have:=h.rng k;omega
 rw [e];exact⟨p,n⟩
def EI{s t:Int->Int}{n:Int}(h:Ren s t n){p:List aj}(hp:Dis p)(ha:∀m∈p,AtN n m.atoms):(aZ s p).Perm (p.map (mapM s))/\Nf (aZ s p):=by
 refine Dis.nf ⟨?_,λm hm=> ?_⟩
 .rw [List.pairwise_map];refine hp.ne.imp_of_mem λ{a b} h1 h2 g e=>g ?_
  have e':dA (a.atoms.map s)=dA (b.atoms.map s):=e;rw [<-h.bk (ha a h1),e',h.bk (ha b h2)]
 .obtain⟨m',h1,rfl⟩:=List.mem_map.1 hm;exact hp.co m' h1
def ZO{s t:Int->Int}{n:Int}(h:Ren s t n){p:List aj}(hp:aN p)(ha:∀m∈p,AtN n m.atoms):aN (aZ s p):=by
 obtain⟨h1,h2,h3⟩:=dO.1 hp;obtain⟨g1,g2⟩:=EI h h1.dis ha;refine dO.2 ⟨g2,by rw [g1.length_eq,List.length_map];exact h2,λm hm=> ?_⟩;obtain⟨m',k1,rfl⟩:=List.mem_map.1 (g1.mem_iff.1 hm);refine⟨by show(dA _).length<=4;rw [u7,List.length_map];exact(h3 m' k1).1,AX _,λk hk=> ?_⟩;obtain⟨j,j1,rfl⟩:=List.mem_map.1 ((je _).mem_iff.1 hk);exact h.rng j ((ha m' k1).2 j j1).1 ((ha m' k1).2 j j1).2
def ZP{l:List aj}{n:Int}(hl:∀m∈l,AtN n m.atoms):∀m∈nf l,AtN n m.atoms:=λm hm=>by
 obtain⟨h1,h2⟩:=I4 l;obtain⟨m',g1,g2⟩:=h1.from h2 hm;rw [<-g2];exact hl m' g1
def air{s t:Int->Int}{n:Int}(h:Ren s t n){l:List aj}(hl:∀m∈l,AtN n m.atoms):nf (l.map (mapM s))=aZ s (nf l):=
 adF h hl (ZP hl) λk=>by rw [(I4 l).2];omega
def AtN.aok{n:Int}(hn:n<=200){l:List Int}(h:AtN n l):aok l:=⟨h.1,λk hk=>by have:=h.2 k hk;omega⟩
def adH{s t:Int->Int}{n:Int}(h:Ren s t n)(hn:n<=200){p:List aj}(hp:Nf p)(ha:∀m∈p,AtN n m.atoms):aN (aZ s p)↔aN p:=by
 refine⟨λg=> ?_,λg=>ZO h g ha⟩;obtain⟨h1,h2,h3⟩:=dO.1 g;obtain⟨g1,_⟩:=EI h hp.dis ha;refine dO.2 ⟨hp,by rw [g1.length_eq,List.length_map]at h2;exact h2,λm hm=>⟨?_,(ha m hm).aok hn⟩⟩;have:=(h3 _ (g1.mem_iff.2 (List.mem_map.2 ⟨m,hm,rfl⟩))).1;have e:(mapM s m).atoms.length=m.atoms.length:=by show(dA _).length=_;rw [u7,List.length_map]
 omega
def K7{s t:Int->Int}{n:Int}(h:Ren s t n)(hn:n<=200){l:List aj}(hl:∀m∈l,AtN n m.atoms):jZ (l.map (mapM s))=((jZ l).1,aZ s (jZ l).2):=by
 unfold jZ;rw [air h hl];have e:=adH h hn (I4 l).1 (ZP hl);by_cases c:aN (nf l)
 .rw [aP c,aP (e.2 c)];rfl
 .rw [bL c,bL (λg=>c (e.1 g))];show(false,[])=(false,aZ s []);have:aZ s []=[]:=vg ⟨List.Pairwise.nil,λm hm=>absurd hm (by simp)⟩;rw [this]
def SF{a b:List aj}(p:a.Perm b):nf a=nf b:=KQ λk=>by rw [SE p]
def GJ{a b:List aj}(p:a.Perm b):jZ a=jZ b:=by unfold jZ;rw [SF p]
def RP(n:Int)(p:List aj):Prop:=aN p/\∀m∈p,AtN n m.atoms
def RP.perm{s t:Int->Int}{n:Int}(h:Ren s t n){p:List aj}(hp:RP n p):(aZ s p).Perm (p.map (mapM s)):=(EI h hp.1.nf.dis hp.2).1
def RP.ok{s t:Int->Int}{n:Int}(h:Ren s t n){p:List aj}(hp:RP n p):aN (aZ s p):=ZO h hp.1 hp.2
def K8{s t:Int->Int}{n:Int}(h:Ren s t n)(hn:n<=200){a b:List aj}(ha:RP n a)(hb:RP n b):kN (aZ s a) (aZ s b)=((kN a b).1,aZ s (kN a b).2):=by
 unfold kN;rw [aP (ha.ok h),aP (hb.ok h),aP ha.1,aP hb.1];show jZ _=_;rw [GJ ((ha.perm h).append (hb.perm h)),<-List.map_append,K7 h hn λm hm=> ?_]
 .rfl
 .rcases List.mem_append.1 hm with g | g
  .exact ha.2 m g
  .exact hb.2 m g
def ZQ(s:Int->Int)(m k:aj):mulM (mapM s m) (mapM s k)=mapM s (mulM m k):=by
 show aj.mk _ (dA (dA (m.atoms.map s)++dA (k.atoms.map s)))=aj.mk _ (dA ((dA (m.atoms++k.atoms)).map s));rw [sJ ((je _).append (je _)),<-List.map_append,sJ ((je (m.atoms++k.atoms)).map s)];rfl
def UQ(s:Int->Int)(a b:List aj):prods (a.map (mapM s)) (b.map (mapM s))=(prods a b).map (mapM s):=by
 unfold prods;rw [List.flatMap_map,List.map_flatMap]
 congr 1;funext m
 rw [List.map_map,List.map_map]
 congr 1;funext k
 exact ZQ s m k
def Qb{a a' b b':List aj}(h1:a.Perm a')(h2:b.Perm b'):(prods a b).Perm (prods a' b'):=by
 unfold prods;refine(h1.flatMap_right _).trans ?_
 clear h1
 induction a' with
 | nil=>exact List.Perm.refl _
 | cons m l ih=>rw [List.flatMap_cons,List.flatMap_cons];exact(h2.map _).append ih
def AtN.mul{n:Int}{m k:aj}(h1:AtN n m.atoms)(h2:AtN n k.atoms):AtN n (mulM m k).atoms:=⟨AX _,λj hj=>by
 rcases List.mem_append.1 ((je _).mem_iff.1 hj)with g | g
 .exact h1.2 j g
 .exact h2.2 j g⟩
def K9{n:Int}{a b:List aj}(ha:∀m∈a,AtN n m.atoms)(hb:∀m∈b,AtN n m.atoms):∀m∈prods a b,AtN n m.atoms:=λm hm=>by
 obtain⟨x,hx,g⟩:=List.mem_flatMap.1 hm;obtain⟨y,hy,rfl⟩:=List.mem_map.1 g;exact(ha x hx).mul (hb y hy)
def La{s t:Int->Int}{n:Int}(h:Ren s t n)(hn:n<=200){a b:List aj}(ha:RP n a)(hb:RP n b):j6 (aZ s a) (aZ s b)=((j6 a b).1,aZ s (j6 a b).2):=by
 unfold j6;rw [aP (ha.ok h),aP (hb.ok h),aP ha.1,aP hb.1];show jZ _=_;rw [GJ (Qb (ha.perm h) (hb.perm h)),UQ,K7 h hn (K9 ha.2 hb.2)];rfl
def ZR{s t:Int->Int}{n:Int}(h:Ren s t n){p:List aj}(hp:∀m∈p,AtN n m.atoms):(p.map (mapM s)).map (mapM t)=p:=by
 rw [List.map_map]
 conv=>rhs;rw [<-List.map_id p]
 refine List.map_congr_left λm hm=> ?_
 show aj.mk m.bD (dA ((dA (m.atoms.map s)).map t))=m;rw [h.bk (hp m hm)]
def zm{s t:Int->Int}{n:Int}(h:Ren s t n){p q:List aj}(hp:RP n p)(hq:RP n q)(e:aZ s p=aZ s q):p=q:=by
 have g:(p.map (mapM s)).Perm (q.map (mapM s)):=(hp.perm h).symm.trans (e▸hq.perm h);have:=SF (g.map (mapM t))
 rwa [ZR h hp.2,ZR h hq.2,vg hp.1.nf,vg hq.1.nf]at this
def qd(s:Int->Int):aZ s []=[]:=vg ⟨List.Pairwise.nil,λm hm=>absurd hm (by simp)⟩
def RP.nil(n:Int):RP n []:=⟨bT,λm hm=>absurd hm (by simp)⟩
def UR:dA []=[]:=EH List.Pairwise.nil
def RP.const(n k:Int):RP n (aR k):=by
 refine⟨bO k,λm hm=> ?_⟩;unfold aR at hm;split at hm
 .rw [List.mem_singleton]at hm;subst hm;exact⟨List.Pairwise.nil,λj hj=>absurd hj (by simp)⟩
 .exact absurd hm (by simp)
def vD{s:Int->Int}(k:Int):aZ s (aR k)=aR k:=by
 have e:(aR k).map (mapM s)=aR k:=by
  unfold aR;split
  .show [aj.mk k (dA [])]=_;rw [UR]
  .rfl
 unfold aZ;rw [e,vg (bO k).nf]
def RP.atom{n j:Int}(h1:0<=j)(h2:j<n):RP n (dS j):=by
 refine⟨jd j,λm hm=> ?_⟩;unfold dS at hm;split at hm
 .rw [List.mem_singleton]at hm;subst hm;exact⟨List.pairwise_singleton _ _,λi hi=>by rw [List.mem_singleton]at hi;subst hi;exact⟨h1,h2⟩⟩
 .exact absurd hm (by simp)
def ZT{s t:Int->Int}{n:Int}(h:Ren s t n)(hn:n<=200){j:Int}(h1:0<=j)(h2:j<n):aZ s (dS j)=dS (s j):=by
 have r:=h.rng j h1 h2;have e:(dS j).map (mapM s)=dS (s j):=by
  unfold dS;rw [if_pos ah,if_pos ah];show [aj.mk 1 (dA [s j])]=_;rw [EH (List.pairwise_singleton _ _)]
 unfold aZ;rw [e,vg (jd _).nf]
def adI{s t:Int->Int}{n:Int}(h:Ren s t n){p:List aj}(hp:RP n p):(aZ s p).length=p.length:=by rw [(hp.perm h).length_eq,List.length_map]
def adJ{s t:Int->Int}{n:Int}(h:Ren s t n){m:aj}(hp:RP n [m]):aZ s [m]=[mapM s m]:=List.perm_singleton.1 (hp.perm h)
theorem Lb{s t:Int->Int}{n:Int}(h:Ren s t n){p:List aj}(hp:RP n p):dG (aZ s p)=dG p:=by
 have l:=adI h hp;unfold dG;rw [aP (hp.ok h),aP hp.1,l]
 match p,hp,l with
 | [],_,_=>rfl
 | [m],hp,_=>
  rw [adJ h hp];have e:(mapM s m).atoms.length=m.atoms.length:=by show(dA _).length=_;rw [u7,List.length_map]
  have e2:(mapM s m).bD=m.bD:=rfl;have z:((mapM s m).atoms=[])↔(m.atoms=[]):=by rw [<-List.length_eq_zero_iff,e,List.length_eq_zero_iff]
  simp [e2,z]
 | a::b::r,_,_=>simp
def RP.sum{n:Int}{l:List aj}(hl:∀m∈l,AtN n m.atoms):RP n (jZ l).2:=by
 unfold jZ;by_cases c:aN (nf l)
 .rw [aP c];exact⟨c,ZP hl⟩
 .rw [bL c];exact RP.nil n
def RP.add{n:Int}{a b:List aj}(ha:RP n a)(hb:RP n b):RP n (kN a b).2:=by
 unfold kN;rw [aP ha.1,aP hb.1];exact RP.sum λm hm=>by
  rcases List.mem_append.1 hm with g | g
  .exact ha.2 m g
  .exact hb.2 m g
def RP.mul{n:Int}{a b:List aj}(ha:RP n a)(hb:RP n b):RP n (j6 a b).2:=by
 unfold j6;rw [aP ha.1,aP hb.1];exact RP.sum (K9 ha.2 hb.2)
def RP.scale{n:Int}{a:List aj}(ha:RP n a)(k:Int):RP n (gT a k):=by
 unfold gT;split
 .exact ha.mul (RP.const n k)
 .exact RP.nil n
def Qc{s t:Int->Int}{n:Int}(h:Ren s t n)(hn:n<=200){a:List aj}(ha:RP n a)(k:Int):gT (aZ s a) k=aZ s (gT a k):=by
 unfold gT;rw [aP (ha.ok h),aP ha.1];by_cases c:inB k 0 65535=true
 .rw [c];show(j6 (aZ s a) (aR k)).2=aZ s (j6 a (aR k)).2;rw [<-vD (s:=s) k,La h hn ha (RP.const n k),vD]
 .rw [Bool.not_eq_true]at c;rw [c];exact(qd s).symm
def Lc{s t:Int->Int}{n:Int}(h:Ren s t n){x y:List aj}(hx:RP n x)(hy:RP n y):fJ (aZ s x) (aZ s y)=0↔fJ x y=0:=by
 rw [ig,ig];exact⟨λe=>zm h hx hy e,λe=>by rw [e]⟩
def ZU{s t:Int->Int}{n:Int}(h:Ren s t n){x y:List aj}(hx:RP n x)(hy:RP n y)(op:Int):vH op (aZ s x) (aZ s y)=(aZ s (vH op x y).1,(vH op x y).2):=by
 unfold vH;rw [Lb h hx,Lb h hy];simp only [Lc h hx hy]
 repeat' split
 all_goals simp only [vD,qd]
def RP.bit{n:Int}{x y:List aj}(hx:RP n x)(hy:RP n y)(op:Int):RP n (vH op x y).1:=by
 unfold vH
 repeat' split
 all_goals first | exact hx | exact hy | exact RP.nil n | exact RP.const n _
def UU{s t:Int->Int}{n:Int}(h:Ren s t n)(hn:n<=200){x y:List aj}(hx:RP n x)(hy:RP n y)(op:Int):fA op (aZ s x) (aZ s y)=(aZ s (fA op x y).1,(fA op x y).2):=by
 unfold fA;split; · rw [K8 h hn hx hy]
 split; · rw [Qc h hn hy,K8 h hn hx (hy.scale _)]
 split; · rw [La h hn hx hy]
 exact ZU h hx hy op
def RP.simp{n:Int}{x y:List aj}(hx:RP n x)(hy:RP n y)(op:Int):RP n (fA op x y).1:=by
 unfold fA;split; · exact hx.add hy
 split; · exact hx.add (hy.scale _)
 split; · exact hx.mul hy
 exact hx.bit hy op
def AY{n:Int}{p:List aj}:RP n p↔aN p/\bq p n:=by
 constructor
 .rintro⟨h1,h2⟩;exact⟨h1,bP.2 λm hm k hk=>((h2 m hm).2 k hk).2⟩
 .rintro⟨h1,h2⟩;refine⟨h1,λm hm=>⟨(h1.aok hm).2.1,λk hk=>⟨((h1.aok hm).2.2 k hk).1,bP.1 h2 m hm k hk⟩⟩⟩
def kC{s s':Int->Int}{n:Int}(e:∀j,0<=j->j<n->s' j=s j){p:List aj}(hp:RP n p):aZ s' p=aZ s p:=by
 unfold aZ
 congr 1
 refine List.map_congr_left λm hm=> ?_
 unfold mapM
 congr 2
 exact List.map_congr_left λk hk=>e k ((hp.2 m hm).2 k hk).1 ((hp.2 m hm).2 k hk).2
def RP.le{n m:Int}{p:List aj}(h:RP n p)(hn:n<=m):RP m p:=⟨h.1,λa ha=>⟨(h.2 a ha).1,λk hk=>by have:=(h.2 a ha).2 k hk;omega⟩⟩
noncomputable def zn (s:Int->Int) (a:Atom):Atom:=
 if a.kind=4/\a.k≠2/\0<fJ (aZ s a.x) (aZ s a.y)then⟨a.kind,a.k,aZ s a.y,aZ s a.x⟩else⟨a.kind,a.k,aZ s a.x,aZ s a.y⟩
def Ld(a:Atom):Prop:=a.kind=4->a.k≠2->fJ a.x a.y<=0
def ZV{s t:Int->Int}{n:Int}(h:Ren s t n){a b:Atom}(ax:RP n a.x)(ay:RP n a.y)(bx:RP n b.x)(by_:RP n b.y)(oa:Ld a)(ob:Ld b)(e:zn s a=zn s b):a=b:=by
 have key:a.kind=b.kind->a.k=b.k->(a.kind=4/\a.k≠2)->aZ s a.x=aZ s b.y->aZ s a.y=aZ s b.x->a=b:=λe1 e2 c e3 e4=>by
  have e3:=zm h ax by_ e3;have e4:=zm h ay bx e4;have o1:=oa c.1 c.2;have o2:=ob (e1▸c.1) (e2▸c.2);rw [<-e3,<-e4,AP]at o2;have:a.x=a.y:=ig.1 ah;cases a;cases b;dsimp only at*;subst e1;subst e2;subst e3;subst e4;subst this;rfl
 have same:a.kind=b.kind->a.k=b.k->aZ s a.x=aZ s b.x->aZ s a.y=aZ s b.y->a=b:=λe1 e2 e3 e4=>by
  have e3:=zm h ax bx e3;have e4:=zm h ay by_ e4;cases a;cases b;dsimp only at*;subst e1;subst e2;subst e3;subst e4;rfl
 unfold zn at e;by_cases c:a.kind=4/\a.k≠2/\0<fJ (aZ s a.x) (aZ s a.y)
 .rw [if_pos c]at e;by_cases d:b.kind=4/\b.k≠2/\0<fJ (aZ s b.x) (aZ s b.y)
  .rw [if_pos d]at e;injection e with e1 e2 e3 e4;exact same e1 e2 e4 e3
  .rw [if_neg d]at e;injection e with e1 e2 e3 e4;exact key e1 e2 ⟨c.1,c.2.1⟩ e4 e3
 .rw [if_neg c]at e;by_cases d:b.kind=4/\b.k≠2/\0<fJ (aZ s b.x) (aZ s b.y)
  .rw [if_pos d]at e;injection e with e1 e2 e3 e4;exact key e1 e2 ⟨e1▸d.1,e2▸d.2.1⟩ e3 e4
  .rw [if_neg d]at e;injection e with e1 e2 e3 e4;exact same e1 e2 e3 e4
def EJ{s s':Int->Int}{n:Int}(e:∀j,0<=j->j<n->s' j=s j){a:Atom}(ax:RP n a.x)(ay:RP n a.y):zn s' a=zn s a:=by
 unfold zn;rw [kC e ax,kC e ay]
def Le{a:Atom}{n:Int}(h:fU a n):RP n a.x/\RP n a.y:=by
 unfold fU at h;split at h
 .exact⟨AY.2 ⟨h.2.1,h.2.2.2.1⟩,AY.2 ⟨h.2.2.1,h.2.2.2.2⟩⟩
 .rw [h.1.1,h.1.2];exact⟨RP.nil n,RP.nil n⟩
def SG{α:Type}[Inhabited α](l:List α)(a:α)(i:Int)(h:0<=i):((l++ [a]).getD (i).toNat default)=if i=l.length then a else((l).getD (i).toNat default):=by
 by_cases c:i=l.length
 .rw [if_pos c,c,List.getD_eq_getElem?_getD];simp
 .rw [if_neg c,List.getD_eq_getElem?_getD,List.getD_eq_getElem?_getD];by_cases d:i.toNat<l.length
  .rw [List.getElem?_append_left d]
  .rw [List.getElem?_eq_none (by rw [List.length_append,List.length_singleton];omega),List.getElem?_eq_none ah]
structure TR(s t:Int->Int)(u T:List Atom):Prop where
 r:Ren s t u.length
 tok:aH u
 im:∀i:Int,0<=i->i<u.length->s i<T.length/\((T).getD (s i).toNat default)=zn s ((u).getD (i).toNat default)
 ord:∀i:Int,0<=i->i<u.length->Ld ((u).getD (i).toNat default)
theorem TR.rp{s t:Int->Int}{u T:List Atom}(h:TR s t u T){i:Int}(h1:0<=i)(h2:i<u.length):RP i ((u).getD (i).toNat default).x/\RP i ((u).getD (i).toNat default).y:=Le ((iq.1 h.tok).1 i h1 h2).1
def TR.snoc{s t:Int->Int}{u T:List Atom}(h:TR s t u T)(hT:aH T){a:Atom}(hu:aH (u++ [a]))(hn:∀i:Int,0<=i->i<u.length->((u).getD (i).toNat default)≠a)(ha:fU a u.length)(oa:Ld a){k:Int}(k0:0<=k)(k1:k<T.length)(k2:((T).getD (k).toNat default)=zn s a):
  ∃s' t':Int->Int,TR s' t' (u++ [a]) T/\(∀j:Int,0<=j->j<u.length->s' j=s j)/\s' u.length=k:=by
 have hT2:=(iq.1 hT).2;obtain⟨ax,ay⟩:=Le ha;have ag:∀j:Int,0<=j->j< (u.length:Int)->(λj:Int=>if j=u.length then k else s j) j=s j:=λj h1 h2=>if_neg ah
 have nk:∀j:Int,0<=j->j< (u.length:Int)->s j≠k:=λj h1 h2 e=>by
  have g:=(h.im j h1 h2).2;rw [e,k2]at g;have:=h.rp h1 h2;exact hn j h1 h2 (ZV h.r (this.1.le ah) (this.2.le ah) ax ay (h.ord j h1 h2) oa g.symm)
 have ln:((u++ [a]).length:Int)=u.length+1:=by rw [List.length_append,List.length_singleton];omega
 refine⟨λj:Int=>if j=u.length then k else s j,λv:Int=>if v=k then u.length else t v,⟨⟨λj h1 h2=> ?_,λj h1 h2=> ?_⟩,hu,λj h1 h2=> ?_,λj h1 h2=> ?_⟩,ag,if_pos rfl⟩
 .split
  .omega
  .exact h.r.rng j h1 ah
 .by_cases c:j=u.length
  .rw [if_pos c,if_pos rfl,c]
  .rw [if_neg c,if_neg (nk j h1 ah)];exact h.r.back j h1 ah
 .rw [SG _ _ _ h1];by_cases c:j=u.length
  .rw [if_pos c,if_pos c,EJ (s:=s) ag ax ay];exact⟨k1,k2⟩
  .rw [if_neg c,if_neg c];have:=h.rp h1 (show j<u.length by omega);rw [EJ (s:=s) ag (this.1.le ah) (this.2.le ah)];exact h.im j h1 ah
 .rw [SG _ _ _ h1];split
  .exact oa
  .exact h.ord j h1 ah
def adK{T:List Atom}(hT:aH T){i j:Int}(i0:0<=i)(i1:i<T.length)(j0:0<=j)(j1:j<T.length)(e:((T).getD (i).toNat default)=((T).getD (j).toNat default)):i=j:=by
 have h:=(iq.1 hT).1;rcases Int.lt_trichotomy i j with c | c | c
 .exact absurd e.symm ((h j j0 j1).2 i i0 c)
 .exact c
 .exact absurd e ((h i i0 i1).2 j j0 c)
structure aqp(s:Int->Int)(s' t':Int->Int)(u u' T:List Atom)(r k:Int):Prop where
 tr:TR s' t' u' T
 ag:∀j:Int,0<=j->j<u.length->s' j=s j
 r0:0<=r
 r1:r<u'.length
 sr:s' r=k
 le:u.length<=u'.length
theorem TR.put{s t:Int->Int}{u T:List Atom}(h:TR s t u T)(hT:aH T){a:Atom}(ha:fU a u.length)(oa:Ld a)(hl:u.length<200){k:Int}(k0:0<=k)(k1:k<T.length)(k2:((T).getD (k).toNat default)=zn s a):
  ∃s' t':Int->Int,aqp s s' t' u (bA u a).1 T (bA u a).2 k:=by
 have ok:=zf (a:=a) h.tok hl;rcases iH u a with⟨f1,f2⟩ | ⟨f1,f2,f3,_⟩
 .have e:bA u a=(u++ [a],(u.length:Int)):=by
   unfold bA;rw [if_neg ah,if_neg];rintro(g | g)
   .exact g ha
   .omega
  rw [e]at ok ⊢;obtain⟨s',t',g1,g2,g3⟩:=h.snoc hT ok.1 (λi i0 i1 g=>f2 i i0 i1 g.symm) ha oa k0 k1 k2;exact⟨s',t',g1,g2,by dsimp only;omega,by dsimp only;rw [List.length_append,List.length_singleton];omega,g3,by dsimp only;rw [List.length_append];omega⟩
 .have e:bA u a=(u,qC u a):=by unfold bA;rw [if_pos f1]
  rw [e];have g:=h.im _ f1 f2;refine⟨s,t,h,λ_ _ _=>rfl,f1,f2,?_,Nat.le_refl _⟩;have f3:a=((u).getD (qC u a).toNat default):=f3;refine adK hT (h.r.rng _ f1 f2).1 g.1 k0 k1 ?_;rw [g.2,<-f3,k2]
noncomputable def atD (op:Int) (x y:List aj):Atom:=if op≠2/\0<fJ x y then⟨4,op,y,x⟩else⟨4,op,x,y⟩
def Jg(t:List Atom)(op:Int)(x y:List aj):tDo t op x y=if(fA op x y).2 then(t,(fA op x y).1)else if(bA t (atD op x y)).2<0 then([],[])else((bA t (atD op x y)).1,dS (bA t (atD op x y)).2):=by
 unfold tDo atD;split
 .rfl
 .split<;>rfl
def adL(op:Int)(x y:List aj):Ld (atD op x y):=by
 unfold atD Ld;split
 .rename_i c;intro _ _;dsimp only;rw [AP];omega
 .rename_i c;intro _ g;dsimp only at g ⊢;by_cases d:0<fJ x y
  .exact absurd ⟨g,d⟩ c
  .omega
def adM{s t:Int->Int}{n:Int}(h:Ren s t n){x y:List aj}(hx:RP n x)(hy:RP n y)(op:Int):zn s (atD op x y)=atD op (aZ s x) (aZ s y):=by
 have z:=Lc h hx hy;have f:=AP (aZ s x) (aZ s y);have eq:fJ (aZ s x) (aZ s y)=0->aZ s x=aZ s y:=ig.1;unfold atD zn;by_cases c:op≠2/\0<fJ x y
 .rw [if_pos c];dsimp only;by_cases d:0<fJ (aZ s x) (aZ s y)
  .rw [if_neg ah,if_pos ⟨c.1,d⟩]
  .rw [if_pos ⟨rfl,c.1,ah⟩,if_neg ah]
 .rw [if_neg c];dsimp only;by_cases d:op≠2/\0<fJ (aZ s x) (aZ s y)
  .rw [if_pos ⟨rfl,d.1,d.2⟩,if_pos d]
  .rw [if_neg ah,if_neg d]
noncomputable def Lf (s:Int->Int) (e:Ev):Ev:=⟨e.kind,e.at_,aZ s e.x,aZ s e.y,e.regs.map (aZ s)⟩
def RPs(n:Int)(l:List (List aj)):Prop:=∀p∈l,RP n p
def RPE(n:Int)(l:List Ev):Prop:=∀e∈l,RP n e.x/\RP n e.y/\RPs n e.regs
def RPs.le{n m:Int}{l:List (List aj)}(h:RPs n l)(hn:n<=m):RPs m l:=λp hp=>(h p hp).le hn
def RPE.le{n m:Int}{l:List Ev}(h:RPE n l)(hn:n<=m):RPE m l:=λe he=>⟨(h e he).1.le hn,(h e he).2.1.le hn,(h e he).2.2.le hn⟩
def xY{s s':Int->Int}{n:Int}(e:∀j,0<=j->j<n->s' j=s j){l:List (List aj)}(h:RPs n l):l.map (aZ s')=l.map (aZ s):=List.map_congr_left λp hp=>kC e (h p hp)
def Lg{s s':Int->Int}{n:Int}(e:∀j,0<=j->j<n->s' j=s j){l:List Ev}(h:RPE n l):l.map (Lf s')=l.map (Lf s):=List.map_congr_left λv hv=>by
 unfold Lf;rw [kC e (h v hv).1,kC e (h v hv).2.1,xY e (h v hv).2.2]
def Qd(s:Int->Int)(l:List (List aj))(i:Int):((l.map (aZ s)).getD (i).toNat default)=aZ s ((l).getD (i).toNat default):=by
 rw [List.getD_eq_getElem?_getD,List.getD_eq_getElem?_getD,List.getElem?_map];cases l[i.toNat]? with
 | none=>exact(qd s).symm
 | some p=>rfl
def RPs.at{n:Int}{l:List (List aj)}(h:RPs n l)(i:Int):RP n ((l).getD (i).toNat default):=AY.2 (xR (λp hp=>AY.1 (h p hp)) i)
def adN{op n:Int}{x y:List aj}(hop:1<=op/\op<=5)(hx:RP n x)(hy:RP n y):fU (atD op x y) n:=by
 have hx:=AY.1 hx;have hy:=AY.1 hy;unfold atD;split
 .unfold fU;rw [if_pos rfl];exact⟨hop,hy.1,hx.1,hy.2,hx.2⟩
 .unfold fU;rw [if_pos rfl];exact⟨hop,hx.1,hy.1,hx.2,hy.2⟩
def ais{t:List Atom}{op:Int}{x y:List aj}(h:tOk t op x y=true)(c:¬(fA op x y).2=true):0<=(bA t (atD op x y)).2:=by
 unfold tOk at h;unfold atD;by_cases c2:op≠2/\0<fJ x y
 .rw [if_pos c2,Bool.or_eq_true,Bool.not_eq_true',decide_eq_false_iff_not]at h;rw [if_pos c2];have:=h.resolve_left c;omega
 .rw [if_neg c2,Bool.or_eq_true,Bool.not_eq_true',decide_eq_false_iff_not]at h;rw [if_neg c2];have:=h.resolve_left c;omega
structure St1(s s' t':Int->Int)(u u' T:List Atom)(v V:List aj):Prop where
 tr:TR s' t' u' T
 ag:∀j:Int,0<=j->j<u.length->s' j=s j
 eq:V=aZ s' v
 rp:RP u'.length v
def TR.n200{s t:Int->Int}{u T:List Atom}(h:TR s t u T):(u.length:Int)<=200:=by have:=(iq.1 h.tok).2;omega
def TR.amE{s t:Int->Int}{u T:List Atom}(h:TR s t u T)(hT:aH T){a A:Atom}(ha:fU a u.length)(oa:Ld a)(hl:u.length<200)(k0:0<=(bA T A).2)(hc:(bA T A).1=T)(e:A=zn s a):
  ∃s' t':Int->Int,St1 s s' t' u (bA u a).1 T (dS (bA u a).2) (dS (bA T A).2)/\0<=(bA u a).2:=by
 obtain⟨k1,k2⟩:=qb k0;rw [hc]at k1 k2;obtain⟨s',t',P⟩:=h.put hT ha oa hl k0 k1 (by rw [k2,e]);exact⟨s',t',⟨P.tr,P.ag,by rw [ZT P.tr.r P.tr.n200 P.r0 P.r1,P.sr],RP.atom P.r0 P.r1⟩,P.r0⟩
def TR.do1{s t:Int->Int}{u T:List Atom}(h:TR s t u T)(hT:aH T){op:Int}{x y:List aj}(hop:1<=op/\op<=5)(hx:RP u.length x)(hy:RP u.length y)(hl:u.length<200)(ok:tOk T op (aZ s x) (aZ s y)=true)(hc:(tDo T op (aZ s x) (aZ s y)).1=T):
  ∃s' t':Int->Int,St1 s s' t' u (tDo u op x y).1 T (tDo u op x y).2 (tDo T op (aZ s x) (aZ s y)).2:=by
 have e:=UU h.r h.n200 hx hy op;by_cases c:(fA op x y).2=true
 .have e1:tDo u op x y=(u,(fA op x y).1):=by rw [Jg,if_pos c]
  have e2:tDo T op (aZ s x) (aZ s y)=(T,aZ s (fA op x y).1):=by rw [Jg,e,if_pos c]
  rw [e1,e2];exact⟨s,t,h,λ_ _ _=>rfl,rfl,hx.simp hy op⟩
 .have k0:=ais ok (by rw [e];exact c);have e2:tDo T op (aZ s x) (aZ s y)=((bA T (atD op (aZ s x) (aZ s y))).1,dS (bA T (atD op (aZ s x) (aZ s y))).2):=by rw [Jg,e,if_neg c,if_neg ah]
  rw [e2]at hc ⊢;obtain⟨s',t',P,r0⟩:=h.amE hT (adN hop hx hy) (adL op x y) hl k0 hc (adM h.r hx hy op).symm;have e1:tDo u op x y=((bA u (atD op x y)).1,dS (bA u (atD op x y)).2):=by rw [Jg,if_neg c,if_neg ah]
  rw [e1];exact⟨s',t',P⟩
def Qe(s:Int->Int){a:Atom}(h:a.kind≠4)(hx:a.x=[])(hy:a.y=[]):zn s a=a:=by
 unfold zn;rw [if_neg (λg=>h g.1),hx,hy,qd];cases a;dsimp only at*;rw [hx,hy]
structure LS(s t:Int->Int)(a A:SS):Prop where
 tr:TR s t a.t A.t
 regs:A.regs=a.regs.map (aZ s)
 rr:RPs a.t.length a.regs
 vals:A.vals=a.vals.map (aZ s)
 rv:RPs a.t.length a.vals
 ld:A.ld=a.ld
 inn:A.inn=a.inn
 evs:A.evs=a.evs.map (Lf s)
 re:RPE a.t.length a.evs
def LS.x{s t:Int->Int}{a A:SS}(h:LS s t a A)(o:IOp):xOf A o=aZ s (xOf a o)/\RP a.t.length (xOf a o):=by
 unfold xOf;split
 .rw [h.vals,Qd];exact⟨rfl,h.rv.at _⟩
 .exact⟨(qd s).symm,RP.nil _⟩
def LS.y{s t:Int->Int}{a A:SS}(h:LS s t a A)(o:IOp):yOf A o=aZ s (yOf a o)/\RP a.t.length (yOf a o):=by
 unfold yOf;split
 .rw [h.vals,Qd];exact⟨rfl,h.rv.at _⟩
 .exact⟨(qd s).symm,RP.nil _⟩
def LS.val{s t:Int->Int}{a A:SS}(h:LS s t a A)(hT:aH A.t){n:Int}{i:Nat}(si:SI n i a)(hn:n+i<200)(hi:i<200){o:IOp}(hk:o.kind=3->1<=o.k/\o.k<=5)(sA:SOK A o)(hc:nT A o=A.t):
  ∃s' t':Int->Int,St1 s s' t' a.t (nT a o) A.t (nV a o) (nV A o):=by
 have hl:=si.tl;have hl:a.t.length<200:=by omega
 have ea:aOf A o=aOf a o:=by unfold aOf;rw [h.ld,h.inn]
 have id:∀v V,V=aZ s v->RP a.t.length v->nT a o=a.t->nV a o=v->nV A o=V->∃s' t':Int->Int,St1 s s' t' a.t (nT a o) A.t (nV a o) (nV A o):=λv V e r e1 e2 e3=>by
  rw [e1,e2,e3];exact⟨s,t,h.tr,λ_ _ _=>rfl,e,r⟩
 by_cases c3:o.kind=3
 .have e1:∀w:SS,nT w o=(tDo w.t o.k (xOf w o) (yOf w o)).1:=λw=>by unfold nT;rw [if_pos c3]
  have e2:∀w:SS,nV w o=(tDo w.t o.k (xOf w o) (yOf w o)).2:=λw=>by unfold nV;rw [if_neg ah,if_neg ah,if_pos c3]
  have ok:=(sA.d c3).ok;rw [e1]at hc;rw [(h.x o).1,(h.y o).1]at ok hc;rw [e1,e2,e2,(h.x o).1,(h.y o).1];exact h.tr.do1 hT (hk c3) (h.x o).2 (h.y o).2 hl ok hc
 .by_cases c4:o.kind=4\/o.kind=6
  .have e1:∀w:SS,nT w o=(bA w.t (aOf w o)).1:=λw=>by unfold nT;rw [if_neg c3,if_pos c4]
   have e2:∀w:SS,nV w o=dS (bA w.t (aOf w o)).2:=λw=>by unfold nV;rw [if_neg ah,if_neg ah,if_neg c3,if_pos c4]
   have k0:=sA.p c4;rw [e1]at hc;have f1:(aOf a o).kind≠4/\(aOf a o).x=[]/\(aOf a o).y=[]:=by unfold aOf;split<;>exact⟨by dsimp only;decide,rfl,rfl⟩
   obtain⟨s',t',P,_⟩:=h.tr.amE hT (Sj si hi o _) (λg=>absurd g f1.1) hl k0 hc (by rw [ea,Qe s f1.1 f1.2.1 f1.2.2]);rw [e1,e2,e2];exact⟨s',t',P⟩
  .have eT:nT a o=a.t:=by unfold nT;rw [if_neg c3,if_neg c4]
   by_cases c1:o.kind=1
   .exact id _ _ (vD o.k).symm (RP.const _ _) eT (by unfold nV;rw [if_pos c1]) (by unfold nV;rw [if_pos c1])
   .by_cases c2:o.kind=2
    .exact id _ _ rfl (h.rr.at o.k) eT (by unfold nV;rw [if_neg c1,if_pos c2]) (by unfold nV;rw [if_neg c1,if_pos c2,h.regs,Qd])
    .exact id _ _ (qd s).symm (RP.nil _) eT (by unfold nV;rw [if_neg c1,if_neg c2,if_neg c3,if_neg c4]) (by unfold nV;rw [if_neg c1,if_neg c2,if_neg c3,if_neg c4])
def LS.step{s t:Int->Int}{a A:SS}(h:LS s t a A)(hT:aH A.t){n:Int}{i:Nat}(si:SI n i a)(hn:n+i<200)(hi:i<200){o:IOp}(hk:o.kind=3->1<=o.k/\o.k<=5)(sA:SOK A o)(hc:(stp A o).t=A.t):
  ∃s' t':Int->Int,LS s' t' (stp a o) (stp A o)/\∀j:Int,0<=j->j<a.t.length->s' j=s j:=by
 have hc:nT A o=A.t:=hc;obtain⟨s',t',P⟩:=h.val hT si hn hi hk sA hc;have le:(a.t.length:Int)<=(nT a o).length:=by have:=jG (xS si hk hn hi).2.pre;exact Int.ofNat_le.2 this
 have ag:=P.ag;obtain⟨x1,x2⟩:=h.x o;obtain⟨y1,y2⟩:=h.y o;have x1':xOf A o=aZ s' (xOf a o):=by rw [x1,kC ag x2]
 have y1':yOf A o=aZ s' (yOf a o):=by rw [y1,kC ag y2]
 have r1':A.regs=a.regs.map (aZ s'):=by rw [h.regs,xY ag h.rr]
 refine⟨s',t',⟨?_,?_,?_,?_,?_,?_,?_,?_,?_⟩,ag⟩
 .show TR s' t' (nT a o) (nT A o);rw [hc];exact P.tr
 .show nR A o=(nR a o).map (aZ s');unfold nR;split
  .rw [List.map_set,<-r1',x1']
  .exact r1'
 .show RPs _ (nR a o);unfold nR;split
  .intro p hp;rcases List.mem_or_eq_of_mem_set hp with hp | rfl
   .exact(h.rr p hp).le le
   .exact x2.le le
  .exact h.rr.le le
 .show A.vals++ [nV A o]=(a.vals++ [nV a o]).map (aZ s');rw [List.map_append,h.vals,xY ag h.rv,P.eq];rfl
 .show RPs _ (a.vals++ [nV a o]);intro p hp;rw [List.mem_append,List.mem_singleton]at hp;rcases hp with hp | rfl
  .exact(h.rv p hp).le le
  .exact P.rp
 .show(if o.kind=4 then A.ld+1 else A.ld)=if o.kind=4 then a.ld+1 else a.ld;rw [h.ld]
 .show(if o.kind=6 then A.inn+1 else A.inn)=if o.kind=6 then a.inn+1 else a.inn;rw [h.inn]
 .show nE A o=(nE a o).map (Lf s');unfold nE;have e0:A.evs=a.evs.map (Lf s'):=by rw [h.evs,Lg ag h.re]
  split
  .rw [List.map_append,e0,x1',y1',r1']
   congr 1
   show [_]=[Lf s' _];unfold Lf;dsimp only;split<;>rfl
  .exact e0
 .show RPE _ (nE a o);unfold nE;split
  .intro e he;rw [List.mem_append,List.mem_singleton]at he;rcases he with he | rfl
   .exact h.re.le le e he
   .refine⟨x2.le le,y2.le le,?_⟩;dsimp only;split
    .exact h.rr.le le
    .exact λp hp=>absurd hp (by simp)
  .exact h.re.le le
def ZW{α:Type}{a b c:List α}(h:a<+:b)(g:b<+:c)(e:c=a):b=a:=by
 subst e;exact g.eq_of_length (Nat.le_antisymm (jG g) (jG h))
def LS.run{n N:Int}:∀(ops:List IOp) (i:Nat) (s t:Int->Int) (a A:SS),LS s t a A->SI n i a->SI N i A->(∀o∈ops,o.kind=3->1<=o.k/\o.k<=5)->n+i+ops.length<=200->N+i+ops.length<=200->i+ops.length<=200->(ops.foldl stp A).t=A.t->
  ∃s' t':Int->Int,LS s' t' (ops.foldl stp a) (ops.foldl stp A)/\∀j:Int,0<=j->j<a.t.length->s' j=s j
 | [],_,s,t,_,_,h,_,_,_,_,_,_,_=>⟨s,t,h,λ_ _ _=>rfl⟩
 | o::r,i,s,t,a,A,h,si,SI,hk,h1,h2,h3,hc=>by
  rw [List.length_cons]at h1 h2 h3;have ko:=hk o List.mem_cons_self;obtain⟨a1,a2⟩:=xS si ko ah ah;obtain⟨A1,A2⟩:=xS SI ko ah ah;have kr:∀o∈r,o.kind=3->1<=o.k/\o.k<=5:=λo ho=>hk o (List.mem_cons_of_mem _ ho)
  rw [List.foldl_cons]at hc;obtain⟨_,B2⟩:=qc r (i+1) (stp A o) A1 kr ah ah;have e1:(stp A o).t=A.t:=ZW A2.pre B2 hc;obtain⟨s1,t1,g1,g2⟩:=h.step SI.tok si ah ah ko A2 e1;obtain⟨s2,t2,g3,g4⟩:=LS.run r (i+1) s1 t1 _ _ g1 a1 A1 kr ah ah ah (by rw [hc,e1]);rw [List.foldl_cons,List.foldl_cons];exact⟨s2,t2,g3,λj j0 j1=>by rw [g4 j j0 (by have:=jG a2.pre;omega),g2 j j0 j1]⟩
structure YOK(n:Int)(y:Sym):Prop where
 e:RPE n y.events
 r:RPs n y.regs
 x:RP n y.x
 y:RP n y.y
def YOK.le{n m:Int}{y:Sym}(h:YOK n y)(hn:n<=m):YOK m y:=⟨h.e.le hn,h.r.le hn,h.x.le hn,h.y.le hn⟩
def TR.nil(T:List Atom):TR id id [] T:=by
 refine⟨⟨λk h1 h2=> ?_,λk h1 h2=> ?_⟩,vw,λk h1 h2=> ?_,λk h1 h2=> ?_⟩<;>exact absurd h2 (by simp;omega)
def ait{p1 f1}(U1:Y13 p1 f1)(a:List (List aj))(ha:ShP a):Oy.F (p1,f1,()) (a,()) (λy=>y=(a,())):=by
 have hlen:=ha.1;dsimp only [Oy,gm];refine aB (λ(y:List (List aj)×Int×List (List aj)×Unit)=>y.1=a/\y.2.2.1=a.take y.2.1.toNat/\0<=y.2.1/\y.2.1<=a.length) (λy=>(a.length-y.2.1).toNat) ⟨rfl,by simp,by simp,by simp⟩ ?_;rintro⟨(l:List (List aj)),(i:Int),(o:List (List aj)),⟨⟩⟩ hI;dsimp only at hI ⊢;obtain⟨rfl,rfl,h1,h2⟩:=hI;simp (disch:=omega) only [RR,U1.hp _ (ha.at _),U1.hf _ (ha.at _)];refine⟨λh4=>⟨ah,ah,?_,⟨cZ h1 h4 rfl,ah,ah⟩,ah⟩,λh4=>by rw [List.take_of_length_le ah]⟩;have:=List.length_take_le' i.toNat l;simp only [List.length_cons,List.length_nil];omega
def ZX(k:Int)(l:List (List aj)):Oi.F () (k,l,()) (λy=>y=(if k<0\/(l.length:Int)<=k then []else((l).getD (k).toNat default),l,())):=by
 dsimp only [Oi,gm];simp (disch:=omega) only [RR];refine⟨λh=>by rw [if_pos ah],λh=>⟨ah,ah,ah,ah,by rw [if_neg ah]⟩⟩
def nY(l:List Ev)(k:Int):Int:=((l.filter λe=>decide (e.kind=k)).length:Int)
def vE(l:List Ev)(e:Ev)(k:Int):nY (l++ [e]) k=if e.kind=k then nY l k+1 else nY l k:=by
 unfold nY;rw [List.filter_append,List.length_append];by_cases c:e.kind=k
 .rw [if_pos c,List.filter_cons_of_pos (by simpa using c)];simp
 .rw [if_neg c,List.filter_cons_of_neg (by simpa using c)];simp
def ZY(l:List Ev)(k:Int)(hl:l.length<1000000000):Ow.F () (l,k,()) (λy=>y=(nY l k,())):=by
 dsimp only [Ow,gm];refine aB (λ(y:List Ev×Int×Int×Int×Unit)=>y.1=l/\y.2.1=k/\y.2.2.1=nY (l.take y.2.2.2.1.toNat) k/\0<=y.2.2.2.1/\y.2.2.2.1<=l.length) (λy=>(l.length-y.2.2.2.1).toNat) ⟨rfl,rfl,by simp;rfl,by simp,by simp⟩ ?_;rintro⟨(l:List Ev),(k:Int),(n:Int),(i:Int),⟨⟩⟩ hI;dsimp only at hI ⊢;obtain⟨rfl,rfl,rfl,h1,h2⟩:=hI;have b:0<=nY (l.take i.toNat) k/\nY (l.take i.toNat) k<=i:=by
  unfold nY;have:=List.length_filter_le (λe:Ev=>decide (e.kind=k)) (l.take i.toNat);have:=List.length_take_le i.toNat l;omega
 simp (disch:=omega) only [RR,RB];refine⟨λh4=>⟨ah,ah,?_⟩,λh4=>by rw [List.take_of_length_le ah]⟩;have e:l.take (i+1).toNat=l.take i.toNat++ [((l).getD (i).toNat default)]:=by rw [show(i+1).toNat=i.toNat+1 by omega,List.take_succ_eq_append_getElem ah,getD_lt (show i.toNat<l.length by omega)]
 refine⟨λg=>⟨⟨?_,ah,ah⟩,ah⟩,λg=>⟨⟨?_,ah,ah⟩,ah⟩⟩
 .rw [e,vE,if_pos g]
 .rw [e,vE,if_neg g]
def aiu{p1 f1 p2 f2}(U1:Y28 p1 f1)(U2:Y35 p2 f2){p3:List Ev×Int×Unit->Bool}{f3:List Ev×Int×Unit->Int×Unit}(hp3:∀l k,l.length<1000000000->p3 (l,k,())=true)(hf3:∀l k,l.length<1000000000->f3 (l,k,())=(nY l k,()))(l:List Ev)(k:Int)(t:List Atom)(hl:l.length<1000000000)(ht:ShT t)(hk:aH t):Ox.F (p1,f1,p2,f2,p3,f3,()) (l,k,t,()) (λy=>y=((bA t ⟨if k=6 then 3 else 2,nY l k,[],[]⟩).1,dS (bA t ⟨if k=6 then 3 else 2,nY l k,[],[]⟩).2,())):=by
 have sh:∀n:Int,ShA ⟨n,nY l k,[],[]⟩:=λn=>⟨⟨by simp,λm hm=>absurd hm (by simp)⟩,⟨by simp,λm hm=>absurd hm (by simp)⟩⟩
 dsimp only [Ox,gm];simp (disch:=omega) only [RR,hp3 l k hl,hf3 l k hl,U2.hp _ t (sh _) ht hk,U2.hf _ t (sh _) ht hk,U1.hp,U1.hf];exact⟨λh=>by rw [if_pos h],λh=>by rw [if_neg h]⟩
def aiv{p1 f1 p2 f2}(U1:Y13 p1 f1)(U2:Y56 p2 f2)(o:IOp)(x y:List aj)(r:List (List aj))(hx:Sh x)(hy:Sh y)(hr:ShP r):Oz.F (p1,f1,p2,f2,()) (o,x,y,r,()) (λz=>z=(o.kind,o.at_,if o.kind=6 then []else x,if o.kind=5 then y else [],if o.kind=4\/o.kind=5 then r else [],())):=by
 dsimp only [Oz,gm];simp (disch:=omega) only [RR,RB,U1.hp x hx,U1.hf x hx,U1.hp y hy,U1.hf y hy,U2.hp r hr,U2.hf r hr];refine⟨λh=>⟨λg=> ?_,λg=> ?_⟩,λh=>⟨λg=> ?_,λg=> ?_⟩⟩
 all_goals refine⟨λk=> ?_,λk=> ?_⟩
 all_goals first | rw [if_pos h] | rw [if_neg h]
 all_goals first | rw [if_pos g] | rw [if_neg g]
 all_goals first | rw [if_pos k] | rw [if_neg ah]
def Z0(s:Sym)(k:Int):OC.F () (s,k,()) (λy=>y=(s.events,s.regs,1,k,())):=by
 dsimp only [OC,gm];simp (disch:=omega) only [RR,RB]
def Z4(b:Blk):OA.F () (b,()) (λy=>y=(if b.fin=1 then-1 else b.x,())):=by
 dsimp only [OA,gm];simp (disch:=omega) only [RR,RB];exact⟨λh=>by rw [if_pos h],λh=>by rw [if_neg h]⟩
def Z5(b:Blk):OB.F () (b,()) (λy=>y=(if b.fin=1\/b.fin=2 then-1 else b.y,())):=by
 dsimp only [OB,gm];simp (disch:=omega) only [RR,RB];exact⟨λh=>by rw [if_pos h],λh=>by rw [if_neg ah]⟩
structure amF(pp:Sym×Int×Unit->Bool)(ff:Sym×Int×Unit->List Ev×List (List aj)×Int×Int×Unit):Prop where
 hp:∀s k,pp (s,k,())=true
 hf:∀s k,ff (s,k,())=(s.events,s.regs,1,k,())
def aiw{p1 f1 p2 f2 p3 f3}(U1:Y27 p1 f1)(U2:Y8 p2 f2)(U3:amF p3 f3)(s:Sym)(n:Int)(hs:ShY s)(hx:aN s.x)(hy:aN s.y)(hf:s.fin=3\/s.fin=4):OD.F (p1,f1,p2,f2,p3,f3,()) (s,n,()) (λy=>y=(symEnd s n,())):=by
 dsimp only [OD,gm];simp (disch:=omega) only [RR,RB,U1.hp _ hs.x,U1.hf _ hs.x,U1.hp _ hs.y,U1.hf _ hs.y,U2.hp _ _ hs.x,U2.hf _ _ hs.x,U3.hp,U3.hf];have z:fJ s.x s.y=0↔s.x=s.y:=ig;have key:(dG s.x).2=true->(dG s.y).2=true->(dG s.x).1=(dG s.y).1->s.x=s.y:=λa b c=>(EC a).2.1.trans ((congrArg aR c).trans (EC b).2.1.symm)
 unfold symEnd;rw [aP ⟨hx,hy⟩,if_neg (show¬(true=false) by decide),if_neg (show¬(s.fin=2/\(dG s.x).2=true) by omega),if_neg (show¬(s.fin≠3/\s.fin≠4) by omega)];simp only [z];by_cases c:s.x=s.y
 .have l:¬(dG s.x).1< (dG s.y).1:=by rw [c];omega
  rcases hf with f | f<;>simp [c,f]
 .rcases hf with f | f<;>by_cases nx:(dG s.x).2=true<;>by_cases ny:(dG s.y).2=true<;>by_cases l:(dG s.x).1< (dG s.y).1<;>by_cases g:0<fJ s.x s.y<;>simp [c,f,nx,ny,l,g]
  all_goals rw [if_neg λe=>c (key nx ny e)]
def amG{p1 f1 p2 f2 p3 f3 p4 f4 p6 f6}(U1:Y27 p1 f1)(U2:Y11 p2 f2)(U3:Y13 p3 f3)(U4:amF p4 f4){p5:Sym×Int×Unit->Bool}{f5:Sym×Int×Unit->Sym×Unit}(hp5:∀s n,ShY s->aN s.x->aN s.y->(s.fin=3\/s.fin=4)->p5 (s,n,())=true)(hf5:∀s n,ShY s->aN s.x->aN s.y->(s.fin=3\/s.fin=4)->f5 (s,n,())=(symEnd s n,()))(U6:Y56 p6 f6)(s:Sym)(n:Int)(hs:ShY s):X4.F (p1,f1,p2,f2,p3,f3,p4,f4,p5,f5,p6,f6,()) (s,n,()) (λy=>y=(symEnd s n,())):=by
 dsimp only [X4,gm];simp (disch:=omega) only [RR,RB,U2.hp _ hs.x,U2.hf _ hs.x,U2.hp _ hs.y,U2.hf _ hs.y];have le:=hs.e.1;have no:(bp (aN s.x)=false\/bp (aN s.y)=false)->symEnd s n=UH:=λh=>by
  unfold symEnd;rw [if_pos];rw [pV];rcases h with h | h<;>rw [h]<;>simp
 refine⟨λh=>by rw [no h];rfl,λh=> ?_⟩;have hx:=aU.1 h.1;have hy:=aU.1 h.2;refine aB (λ(y:Int×Int×Sym×Int×Int×List (List aj)×Int×List aj×List aj×Int×List Ev×Unit)=>y.1=n/\y.2.2.1=s/\y.2.2.2.2.2.2.1=s.fin/\y.2.2.2.2.2.2.2.2.2.1=s.k/\0<=y.2.1/\y.2.1<=s.events.length/\y.2.2.2.2.2.2.2.2.2.2.1=s.events.take y.2.1.toNat) (λy=>(s.events.length-y.2.1).toNat) ⟨rfl,rfl,rfl,rfl,by simp,by simp,by simp⟩ ?_;rintro⟨(n':Int),(i:Int),(s':Sym),(z1:Int),(z2:Int),(z3:List (List aj)),(fin:Int),(z4:List aj),(z5:List aj),(k:Int),(ev:List Ev),⟨⟩⟩ hI;dsimp only at hI ⊢;obtain⟨rfl,rfl,rfl,rfl,h1,h2,rfl⟩:=hI;have E:=hs.e.at i.toNat;have tl:=List.length_take_le' i.toNat s'.events;by_cases g:i<s'.events.length
 .simp (disch:=omega) only [RR,RB,g,U3.hp _ E.1,U3.hf _ E.1,U3.hp _ E.2.1,U3.hf _ E.2.1,U6.hp _ E.2.2,U6.hf _ E.2.2];exact⟨h1,by simp only [List.length_cons,List.length_nil];omega,⟨ah,ah,cZ h1 g rfl⟩,ah⟩
 .have ef:s'.events.take i.toNat=s'.events:=List.take_of_length_le ah;rw [ef];simp (disch:=omega) only [RR,RB,g,U3.hp _ hs.x,U3.hf _ hs.x,U3.hp _ hs.y,U3.hf _ hs.y,U6.hp _ hs.r,U6.hf _ hs.r,U1.hp _ hs.x,U1.hf _ hs.x,U4.hp,U4.hf];have b:¬bp (aN s'.x/\aN s'.y)=false:=by rw [aP ⟨hx,hy⟩];decide
  have P:=λf=>hp5 s' n' hs hx hy f
  have F:=λf=>hf5 s' n' hs hx hy f
  have pl:s'.fin≠3/\s'.fin≠4->¬(s'.fin=2/\(dG s'.x).2=true)->symEnd s' n'=s':=λc d=>by unfold symEnd;rw [if_neg b,if_neg d,if_pos c]
  refine⟨λf=>⟨λg=> ?_,λg=> ?_⟩,λf=>⟨λk=>⟨λ_=>⟨P (Or.inl k),?_⟩,λe=>absurd k e⟩,λk=>⟨λl=>⟨P (Or.inr l),?_⟩,λl=> ?_⟩⟩⟩
  .unfold symEnd;rw [if_neg b,if_pos ⟨f,g⟩]
  .rw [pl ah (by rw [g];simp)]
  .exact congrArg (λz=>(z.1,())) (F (Or.inl k))
  .exact congrArg (λz=>(z.1,())) (F (Or.inr l))
  .rw [pl ⟨k,l⟩ (λh=>f h.1)]
structure Cn(s:SS):Prop where
 ld:s.ld=nY s.evs 4
 inn:s.inn=nY s.evs 6
def Cn.stp{s:SS}(h:Cn s)(o:IOp):Cn (stp s o):=by
 constructor
 .show(if o.kind=4 then s.ld+1 else s.ld)=nY (nE s o) 4;unfold nE;by_cases c:evO o
  .rw [if_pos c,vE,h.ld]
  .rw [if_neg c,if_neg (λe=>c (by unfold evO;omega)),h.ld]
 .show(if o.kind=6 then s.inn+1 else s.inn)=nY (nE s o) 6;unfold nE;by_cases c:evO o
  .rw [if_pos c,vE,h.inn]
  .rw [if_neg c,if_neg (λe=>c (by unfold evO;omega)),h.inn]
def Cn.run:∀(l:List IOp) (s:SS),Cn s->Cn (l.foldl Go.TX.F.stp s)
 | [],_,h=>h
 | o::r,s,h=>Cn.run r _ (h.stp o)
structure Pt2(t:List Atom)(b:Blk)(i:Nat)(tb:List Atom)(V:List (List aj))(ev:List Ev)(rg:List (List aj)):Prop where
 tb:tb=(SW t b i).t
 V:V=(SW t b i).vals
 ev:ev=(SW t b i).evs
 rg:rg=(SW t b i).regs
def Pt2.next{t:List Atom}{b:Blk}{i:Nat}{tb:List Atom}{V:List (List aj)}{ev:List Ev}{rg:List (List aj)}(h:Pt2 t b i tb V ev rg)(hi:i<b.ops.length){o:IOp}(ho:b.ops.getD i default=o)
  {v:List aj} {tb':List Atom} {ev':List Ev} {rg':List (List aj)} (h3:tb'=nT (SW t b i) o) (h4:v=nV (SW t b i) o) (h5:ev'=nE (SW t b i) o) (h6:rg'=nR (SW t b i) o):Pt2 t b (i+1) tb' (V++ [v]) ev' rg':=by
 have e:=Sy (t:=t) hi;rw [ho]at e;refine⟨?_,?_,?_,?_⟩<;>rw [e]
 .exact h3
 .rw [h.V,h4];rfl
 .exact h5
 .exact h6
def FL{α:Type}{l:List α}{i:Nat}(h:i<l.length)(v:α):(l.set i v).take (i+1)=l.take i++ [v]:=by
 rw [List.take_succ_eq_append_getElem (by rw [List.length_set];exact h),List.getElem_set_self,List.take_set_of_le (Nat.le_refl _)]
structure aqr(pp:Sym×Int×Unit->Bool)(ff:Sym×Int×Unit->Sym×Unit):Prop where
 hp:∀s n,ShY s->pp (s,n,())=true
 hf:∀s n,ShY s->ff (s,n,())=(symEnd s n,())
set_option maxHeartbeats 1000000 in
def amH{p1 f1 p2 f2 p3 f3 p4 f4 p5 f5 p6 f6 p7 f7 p8 f8 p10 f10 p14 f14}(U1:Y60 p1 f1)(U2:Y28 p2 f2)(U3:Y22 p3 f3)(U4:aqr p4 f4)(U5:Y44 p5 f5)(U6:Y29 p6 f6)(U7:Y13 p7 f7)(U8:Y31 p8 f8){p9:Int×List aj×List aj×List Atom×Unit->Bool}{f9:Int×List aj×List aj×List Atom×Unit->List Atom×List aj×Unit}(hp9:∀op x y t,(1<=op/\op<=5)->Sh x->Sh y->ShT t->aH t->p9 (op,x,y,t,())=true)(hf9:∀op x y t,(1<=op/\op<=5)->Sh x->Sh y->ShT t->aH t->f9 (op,x,y,t,())=((tDo t op x y).1,(tDo t op x y).2,()))(U10:Y35 p10 f10){p11:List Ev×Int×List Atom×Unit->Bool}{f11:List Ev×Int×List Atom×Unit->List Atom×List aj×Unit}(amI:∀l k t,l.length<1000000000->ShT t->aH t->p11 (l,k,t,())=true)(amJ:∀l k t,l.length<1000000000->ShT t->aH t->f11 (l,k,t,())=((bA t ⟨if k=6 then 3 else 2,nY l k,[],[]⟩).1,dS (bA t ⟨if k=6 then 3 else 2,nY l k,[],[]⟩).2,())){p12:IOp×List aj×List aj×List (List aj)×Unit->Bool}{f12:IOp×List aj×List aj×List (List aj)×Unit->Int×Int×List aj×List aj×List (List aj)×Unit}(adO:∀o x y r,Sh x->Sh y->ShP r->p12 (o,x,y,r,())=true)(adP:∀o x y r,Sh x->Sh y->ShP r->f12 (o,x,y,r,())=(o.kind,o.at_,if o.kind=6 then []else x,if o.kind=5 then y else [],if o.kind=4\/o.kind=5 then r else [],())){p13:Int×List (List aj)×Unit->Bool}{f13:Int×List (List aj)×Unit->List aj×List (List aj)×Unit}(Ji:∀k l,p13 (k,l,())=true)(adQ:∀k l,f13 (k,l,())=(if k<0\/(l.length:Int)<=k then []else((l).getD (k).toNat default),l,()))(U14:Y56 p14 f14){p15:Blk×Unit->Bool}{f15:Blk×Unit->Int×Unit}(aqs:∀b,p15 (b,())=true)(aqt:∀b,f15 (b,())=(if b.fin=1 then-1 else b.x,())){p16:Blk×Unit->Bool}{f16:Blk×Unit->Int×Unit}(aqu:∀b,p16 (b,())=true)(aqv:∀b,f16 (b,())=(if b.fin=1\/b.fin=2 then-1 else b.y,()))(t:List Atom)(b:Blk)(ht:ShT t)(hb:b.ops.length<1000000000):X5.F (p1,f1,p2,f2,p3,f3,p4,f4,p5,f5,p6,f6,p7,f7,p8,f8,p9,f9,p10,f10,p11,f11,p12,f12,p13,f13,p14,f14,p15,f15,p16,f16,()) (t,b,()) (λy=>y=((bK t b).1,(bK t b).2,())):=by
 obtain⟨hp1,hf1⟩:=U1;obtain⟨hp2,hf2⟩:=U2;obtain⟨hp3,hf3⟩:=U3;obtain⟨hp4,hf4⟩:=U4;obtain⟨hp5,hf5⟩:=U5;obtain⟨hp6,hf6⟩:=U6;obtain⟨hp7,hf7⟩:=U7;obtain⟨hp8,hf8⟩:=U8;obtain⟨aqw,aqx⟩:=U10;obtain⟨aqy,aqz⟩:=U14;have hlt:=ht.1;dsimp only [X5,gm];simp (disch:=omega) only [RR,RB,hp6 t ht,hf6 t ht,hp1 b hb,hf1 b hb,hp8 t ht,hf8 t ht,hp5];by_cases c:aH t/\t.length<=100/\cu b
 case neg=>
  refine⟨λ_=> ?_,λh=> ?_⟩
  .unfold bK;rw [bL c];rfl
  .exact absurd ⟨aU.1 h.1.1,ah,aU.1 h.1.2⟩ c
 obtain⟨c1,c2,c3⟩:=c;simp (disch:=omega) only [RR,aP c1,aP c3];have sz:=c3.sz;have hop:=c3.op;have hk3:=c3.k3;have i0:=BN c1 ah;obtain⟨_,g5,_⟩:=hf5;refine⟨λh=>absurd h ah,λ_=> ?_⟩;refine aB (λ(y:Int×Blk×Int×Int×Int×Int×List (List aj)×List Atom×Unit)=>0<=y.1/\y.1<=4/\y.2.1=b/\y.2.2.2.2.1=b.fin/\y.2.2.2.2.2.1=b.k/\y.2.2.2.2.2.2.1.length=4/\y.2.2.2.2.2.2.1.take y.1.toNat=(rN t y.1.toNat).2/\y.2.2.2.2.2.2.2.1=(rN t y.1.toNat).1) (λy=>(4-y.1).toNat) ⟨by simp,by simp,rfl,rfl,rfl,g5,by simp;rfl,rfl⟩ ?_;rintro⟨(r:Int),(b':Blk),(z1:Int),(z2:Int),(fin:Int),(kk:Int),(rg:List (List aj)),(tb:List Atom),⟨⟩⟩ hI;dsimp only at hI ⊢;obtain⟨r0,r1,rfl,rfl,rfl,r4,r5,rfl⟩:=hI;have ok:=BM c1 ah r.toNat ah;have okl:=ok.tl;by_cases h:r<4
 .have sA:ShA ⟨1,r,[],[]⟩:=⟨⟨by simp,λm hm=>absurd hm (by simp)⟩,⟨by simp,λm hm=>absurd hm (by simp)⟩⟩;have er:((r.toNat:Nat):Int)=r:=by omega
  simp (disch:=omega) only [RR,h,aqw _ _ sA ok.tok.sh ok.tok,aqx _ _ sA ok.tok.sh ok.tok,hp2,hf2,r4,List.length_set];have es:rN t (r+1).toNat=((bA (rN t r.toNat).1 ⟨1,r,[],[]⟩).1,(rN t r.toNat).2++ [dS (bA (rN t r.toNat).1 ⟨1,r,[],[]⟩).2]):=by
   rw [show(r+1).toNat=r.toNat+1 by omega,Sv,er]
  refine⟨r0,ah,r0,ah,⟨ah,ah,?_,by rw [es]⟩,ah⟩;rw [es,show(r+1).toNat=r.toNat+1 by omega,FL ah,r5]
 .have e4:r.toNat=4:=by omega
  rw [e4]at r5 ok;have eg:rg=(rN t 4).2:=by rw [<-r5,List.take_of_length_le ah]
  subst eg;rw [e4];simp (disch:=omega) only [RR,h];refine aB (λ(y:Int×Blk×Int×Int×Int×Int×List (List aj)×List (List aj)×List Atom×List Ev×Unit)=>0<=y.1/\y.1<=b'.ops.length/\y.2.1=b'/\y.2.2.2.2.1=b'.fin/\y.2.2.2.2.2.1=b'.k/\Pt2 t b' y.1.toNat y.2.2.2.2.2.2.2.2.1 y.2.2.2.2.2.2.2.1 y.2.2.2.2.2.2.2.2.2.1 y.2.2.2.2.2.2.1) (λy=>(b'.ops.length-y.1).toNat) ⟨by simp,by simp,rfl,rfl,rfl,⟨rfl,rfl,rfl,rfl⟩⟩ ?_;have siw:∀j:Nat,j<=b'.ops.length->SI (t.length+4) j (SW t b' j):=λj hj=>by
   have:=(qc (b'.ops.take j) 0 (s0 t) i0 (λo ho=>hk3 o (List.mem_of_mem_take ho)) (by rw [List.length_take];omega) (by rw [List.length_take];omega)).1;rw [List.length_take,Nat.min_eq_left hj,Nat.zero_add]at this;exact this
  rintro⟨(i:Int),(b:Blk),(z1:Int),(z2:Int),(fin:Int),(kk:Int),(rg:List (List aj)),(V:List (List aj)),(tb:List Atom),(ev:List Ev),⟨⟩⟩ hI;dsimp only at hI ⊢;obtain⟨h1,h2,rfl,rfl,rfl,hA⟩:=hI;have si:=siw i.toNat ah;have evl:=aie (t:=t) (b:=b) i.toNat ah;have cn:=Cn.run (b.ops.take i.toNat) (s0 t) ⟨rfl,rfl⟩;have cn:Cn (SW t b i.toNat):=cn;by_cases h7:i<b.ops.length
  case neg=>
   have en:=c3.en;have hf:=en.f;have hpc:=c3.pc;have hln:=c3.ln;have ein:i.toNat=b.ops.length:=by omega
   have eS:SW t b i.toNat=dK t b:=by unfold SW dK;rw [ein,List.take_of_length_le (Nat.le_refl _)]
   obtain⟨a3,a4,a5,a6⟩:=hA;rw [eS]at a3 a4 a5 a6 si;subst a3 a4 a5 a6;have pk:=I8 (b:=b) si;have eR:=kg c1 c2 c3;have sh:ShY (jL b (dK t b)):=by
    have hs:=PE b.ops 0 (s0 t) i0 hk3 ah ah ⟨by simp [s0],λe he=>absurd he (by simp [s0])⟩;exact⟨⟨by have:=hs.1;show(b.ops.foldl stp (s0 t)).evs.length<_;omega,hs.2⟩,si.regs,pk.1.sh,pk.2.sh⟩
   have sl:=si.vl;have x1:=en.x1;have y1:=en.y1;have EX:f13 (if b.fin=1 then-1 else b.x,(dK t b).vals,())=((jL b (dK t b)).x,(dK t b).vals,()):=by
    rw [adQ];show _=(if b.fin=1 then []else(((dK t b).vals).getD (b.x).toNat default),_);by_cases c:b.fin=1
    .rw [if_pos c,if_pos c,if_pos ah]
    .obtain⟨v1,v2,_⟩:=x1 c;rw [if_neg c,if_neg c,if_neg ah]
   have EY:f13 (if b.fin=1\/b.fin=2 then-1 else b.y,(dK t b).vals,())=((jL b (dK t b)).y,(dK t b).vals,()):=by
    rw [adQ];show _=(if 3<=b.fin then(((dK t b).vals).getD (b.y).toNat default)else [],_);by_cases c:b.fin=1\/b.fin=2
    .rw [if_pos c,if_pos (Or.inl (by decide)),if_neg (show¬3<=b.fin by omega)]
    .obtain⟨v1,v2,_⟩:=y1 ah;rw [if_neg c,if_neg (show¬(b.y<0\/((dK t b).vals.length:Int)<=b.y) by omega),if_pos (show 3<=b.fin by have:=hf;omega)]
   have shr:ShP (dK t b).regs:=sh.r;simp (disch:=omega) only [RR,RB,h7,aqy _ shr,aqz _ shr,aqs,aqt,aqu,aqv,Ji,EX,EY,hp7 _ sh.x,hf7 _ sh.x,hp7 _ sh.y,hf7 _ sh.y];exact⟨hp4 _ _ sh,by rw [eR];exact congrArg (λz=>((dK t b).t,z.1,())) (hf4 (jL b (dK t b)) (b.pc+b.len) sh)⟩
  have hok:=hop i h1 h7;have nxt:=λ{v:List aj} {tb':List Atom} {ev':List Ev} {rg':List (List aj)}=>Pt2.next (o:=((b.ops).getD (i).toNat default)) hA ah rfl (v:=v) (tb':=tb') (ev':=ev') (rg':=rg')
  obtain⟨a3,a4,a5,a6⟩:=hA;have ei:(i+1).toNat=i.toNat+1:=by omega
  obtain⟨sn,so⟩:=xS (o:=((b.ops).getD (i).toNat default)) si hok.k3 ah ah;have vl:=si.vl;have shv:∀k:Int,Sh (if k<0\/(V.length:Int)<=k then []else((V).getD (k).toNat default)):=λk=>by
   split
   .exact⟨by simp,λm hm=>absurd hm (by simp)⟩
   .rw [a4];exact(xR si.vok k).1.sh
  obtain⟨X,eX⟩:∃X,X=if(((b.ops).getD (i).toNat default)).x<0\/(V.length:Int)<=(((b.ops).getD (i).toNat default)).x then []else((V).getD ((((b.ops).getD (i).toNat default)).x).toNat default):=⟨_,rfl⟩
  obtain⟨Y,eY⟩:∃Y,Y=if(((b.ops).getD (i).toNat default)).y<0\/(V.length:Int)<=(((b.ops).getD (i).toNat default)).y then []else((V).getD ((((b.ops).getD (i).toNat default)).y).toNat default):=⟨_,rfl⟩
  have F1:f13 ((((b.ops).getD (i).toNat default)).x,V,())=(X,V,()):=by rw [adQ,eX]
  have F2:f13 ((((b.ops).getD (i).toNat default)).y,V,())=(Y,V,()):=by rw [adQ,eY]
  have shx:Sh X:=eX▸shv _;have shy:Sh Y:=eY▸shv _;have ex:hX ((b.ops).getD (i).toNat default)->X=xOf (SW t b i.toNat) ((b.ops).getD (i).toNat default):=λh=>by
   have v:=hok.x1 h;have v2:=v.2.1;unfold xOf;rw [if_pos h,eX,if_neg (by rw [a4,vl];have:=v.1;omega),a4]
  have ey:hY ((b.ops).getD (i).toNat default)->Y=yOf (SW t b i.toNat) ((b.ops).getD (i).toNat default):=λh=>by
   have v:=hok.y1 h;have v2:=v.2.1;unfold yOf;rw [if_pos h,eY,if_neg (by rw [a4,vl];have:=v.1;omega),a4]
  clear eX eY shv
  have vl':V.length=i.toNat:=by rw [a4];exact vl
  generalize hs:SW t b i.toNat=s at*;generalize ho:((b.ops).getD (i).toNat default)=o at*;have kd:=hok.kd;subst a3 a5 a6;have r4:s.regs.length=4:=si.r4;have tsh:=si.tok.sh;have cnl:=cn.ld;have cni:=cn.inn;have rsh:ShP s.regs:=si.regs;have dn:=λ{v:List aj} {tb':List Atom} {ev':List Ev} {rg':List (List aj)} (h3:tb'=nT s o) (h4:v=nV s o) (h5:ev'=nE s o) (h6:rg'=nR s o)=>show((V.length:Int)+([v].length:Int)<=1073741824)/\(0<=i+1/\i+1<=b.ops.length/\Pt2 t b (i+1).toNat tb' (V++ [v]) ev' rg')/\(b.ops.length- (i+1)).toNat< (b.ops.length-i).toNat from⟨by simp only [List.length_cons,List.length_nil];omega,⟨ah,ah,by rw [ei];exact nxt h3 h4 h5 h6⟩,ah⟩
  have el1:∀e:Ev,(s.evs.length:Int)+([e].length:Int)<=1073741824:=λe=>by simp only [List.length_cons,List.length_nil];omega
  have T0:o.kind≠3->o.kind≠4->o.kind≠6->s.t=nT s o:=λh3 h4 h6=>by unfold nT;rw [if_neg h3,if_neg ah]
  have R0:o.kind≠8->s.regs=nR s o:=λh=>by unfold nR;rw [if_neg h]
  have E0:¬evO o->s.evs=nE s o:=λh=>by unfold nE;rw [if_neg h]
  have V0:o.kind=5\/o.kind=7\/o.kind=8->[]=nV s o:=λh=>by unfold nV;rw [if_neg ah,if_neg ah,if_neg ah,if_neg ah]
  rcases(by omega:o.kind=1\/o.kind=2\/o.kind=3\/o.kind=4\/o.kind=5\/o.kind=6\/o.kind=7\/o.kind=8)with c | c | c | c | c | c | c | c
  .simp (disch:=omega) only [RR,RB,ho,h7,Ji,F1,F2,c,Int.reduceEq,hp3,hf3];exact⟨h1,dn (T0 ah ah ah) (show aR o.k=nV s o by unfold nV;rw [if_pos c]) (E0 (by unfold evO;omega)) (R0 ah)⟩
  .have k2:=hok.k2 (Or.inl c);simp (disch:=omega) only [RR,RB,ho,h7,Ji,F1,F2,c,Int.reduceEq,r4];exact⟨h1,k2.1,ah,k2.1,ah,dn (T0 ah ah ah) (show((s.regs).getD (o.k).toNat default)=nV s o by unfold nV;rw [if_neg ah,if_pos c]) (E0 (by unfold evO;omega)) (R0 ah)⟩
  .have d9:=hok.k3 c;simp (disch:=omega) only [RR,RB,ho,h7,Ji,F1,F2,c,Int.reduceEq,hp9 o.k _ _ _ d9 shx shy tsh si.tok,hf9 o.k _ _ _ d9 shx shy tsh si.tok];have e1:=ex (by unfold hX;omega);have e2:=ey (by unfold hY;omega);exact⟨h1,dn (show(tDo s.t o.k X Y).1=nT s o by unfold nT;rw [if_pos c,e1,e2]) (show(tDo s.t o.k X Y).2=nV s o by unfold nV;rw [if_neg ah,if_neg ah,if_pos c,e1,e2]) (E0 (by unfold evO;omega)) (R0 ah)⟩
  .have el:s.evs.length<1000000000:=by omega
   have ea:aOf s o=⟨2,nY s.evs 4,[],[]⟩:=by unfold aOf;rw [if_pos c,cnl]
   have e1:=ex (by unfold hX;omega);have e2:yOf s o=[]:=by unfold yOf;rw [if_neg (by unfold hY;omega)]
   simp (disch:=omega) only [RR,RB,ho,h7,Ji,F1,F2,c,Int.reduceEq,amI s.evs 4 s.t el tsh si.tok,amJ s.evs 4 s.t el tsh si.tok,adO o X Y s.regs shx shy rsh,adP o X Y s.regs shx shy rsh,el1];exact⟨h1,dn (by unfold nT;rw [if_neg ah,if_pos (Or.inl c),ea]) (by unfold nV;rw [if_neg ah,if_neg ah,if_neg ah,if_pos (Or.inl c),ea]) (by unfold nE;rw [if_pos (by unfold evO;omega),if_pos (Or.inl c),c,e1,e2]) (R0 ah)⟩
  .have e1:=ex (by unfold hX;omega);have e2:=ey (by unfold hY;omega);simp (disch:=omega) only [RR,RB,ho,h7,Ji,F1,F2,c,Int.reduceEq,adO o X Y s.regs shx shy rsh,adP o X Y s.regs shx shy rsh,el1];exact⟨h1,dn (T0 ah ah ah) (V0 ah) (by unfold nE;rw [if_pos (by unfold evO;omega),if_pos (Or.inr c),c,e1,e2]) (R0 ah)⟩
  .have el:s.evs.length<1000000000:=by omega
   have ea:aOf s o=⟨3,nY s.evs 6,[],[]⟩:=by unfold aOf;rw [if_neg ah,cni]
   have e1:xOf s o=[]:=by unfold xOf;rw [if_neg (by unfold hX;omega)]
   have e2:yOf s o=[]:=by unfold yOf;rw [if_neg (by unfold hY;omega)]
   simp (disch:=omega) only [RR,RB,ho,h7,Ji,F1,F2,c,Int.reduceEq,amI s.evs 6 s.t el tsh si.tok,amJ s.evs 6 s.t el tsh si.tok,adO o X Y s.regs shx shy rsh,adP o X Y s.regs shx shy rsh,el1];exact⟨h1,dn (by unfold nT;rw [if_neg ah,if_pos (Or.inr c),ea]) (by unfold nV;rw [if_neg ah,if_neg ah,if_neg ah,if_pos (Or.inr c),ea]) (by unfold nE;rw [if_pos (by unfold evO;omega),if_neg ah,c,e1,e2]) (R0 ah)⟩
  .have e1:=ex (by unfold hX;omega);have e2:yOf s o=[]:=by unfold yOf;rw [if_neg (by unfold hY;omega)]
   simp (disch:=omega) only [RR,RB,ho,h7,Ji,F1,F2,c,Int.reduceEq,adO o X Y s.regs shx shy rsh,adP o X Y s.regs shx shy rsh,el1];exact⟨h1,dn (T0 ah ah ah) (V0 ah) (by unfold nE;rw [if_pos (by unfold evO;omega),if_neg ah,c,e1,e2]) (R0 ah)⟩
  .have k2:=hok.k2 (Or.inr c);have e1:=ex (by unfold hX;omega);simp (disch:=omega) only [RR,RB,ho,h7,Ji,F1,F2,c,Int.reduceEq,r4];exact⟨h1,k2.1,ah,k2.1,ah,dn (T0 ah ah ah) (V0 ah) (E0 (by unfold evO;omega)) (by unfold nR;rw [if_pos c,e1])⟩
def aix{α:Type}[Inhabited α](l:List α)(a:α)(i:Int)(h:0<=i):((l++ [a]).getD (i).toNat default)=if i=l.length then a else((l).getD (i).toNat default):=by
 by_cases c:i=l.length
 .rw [if_pos c,c,List.getD_eq_getElem?_getD];simp
 .rw [if_neg c,List.getD_eq_getElem?_getD,List.getD_eq_getElem?_getD];by_cases d:i.toNat<l.length
  .rw [List.getElem?_append_left d]
  .rw [List.getElem?_eq_none (by rw [List.length_append,List.length_singleton];omega),List.getElem?_eq_none ah]
def UW{n:Int}{t u:List Atom}(h:Px n t)(g:Px n u):t=u:=by
 obtain⟨h1,h2⟩:=h;obtain⟨g1,g2⟩:=g;exact lu ah λi i0 i1=>by
  have a:=h2 i i0 ah;have b:=g2 i i0 ah;exact a.trans b.symm
def SH:∀n:Nat,n<=4->Px n (rN [] n).1
 | 0,_=>⟨rfl,All.zero⟩
 | n+1,hn=>by
  obtain⟨h1,h2⟩:=SH n ah;have ok:=BM vw (by simp) n ah;have e:bA (rN [] n).1 ⟨1,n,[],[]⟩=((rN [] n).1++ [⟨1,n,[],[]⟩],((rN [] n).1.length:Int)):=by
   rcases iH (rN [] n).1 ⟨1,n,[],[]⟩with⟨f1,f2⟩ | ⟨f1,f2,f3,_⟩
   .unfold bA;rw [if_neg ah,if_neg];rintro(g | g)
    .exact g (by unfold fU;rw [if_neg (by simp)];exact⟨⟨rfl,rfl⟩,Or.inl ⟨rfl,by dsimp only;omega,by dsimp only;omega⟩⟩)
    .omega
   .exfalso;have a:=h2 _ f1 ah;dsimp only at a f3;rw [a]at f3;injection f3 with _ g;omega
  have e2:(rN [] (n+1)).1=(rN [] n).1++ [⟨1,n,[],[]⟩]:=by rw [Sv,e]
  rw [e2];refine⟨by rw [List.length_append,List.length_singleton];omega,λi i0 i1=> ?_⟩;dsimp only;rw [aix _ _ _ i0];by_cases c:i=((rN [] n).1.length:Int)
  .rw [if_pos c,c,h1]
  .rw [if_neg c];exact h2 i i0 ah
def amK{t:List Atom}(h:Px 4 t):t=t4:=UW h (SH 4 (Nat.le_refl _))
def aiy{p1 f1}(U1:Y8 p1 f1)(a b:List (List aj))(ha:ShP a):OE.F (p1,f1,()) (a,b,()) (λy=>y=(bp (a=b),())):=by
 have hlen:=ha.1;dsimp only [OE,gm];simp (disch:=omega) only [RR];refine⟨λh=> ?_,λh=> ?_⟩
 .rw [bL (λe=>h (by rw [e]))]
 have hl:a.length=b.length:=by omega
 refine aB (λ(y:List (List aj)×List (List aj)×Int×Unit)=>y.1=a/\y.2.1=b/\0<=y.2.2.1/\y.2.2.1<=a.length/\All y.2.2.1 (λi=>a.getD i.toNat default=b.getD i.toNat default)) (λy=>(a.length-y.2.2.1).toNat) ⟨rfl,rfl,by simp,by simp,All.zero⟩ ?_;rintro⟨(l1:List (List aj)),(l2:List (List aj)),(i:Int),⟨⟩⟩ hI;dsimp only at hI ⊢;obtain⟨rfl,rfl,h1,h2,h3⟩:=hI;simp (disch:=omega) only [RR,U1.hp _ _ (ha.at _),U1.hf _ _ (ha.at _),ig];refine⟨λh4=>⟨ah,ah,ah,ah,λh5=> ?_,λh5=>⟨⟨ah,ah,h3.snoc h5⟩,ah⟩⟩,λh4=> ?_⟩
 .rw [bL];intro e;rw [e]at h5;exact h5 rfl
 .rw [aP (lu hl (h3.le ah))]
def aiz{p1 f1 p2 f2}(U1:Y8 p1 f1)(U2:Y88 p2 f2)(a b:Ev)(ha:ShE a):OG.F (p1,f1,p2,f2,()) (a,b,()) (λy=>y=(bp (a=b),())):=by
 dsimp only [OG,gm];simp (disch:=omega) only [RR,RB,U1.hp _ _ ha.1,U1.hf _ _ ha.1,U1.hp _ _ ha.2.1,U1.hf _ _ ha.2.1,U2.hp _ _ ha.2.2,U2.hf _ _ ha.2.2,ig];simp only [Qa,<-pV];refine Prod.ext (xQ ?_) rfl;cases a;cases b;simp only [Ev.mk.injEq];constructor<;>(intro h;simp only [h,and_self])
def amL{p1 f1 p2 f2 p3 f3}(U1:Y8 p1 f1)(U2:Y93 p2 f2)(U3:Y88 p3 f3)(a b:Sym)(ha:ShY a):X6.F (p1,f1,p2,f2,p3,f3,()) (a,b,()) (λy=>y=(bp (a=b),())):=by
 dsimp only [X6,gm];simp (disch:=omega) only [RR,RB,U1.hp _ _ ha.x,U1.hf _ _ ha.x,U1.hp _ _ ha.y,U1.hf _ _ ha.y,U3.hp _ _ ha.r,U3.hf _ _ ha.r,ig,aU,kU];have hlen:=ha.e.1;refine⟨λh=> ?_,λh=> ?_⟩
 .rw [bL];rintro rfl
  revert h;simp
 refine aB (λ(y:Int×Sym×Sym×Unit)=>y.2.1=a/\y.2.2.1=b/\0<=y.1/\y.1<=a.events.length/\All y.1 (λi=>a.events.getD i.toNat default=b.events.getD i.toNat default)) (λy=>(a.events.length-y.1).toNat) ⟨rfl,rfl,by simp,by simp,All.zero⟩ ?_;rintro⟨(i:Int),(a':Sym),(b':Sym),⟨⟩⟩ hI;dsimp only at hI ⊢;obtain⟨rfl,rfl,h1,h2,h3⟩:=hI;have hl:a'.events.length=b'.events.length:=by
  have:=h.1.1.1.1.1;omega
 simp (disch:=omega) only [RR,RB,U2.hp _ _ (ha.e.at _),U2.hf _ _ (ha.e.at _),aU,kU];refine⟨λh4=>⟨ah,ah,ah,ah,λh5=> ?_,λh5=>⟨⟨ah,ah,h3.snoc h5⟩,ah⟩⟩,λh4=> ?_⟩
 .rw [bL];rintro rfl;exact h5 rfl
 .rw [aP];obtain⟨⟨⟨⟨⟨g1,g2⟩,g3⟩,g4⟩,g5⟩,g6⟩:=h;exact Sym.ext (lu hl (h3.le ah)) g2 ah g5 g6 ah
def amM{p1 f1 p2 f2 p3 f3 p4 f4 p5 f5}(U1:Y60 p1 f1)(U2:Y94 p2 f2)(U3:Y44 p3 f3)(U4:Y89 p4 f4)(U5:Y95 p5 f5)(b c:Blk)(hb:b.ops.length<1000000000)(hc:c.ops.length<1000000000):X7.F (p1,f1,p2,f2,p3,f3,p4,f4,p5,f5,()) (b,c,()) (λy=>y=(chk b c,())):=by
 have s4:ShT t4:=afe.1.sh;have y1:=Ja t4 b;have U3.hf:=amK U3.hf.1;dsimp only [X7,gm];simp (disch:=omega) only [RR,RB,U1.hp b hb,U1.hf b hb,U1.hp c hc,U1.hf c hc,U2.hp b c hb,U2.hf b c hb,U3.hp,U3.hf,U4.hp t4 b s4 hb,U4.hf t4 b s4 hb,U4.hp _ c y1.2 hc,U4.hf _ c y1.2 hc,U5.hp _ _ y1.1,U5.hf _ _ y1.1,aU,kU];unfold chk;refine⟨λh=> ?_,λh=>⟨λe=> ?_,λe=> ?_⟩⟩
 .rw [bL];rintro⟨h1,h2,h3,h4,_⟩;simp_all
 .rw [aP];exact⟨h.1.1.1,h.1.1.2,by simp_all,by simp_all,Or.inl e⟩
 .refine Prod.ext (xQ ⟨λg=>⟨h.1.1.1,h.1.1.2,by simp_all,by simp_all,Or.inr g⟩,λg=>g.2.2.2.2.resolve_left e⟩) rfl
def adR(q:Cer):Int×Int×Int×Int×Int×Int×Int×Int×Int×Int×Int×Int×List IOp×List IOp×Unit:=(q.base.pc,q.base.len,q.base.fin,q.base.x,q.base.y,q.base.k,q.made.pc,q.made.len,q.made.fin,q.made.x,q.made.y,q.made.k,q.base.ops,q.made.ops,())
def Lh(l:List Cer)(q:Cer):List Cer:=(l++ [q]).drop (l.length+1-3)
theorem amN{p1 f1}(U1:Y96 p1 f1)(l:List Cer)(h:ShD l):Yc.F (p1,f1,()) (l,()) (λy=>y=(bp (K6 l),())):=by
 have mE:∀c:Blk,Co.mk .blk (c.pc,c.len,c.ops,c.fin,c.x,c.y,c.k,())=c:=λ_=>rfl
 dsimp only [Yc,gm,jU];have L:=h.1;simp (disch:=omega) only [RR,CRB,mE];refine⟨λg=>by rw [bL (λe=>by have:=e.1;omega)],λg=> ?_⟩;refine aB (λ(y:List Cer×Int×Unit)=>y.1=l/\0<=y.2.1/\y.2.1<=l.length/\¬∃q∈l.take y.2.1.toNat,chk q.base q.made=false) (λy=>(l.length-y.2.1).toNat) ⟨rfl,by simp,by simp,by rintro⟨q,h,_⟩;cases h⟩ ?_;rintro⟨(l':List Cer),(i:Int),⟨⟩⟩ hI;dsimp only at hI ⊢;obtain⟨rfl,h1,h2,h3⟩:=hI;have a:=h.at i.toNat;simp (disch:=omega) only [RR,CRB,mE,U1.hp (((l').getD (i).toNat default)).base (((l').getD (i).toNat default)).made ah ah,U1.hf (((l').getD (i).toNat default)).base (((l').getD (i).toNat default)).made ah ah];refine⟨λg4=>⟨h1,g4,h1,g4,λe=> ?_,λe=>⟨⟨ah,ah,?_⟩,ah⟩⟩,λg4=> ?_⟩
 .rw [bL];intro v;have:=v.2 _ (dD h1 g4 (d:=default));rw [e]at this;cases this
 .rw [show(i+1).toNat=i.toNat+1 by omega];exact λx=>((SB (G:=λq:Cer=>chk q.base q.made=false) ah).1 x).elim h3 (λz=>by rw [e]at z;cases z)
 .rw [List.take_of_length_le ah]at h3;rw [aP];exact⟨ah,λq hq=>by
   cases c:chk q.base q.made with
   | true=>rfl
   | false=>exact absurd ⟨q,hq,c⟩ h3⟩
theorem amO{p1 f1}(U1:Y77 p1 f1)(q:Cer)(h1:q.base.ops.length<1000000)(h2:q.made.ops.length<1000000):Ye.F (p1,f1,()) (q,()) (λy=>y=adR q):=by
 have mE:∀c:Blk,Co.mk .blk (c.pc,c.len,c.ops,c.fin,c.x,c.y,c.k,())=c:=λ_=>rfl
 dsimp only [Ye,gm,jU];simp (disch:=omega) only [RR,CRB,mE,U1.hp _ h1,U1.hf _ h1,U1.hp _ h2,U1.hf _ h2];rfl
structure amP(pp:Cer×Unit->Bool)(ff:Cer×Unit->Int×Int×Int×Int×Int×Int×Int×Int×Int×Int×Int×Int×List IOp×List IOp×Unit):Prop where
 hp:∀q,q.base.ops.length<1000000->q.made.ops.length<1000000->pp (q,())=true
 hf:∀q,q.base.ops.length<1000000->q.made.ops.length<1000000->ff (q,())=adR q
theorem amQ{p1 f1}(U1:amP p1 f1)(l:List Cer)(q:Cer)(h:ShC l)(h1:q.base.ops.length<1000000)(h2:q.made.ops.length<1000000):YB.F (p1,f1,()) (l,q,()) (λy=>y=(Lh l q,())):=by
 obtain⟨hp1,hf1⟩:=U1;have hlen:=h.1;have mC:∀q:Cer,Co.mk .cer (q.base.pc,q.base.len,q.base.ops,q.base.fin,q.base.x,q.base.y,q.base.k,q.made.pc,q.made.len,q.made.ops,q.made.fin,q.made.x,q.made.y,q.made.k,())=q:=λ_=>rfl
 unfold adR at hf1;dsimp only [YB,gm,jU,List.cons_append,List.nil_append,List.map_cons,List.map_nil]at*;refine aB (λ(y:List Cer×Int×Cer×List Cer×Unit)=>y.1=l/\y.2.2.1=q/\y.2.2.2.1=l.take y.2.1.toNat/\0<=y.2.1/\y.2.1<=l.length) (λy=>(l.length-y.2.1).toNat) ⟨rfl,rfl,by simp,by simp,by simp⟩ ?_;rintro⟨(l:List Cer),(i:Int),(q:Cer),(o:List Cer),⟨⟩⟩ hI;dsimp only at hI ⊢;obtain⟨rfl,rfl,rfl,i1,i2⟩:=hI;have a:=h.at i.toNat;simp (disch:=omega) only [RR,hp1 _ a.1 a.2,hf1 _ a.1 a.2,hp1 _ h1 h2,hf1 _ h1 h2,mC];have tl:=List.length_take_le' i.toNat l;have lc:∀x:Cer,([x].length:Int)=1:=λ_=>rfl
 refine⟨λg=>⟨i1,g,by rw [lc];omega,⟨cZ i1 g rfl,ah,ah⟩,ah⟩,λg=> ?_⟩;have et:l.take i.toNat=l:=List.take_of_length_le ah;have el:((l++ [q]).length:Int)=l.length+1:=by rw [List.length_append,List.length_singleton];omega
 rw [et];refine⟨by rw [lc];omega,?_⟩;rw [el];have w:IntKind.i64.wrap ((l.length:Int)+1-3)=l.length+1-3:=w64 ah ah;rw [w];unfold Lh;refine⟨λg3=>⟨ah,ah,ah,ah,ah,ah,?_⟩,λg3=>by rw [show l.length+1-3=0 by omega];rfl⟩;rw [List.take_of_length_le ah,show((l.length:Int)+1-3).toNat=l.length+1-3 by omega]
structure aqA(pp:List Cer×Cer×Unit->Bool)(ff:List Cer×Cer×Unit->List Cer×Unit):Prop where
 hp:∀l q,ShC l->q.base.ops.length<1000000->q.made.ops.length<1000000->pp (l,q,())=true
 hf:∀l q,ShC l->q.base.ops.length<1000000->q.made.ops.length<1000000->ff (l,q,())=(Lh l q,())
def u8w{n:Int}:IntKind.u8.wrap n=n%256:=by
 simp [IntKind.wrap,IntKind.signed,IntKind.bits]
def opB(o:IOp):List Int:=[o.kind%256,o.x%256,o.y%256,o.k/256%256,o.k%256,o.at_%256]
def Jj(b:Blk):List Int:=[b.pc%256,b.len%256,b.fin%256,b.x%256,b.y%256,b.k/256%256,b.k%256]++b.ops.flatMap opB
noncomputable def irB (b:Blk):List Int:=if bp (cu b)=true then Jj b else []
def rdO(l:List Int)(p:Nat):IOp:=⟨l.getD p default,l.getD (p+1) default,l.getD (p+2) default,l.getD (p+3) default*256+l.getD (p+4) default,l.getD (p+5) default⟩
def vJ(l:List Int)(n:Nat):List IOp:=(List.range n).map λi=>rdO l (7+6*i)
def rdB(l:List Int):Blk:=⟨l.getD 0 default,l.getD 1 default,vJ l ((l.length-7)/6),l.getD 2 default,l.getD 3 default,l.getD 4 default,l.getD 5 default*256+l.getD 6 default⟩
def adS(l:List Int):Prop:=(7<=l.length/\(l.length-7)%6=0/\l.length<=295)/\irB (rdB l)=l
noncomputable def rdF (l:List Int):Int×Int×Int×Int×Int×Int×Bool×List IOp×Unit:=if bp (adS l)=true then((rdB l).pc,(rdB l).len,(rdB l).fin,(rdB l).x,(rdB l).y,(rdB l).k,true,(rdB l).ops,())else(0,0,0,0,0,0,false,[],())
def Z6(n:Int):0<=n%256/\n%256<=255:=by omega
def aiA(o:IOp):By (opB o):=by
 intro z hz;simp only [opB,List.mem_cons,List.not_mem_nil,or_false]at hz;rcases hz with h | h | h | h | h | h<;>subst h<;>exact Z6 _
def Jk(b:Blk):By (irB b):=by
 unfold irB;split
 .intro z hz;unfold Jj at hz;rcases List.mem_append.1 hz with h | h
  .simp only [List.mem_cons,List.not_mem_nil,or_false]at h;rcases h with h | h | h | h | h | h | h<;>subst h<;>exact Z6 _
  .obtain⟨o,_,ho⟩:=List.mem_flatMap.1 h;exact aiA o z ho
 .intro z hz;cases hz
def zo:∀ops:List IOp,(ops.flatMap opB).length=6*ops.length
 | []=>rfl
 | o::r=>by rw [List.flatMap_cons,List.length_append,zo r,List.length_cons];show 6+_=_;omega
def Z7(b:Blk):(Jj b).length=7+6*b.ops.length:=by
 unfold Jj;rw [List.length_append,zo];rfl
def Z8:∀(ops:List IOp) (i:Nat) (j:Nat),i<ops.length->j<6->(ops.flatMap opB).getD (6*i+j) default=(opB (ops.getD i default)).getD j default
 | [],_,_,h,_=>absurd h (by simp)
 | o::r,0,j,_,hj=>by
  rw [List.flatMap_cons,List.getD_eq_getElem?_getD,List.getElem?_append_left (by show _<6;omega),<-List.getD_eq_getElem?_getD,Nat.mul_zero,Nat.zero_add];rfl
 | o::r,i+1,j,h,hj=>by
  rw [List.flatMap_cons,List.getD_eq_getElem?_getD,List.getElem?_append_right (by show 6<=_;omega),<-List.getD_eq_getElem?_getD,show 6*(i+1)+j- (opB o).length=6*i+j by show 6*(i+1)+j-6=_;omega];exact Z8 r i j (by rw [List.length_cons]at h;omega) hj
def aiB(b:Blk)(i j:Nat)(hi:i<b.ops.length)(hj:j<6):(Jj b).getD (7+6*i+j) default=(opB (b.ops.getD i default)).getD j default:=by
 unfold Jj;rw [List.getD_eq_getElem?_getD,List.getElem?_append_right (by show 7<=_;omega),<-List.getD_eq_getElem?_getD];show(List.flatMap opB b.ops).getD (7+6*i+j-7) default=_;rw [show 7+6*i+j-7=6*i+j by omega];exact Z8 b.ops i j hi hj
structure OpR(o:IOp):Prop where
 kd:0<=o.kind/\o.kind<=255
 x:0<=o.x/\o.x<=255
 y:0<=o.y/\o.y<=255
 k:0<=o.k/\o.k<=65535
 at_:0<=o.at_/\o.at_<=255
structure aqB(pp:Blk×Unit->Bool)(ff:Blk×Unit->List Int×Unit):Prop where
 hp:∀b,b.ops.length<1000000000->pp (b,())=true
 hf:∀b,b.ops.length<1000000000->ff (b,())=(irB b,())
structure aqC(pp:List Int×Unit->Bool)(ff:List Int×Unit->Int×Int×Int×Int×Int×Int×Bool×List IOp×Unit):Prop where
 hp:∀l,By l->l.length<1000000000->pp (l,())=true
 hf:∀l,By l->l.length<1000000000->ff (l,())=rdF l
def szL(n m:Int):Int:=if m-n<0 then-1 else m-n
structure arI(pp:Blk×Int×Unit->Bool)(ff:Blk×Int×Unit->Int×Unit):Prop where
 hp:∀b m,b.ops.length<9223372036854775808->0<=m->m<=1048576->pp (b,m,())=true
 hf:∀b m,b.ops.length<9223372036854775808->0<=m->m<=1048576->ff (b,m,())=(szL b.ops.length m,())
def Wo(n:Int):Prop:=0<=n/\n<=65535
def Wos(l:List Int):Prop:=∀n∈l,Wo n
structure MOK(m:aG):Prop where
 r4:m.regs.length=4
 rw:Wos m.regs
 m64:m.mem.length=64
 mw:Wos m.mem
 pc:Wo m.pc
 sv:Wo m.save
 iw:Wos m.ins
 ow:Wos m.outs
 ha:0<=m.halt/\m.halt<=4
 ct:0<=m.count/\m.count<=1000000
def Jl(r a b:Int):Bool:=inB a 0 65535&&inB b 0 65535&&decide (r=1/\a=b\/r=2/\a<b)
structure MS where
 m:aG
 vals:List Int
 left:Bool
def vx(s:MS)(o:IOp):Int:=if hX o then((s.vals).getD (o.x).toNat default)else 0
def vy(s:MS)(o:IOp):Int:=if hY o then((s.vals).getD (o.y).toNat default)else 0
def mV(s:MS)(o:IOp):Int:=if o.kind=1 then o.k else if o.kind=2 then((s.m.regs).getD (o.k).toNat default)else if o.kind=3 then wdo o.k (vx s o) (vy s o)else if o.kind=4 then((s.m.mem).getD (vx s o).toNat default)else if o.kind=6 then s.m.ins.getD 0 default else 0
def mM(s:MS)(o:IOp):aG:=if o.kind=5 then {s.m with mem:=s.m.mem.set (vx s o).toNat (vy s o)}else if o.kind=6 then {s.m with ins:=s.m.ins.drop 1}else if o.kind=7 then {s.m with outs:=s.m.outs++ [vx s o]}else if o.kind=8 then {s.m with regs:=s.m.regs.set o.k.toNat (vx s o)}else s.m
def leave(m:aG)(n:Int)(h:Int):aG:={m with halt:=h,pc:=m.pc+n,count:=m.count+n}
def fO(b:Blk)(s:MS)(o:IOp):MS:=
 if s.left=true then s
 else if(o.kind=4\/o.kind=5)/\64<=vx s o then⟨leave s.m o.at_ 3,s.vals,true⟩
 else if o.kind=5/\b.pc+o.at_+1<=vx s o/\vx s o<=b.pc+b.len-1 then⟨leave (mM s o) (o.at_+1) (mM s o).halt,s.vals,true⟩
 else⟨mM s o,s.vals++ [mV s o],false⟩
def Qf(b:Blk)(s:MS):aG:=if s.left=true then s.m else {s.m with count:=s.m.count+b.len,pc:=if b.fin=1 then b.k else if b.fin=2 then((s.vals).getD (b.x).toNat default)else if Jl (b.fin-2) ((s.vals).getD (b.x).toNat default) ((s.vals).getD (b.y).toNat default)=true then b.k else b.pc+b.len}
def Li:aG:=⟨[],0,[],0,false,false,0,[],[],0⟩
noncomputable def oU (b:Blk) (m:aG):aG×Bool:=if bp (cu b/\MOK m)=true then(if m.halt≠0\/m.pc≠b.pc\/1000000-b.len<m.count then(m,false)else(Qf b (b.ops.foldl (fO b) ⟨m,[],false⟩),true))else(Li,false)
def bX(i:Ins):Prop:=(0<=i.op/\i.op<=15)/\(0<=i.d/\i.d<=3)/\(0<=i.a/\i.a<=3)/\0<=i.k/\
 (i.op=0->i.d=0/\i.a=0/\i.k<=3)/\(i.op=1->i.a=0/\i.k<=255)/\(i.op=2->i.k=0)/\(3<=i.op/\i.op<=7->i.k<=3)/\(i.op=8->i.k<=15)/\(9<=i.op/\i.op<=12->i.k<=255)/\(i.op=13->i.d=0/\i.k=0)/\(14<=i.op->i.a=0/\i.k=0)
def Qg(i:Ins):Int:=i.op*4096+i.d*1024+i.a*256+i.k
def gU(w:Int):Ins:=⟨w/4096,w/1024%4,w/256%4,w%256⟩
structure nG(pc:Int)(l:List Ins):Prop where
 ln:1<=l.length/\l.length<=8
 pc:0<=pc/\pc<=64-l.length
 ok:∀i:Nat,i<l.length->bX (l.getD i default)/\(l.getD i default).op≠0/\(11<=(l.getD i default).op/\(l.getD i default).op<=13->i+1=l.length)
def fH(n b:Int)(i:Ins):List IOp:=
 if i.op=1 then [⟨1,0,0,i.k,0⟩,⟨8,b,0,i.d,0⟩]
 else if i.op=2 then [⟨2,0,0,i.a,0⟩,⟨8,b,0,i.d,0⟩]
 else if i.op=8 then [⟨2,0,0,i.a,0⟩,⟨1,0,0,2^i.k.toNat,0⟩,⟨3,b,b+1,3,0⟩,⟨8,b+2,0,i.d,0⟩]
 else if i.op=9 then [⟨2,0,0,i.a,0⟩,⟨1,0,0,i.k,0⟩,⟨3,b,b+1,1,0⟩,⟨4,b+2,0,0,n⟩,⟨8,b+3,0,i.d,0⟩]
 else if i.op=10 then [⟨2,0,0,i.a,0⟩,⟨1,0,0,i.k,0⟩,⟨3,b,b+1,1,0⟩,⟨2,0,0,i.d,0⟩,⟨5,b+2,b+3,0,n⟩]
 else if i.op=14 then [⟨2,0,0,i.d,0⟩,⟨7,b,0,0,n⟩]
 else if i.op=15 then [⟨6,0,0,0,n⟩,⟨8,b,0,i.d,0⟩]
 else if i.op=11\/i.op=12 then [⟨2,0,0,i.d,0⟩,⟨2,0,0,i.a,0⟩]
 else if i.op=13 then [⟨2,0,0,i.a,0⟩]
 else [⟨2,0,0,i.a,0⟩,⟨2,0,0,i.k,0⟩,⟨3,b,b+1,i.op-2,0⟩,⟨8,b+2,0,i.d,0⟩]
def gH(n:Int)(b:Blk)(i:Ins):Blk:=
 if i.op=11\/i.op=12 then {b with ops:=b.ops++fH n b.ops.length i,fin:=i.op-8,x:=b.ops.length,y:=b.ops.length+1,k:=i.k}
 else if i.op=13 then {b with ops:=b.ops++fH n b.ops.length i,fin:=2,x:=b.ops.length,k:=0}
 else {b with ops:=b.ops++fH n b.ops.length i}
def l9:Int->Blk->List Ins->Blk
 | _,b,[]=>b
 | n,b,i::r=>l9 (n+1) (gH n b i) r
def xZ(pc:Int)(l:List Ins):Blk:=⟨pc,l.length,[],1,0,0,pc+l.length⟩
noncomputable def lower (pc:Int) (l:List Ins):Blk:=if bp (nG pc l)=true then l9 0 (xZ pc l) l else PG
def adr(m:aG)(i:Ins):Int:=(((m.regs).getD (i.a).toNat default)+i.k)%65536
def eff(m:aG)(i:Ins):aG:=
 if i.op=1 then {m with regs:=m.regs.set i.d.toNat i.k}
 else if i.op=2 then {m with regs:=m.regs.set i.d.toNat ((m.regs).getD (i.a).toNat default)}
 else if i.op=8 then {m with regs:=m.regs.set i.d.toNat (((m.regs).getD (i.a).toNat default)*2^i.k.toNat%65536)}
 else if i.op=9 then {m with regs:=m.regs.set i.d.toNat ((m.mem).getD (adr m i).toNat default)}
 else if i.op=10 then {m with mem:=m.mem.set (adr m i).toNat ((m.regs).getD (i.d).toNat default)}
 else if i.op=14 then {m with outs:=m.outs++ [((m.regs).getD (i.d).toNat default)]}
 else if i.op=15 then {m with regs:=m.regs.set i.d.toNat (m.ins.getD 0 default),ins:=m.ins.drop 1}
 else if i.op=0 then(if i.k=0 then {m with halt:=1}else if i.k=1 then {m with bF:=true}else {m with bF:=decide (i.k=2)})
 else if 11<=i.op then m
 else {m with regs:=m.regs.set i.d.toNat (wdo (i.op-2) ((m.regs).getD (i.a).toNat default) ((m.regs).getD (i.k).toNat default))}
def nxt(m:aG)(i:Ins):Int:=
 if i.op=0/\i.k=1 then m.save
 else if(i.op=11\/i.op=12)/\Jl (i.op-10) ((m.regs).getD (i.d).toNat default) ((m.regs).getD (i.a).toNat default)=true then i.k
 else if i.op=13 then((m.regs).getD (i.a).toNat default)
 else(m.pc+1)%65536
def exec(m:aG)(i:Ins):aG:=if(i.op=9\/i.op=10)/\64<=adr m i then {m with halt:=3}else {eff m i with pc:=nxt m i,count:=m.count+1}
noncomputable def stepM (m:aG) (irq:Bool):aG:=
 let w:=m.waits || irq
 let m1:aG:=if w=true/\m.bF=true then {m with waits:=false,bF:=false,save:=m.pc,pc:=48}else {m with waits:=w}
 if 64<=m1.pc then {m1 with halt:=4}
 else if bp (bX (gU ((m1.mem).getD (m1.pc).toNat default)))=false then {m1 with halt:=2}
 else exec m1 (gU ((m1.mem).getD (m1.pc).toNat default))
theorem Wos.at{l:List Int}(h:Wos l)(i:Int):Wo ((l).getD (i).toNat default):=by
 by_cases c:i.toNat<l.length
 .rw [getD_lt c];exact h _ (List.getElem_mem _)
 .rw [List.getD_eq_getElem?_getD,List.getElem?_eq_none ah];exact⟨by decide,by decide⟩
theorem Z9{k:Int}(h0:0<=k)(h1:k<=15):Wo (2^k.toNat):=by
 obtain⟨j,rfl⟩:∃j:Nat,k=j:=⟨k.toNat,ah⟩;have:j<=15:=by omega
 rw [show((j:Int)).toNat=j from rfl];have h:(2:Nat)^j<=2^15:=Nat.pow_le_pow_right (by decide) this;have e:((2:Int)^j)=((2^j:Nat):Int):=by simp
 rw [e];have h15:(2:Nat)^15=32768:=by decide
 rw [h15]at h;generalize (2:Nat)^j=z at h;exact⟨ah,ah⟩
section
variable (B:Blk) (m:aG) (v:List Int)
theorem st2(k:Int):fO B ⟨m,v,false⟩ ⟨2,0,0,k,0⟩=⟨m,v++ [((m.regs).getD (k).toNat default)],false⟩:=by simp [fO,mM,mV]
end
theorem SK(B:Blk)(m:aG)(v:List Int):∀l:List IOp,l.foldl (fO B) ⟨m,v,true⟩=⟨m,v,true⟩
 | []=>rfl
 | o::r=>by rw [List.foldl_cons,show fO B ⟨m,v,true⟩ o=⟨m,v,true⟩ by simp [fO]];exact SK B m v r
end Go.TX.F
namespace Go.TX.F
open Go Go.AE Go.TX
def MSh(m:aG):Prop:=m.regs.length<1000000000/\m.mem.length<1000000000/\m.ins.length<1000000000/\m.outs.length<1000000000
abbrev m10(m : aG) : Int × Int × Bool × Bool × Int × Int × List Int × List Int × List Int × List Int × Unit := (m.pc, m.save, m.bF, m.waits, m.halt, m.count, m.regs, m.mem, m.ins, m.outs, ())
abbrev mB(m : aG) : Int × Int × Bool × Bool × Int × List Int × Int × List Int × List Int × List Int × Unit := (m.pc, m.save, m.bF, m.waits, m.halt, m.ins, m.count, m.regs, m.mem, m.outs, ())
abbrev mR(x : aG × Bool) : Int × Int × Bool × Bool × Int × Int × Bool × List Int × List Int × List Int × List Int × Unit := (x.1.pc, x.1.save, x.1.bF, x.1.waits, x.1.halt, x.1.count, x.2, x.1.regs, x.1.mem, x.1.ins, x.1.outs, ())
def MRB:(∀m:aG,iE .au 0 .i64 m=m.regs)/\(∀m:aG,dB .au 1 m=m.pc)/\(∀m:aG,iE .au 2 .i64 m=m.mem)/\(∀m:aG,dB .au 3 m=m.save)/\(∀m:aG,ML .au 4 m=m.bF)/\(∀m:aG,ML .au 5 m=m.waits)/\(∀m:aG,dB .au 6 m=m.halt)/\(∀m:aG,iE .au 7 .i64 m=m.ins)/\(∀m:aG,iE .au 8 .i64 m=m.outs)/\(∀m:aG,dB .au 9 m=m.count):=
 ⟨λ_=>rfl,λ_=>rfl,λ_=>rfl,λ_=>rfl,λ_=>rfl,λ_=>rfl,λ_=>rfl,λ_=>rfl,λ_=>rfl,λ_=>rfl⟩
def EK{a b c:Int}:inB a b c=bp (b<=a/\a<=c):=by rw [pV];simp only [inB,Qa]
structure amR(pp:List Int×Unit->Bool)(ff:List Int×Unit->Bool×Unit):Prop where
 hp:∀l,l.length<1000000000->pp (l,())=true
 hf:∀l,l.length<1000000000->ff (l,())=(bp (Wos l),())
structure aqD(pp:List Int×Unit->Bool)(ff:List Int×Unit->List Int×Unit):Prop where
 hp:∀l,l.length<=1073741824->pp (l,())=true
 hf:∀l,l.length<=1073741824->ff (l,())=(l,())
def Wos.set{l:List Int}(h:Wos l){n:Int}(w:Wo n)(i:Nat):Wos (l.set i n):=λx hx=>(List.mem_or_eq_of_mem_set hx).elim (h x) (λe=>e▸w)
def Wos.drop{l:List Int}(h:Wos l)(i:Nat):Wos (l.drop i):=λx hx=>h x (List.mem_of_mem_drop hx)
def Wos.snoc{l:List Int}(h:Wos l){n:Int}(w:Wo n):Wos (l++ [n]):=λx hx=>by
 rw [List.mem_append,List.mem_singleton]at hx;exact hx.elim (h x) (λe=>e▸w)
def wo0:Wo 0:=⟨by decide,by decide⟩
def afp{s:MS}(h:Wos s.vals)(o:IOp):Wo (vx s o):=by
 unfold vx;split
 .exact h.at _
 .exact wo0
def amS{s:MS}(h:Wos s.vals)(o:IOp):Wo (vy s o):=by
 unfold vy;split
 .exact h.at _
 .exact wo0
def Wos.hd{l:List Int}(h:Wos l):Wo (l.getD 0 default):=h.at 0
def amT{s:MS}{o:IOp}(h:Wos s.vals)(k:MOK s.m)(k1:o.kind=1->0<=o.k/\o.k<=65535):Wo (mV s o):=by
 unfold mV;split
 .exact k1 ‹_›
 split
 .exact k.rw.at _
 split
 .exact Cy _ _ _
 split
 .exact k.mw.at _
 split
 .exact k.iw.hd
 .exact wo0
def amU{s:MS}(h:Wos s.vals)(k:MOK s.m)(o:IOp):MOK (mM s o):=by
 unfold mM;split
 .exact {k with m64:=by rw [List.length_set];exact k.m64,mw:=k.mw.set (amS h o) _}
 split
 .exact {k with iw:=k.iw.drop 1}
 split
 .exact {k with ow:=k.ow.snoc (afp h o)}
 split
 .exact {k with r4:=by rw [List.length_set];exact k.r4,rw:=k.rw.set (afp h o) _}
 .exact k
def aac(s:MS)(o:IOp):(mM s o).ins.length<=s.m.ins.length/\(mM s o).outs.length<=s.m.outs.length+1/\(mM s o).regs.length=s.m.regs.length/\(mM s o).mem.length=s.m.mem.length:=by
 unfold mM;split
 .exact⟨Nat.le_refl _,Nat.le_succ _,rfl,List.length_set⟩
 split
 .exact⟨by rw [List.length_drop];omega,Nat.le_succ _,rfl,rfl⟩
 split
 .exact⟨Nat.le_refl _,by rw [List.length_append];exact Nat.le_refl _,rfl,rfl⟩
 split
 .exact⟨Nat.le_refl _,Nat.le_succ _,List.length_set,rfl⟩
 .exact⟨Nat.le_refl _,Nat.le_succ _,rfl,rfl⟩
def amV(b:Blk)(s:MS)(o:IOp):(fO b s o).m.ins.length<=s.m.ins.length/\(fO b s o).m.outs.length<=s.m.outs.length+1/\(fO b s o).m.regs.length=s.m.regs.length/\(fO b s o).m.mem.length=s.m.mem.length:=by
 unfold fO;split
 .exact⟨Nat.le_refl _,Nat.le_succ _,rfl,rfl⟩
 split
 .exact⟨Nat.le_refl _,Nat.le_succ _,rfl,rfl⟩
 split
 .exact aac s o
 .exact aac s o
def Jm(b:Blk):∀(l:List IOp) (s:MS),(l.foldl (fO b) s).m.ins.length<=s.m.ins.length/\(l.foldl (fO b) s).m.outs.length<=s.m.outs.length+l.length/\(l.foldl (fO b) s).m.regs.length=s.m.regs.length/\(l.foldl (fO b) s).m.mem.length=s.m.mem.length
 | [],s=>⟨Nat.le_refl _,Nat.le_refl _,rfl,rfl⟩
 | o::l,s=>by
  rw [List.foldl_cons];have h:=Jm b l (fO b s o);have k:=amV b s o;simp only [List.length_cons];exact⟨ah,ah,ah,ah⟩
def adT{b:Blk}{m:aG}(hb:cu b)(hs:MSh m)(ho:m.outs.length<900000000):MSh (Qf b (b.ops.foldl (fO b) ⟨m,[],false⟩)):=by
 have h:=Jm b b.ops ⟨m,[],false⟩;have sz:=hb.sz;obtain⟨s1,s2,s3,s4⟩:=hs;dsimp only at h;unfold Qf;split<;>refine⟨?_,?_,?_,?_⟩<;>(try dsimp only)<;>omega
def SM(b:Blk)(m0:aG)(i:Nat):MS:=(b.ops.take i).foldl (fO b) ⟨m0,[],false⟩
structure RJ(b:Blk)(m0:aG)(i:Nat)(S:MS):Prop where
 e:S=SM b m0 i
 lf:S.left=false
 ln:S.vals.length=i
 wv:Wos S.vals
 ok:MOK S.m
 li:S.m.ins.length<1000000000
 lo:S.m.outs.length<=m0.outs.length+i
def SL{b:Blk}{m0:aG}{i:Nat}(hi:i<b.ops.length):SM b m0 (i+1)=fO b (SM b m0 i) (b.ops.getD i default):=by
 unfold SM;rw [List.take_succ_eq_append_getElem hi,List.foldl_append,getD_lt hi];rfl
def adU{b:Blk}{m0:aG}{i:Nat}{m:aG}{v:List Int}(h:SM b m0 i=⟨m,v,true⟩):b.ops.foldl (fO b) ⟨m0,[],false⟩=⟨m,v,true⟩:=by
 conv=>lhs;rw [<-List.take_append_drop i b.ops]
 rw [List.foldl_append,show(b.ops.take i).foldl (fO b) ⟨m0,[],false⟩=_ from h];exact SK b m v _
def RJ.next{b:Blk}{m0:aG}{i:Nat}{S:MS}{o:IOp}(h:RJ b m0 i S)(hi:i<b.ops.length)(ho:b.ops.getD i default=o)(k1:o.kind=1->0<=o.k/\o.k<=65535)
  (c1:¬((o.kind=4\/o.kind=5)/\64<=vx S o)) (c2:¬(o.kind=5/\b.pc+o.at_+1<=vx S o/\vx S o<=b.pc+b.len-1)):RJ b m0 (i+1) ⟨mM S o,S.vals++ [mV S o],false⟩:=by
 have l:=aac S o;refine⟨?_,rfl,by rw [List.length_append,h.ln];rfl,h.wv.snoc (amT h.wv h.ok k1),amU h.wv h.ok o,by have:=h.li;dsimp only;omega,by have:=h.lo;dsimp only;omega⟩;rw [SL hi,<-h.e,ho];unfold fO;rw [if_neg (by rw [h.lf];decide),if_neg c1,if_neg c2]
def aad(a b:Int):Jl 1 a b=(inB a 0 65535&&inB b 0 65535&&decide (a=b)):=by unfold Jl;simp
def aae(a b:Int):Jl 2 a b=(inB a 0 65535&&inB b 0 65535&&decide (a<b)):=by unfold Jl;simp
def RT(b:Blk)(m0:aG)(y:List IOp×Int×Int×Int×Int×Bool×Bool×Int×List Int×Int×List Int×List Int×Blk×List Int×List Int×Unit):Prop:=
 ∃(i:Nat) (S:MS),i<=b.ops.length/\RJ b m0 i S/\y=(b.ops,(b.ops.length:Int),(i:Int),S.m.pc,S.m.save,S.m.bF,S.m.waits,S.m.halt,S.m.ins,S.m.count,S.m.regs,S.m.mem,b,S.vals++List.replicate (b.ops.length-i) 0,S.m.outs,())
def RT.next{b:Blk}{m0:aG}{i:Nat}{S:MS}{o:IOp}{y:List IOp×Int×Int×Int×Int×Bool×Bool×Int×List Int×Int×List Int×List Int×Blk×List Int×List Int×Unit}(h:RJ b m0 i S)(hi:i<b.ops.length)(ho:b.ops.getD i default=o)(k1:o.kind=1->0<=o.k/\o.k<=65535)
  (c1:¬((o.kind=4\/o.kind=5)/\64<=vx S o)) (c2:¬(o.kind=5/\b.pc+o.at_+1<=vx S o/\vx S o<=b.pc+b.len-1))
  (e:y=(b.ops,(b.ops.length:Int),(i:Int)+1,(mM S o).pc,(mM S o).save,(mM S o).bF,(mM S o).waits,(mM S o).halt,(mM S o).ins,(mM S o).count,(mM S o).regs,(mM S o).mem,b,(S.vals++ [mV S o])++List.replicate (b.ops.length- (i+1)) 0,(mM S o).outs,())):
  RT b m0 y/\(b.ops.length-y.2.2.1).toNat< (b.ops.length- (i:Int)).toNat:=by
 subst e;exact⟨⟨i+1,_,hi,h.next hi ho k1 c1 c2,rfl⟩,by dsimp only;omega⟩
structure arJ(pp:Int×Int×Bool×Bool×Int×List Int×Int×List Int×List Int×List Int×Unit->Bool)(ff:Int×Int×Bool×Bool×Int×List Int×Int×List Int×List Int×List Int×Unit->Int×Int×Int×Bool×Bool×Int×List Int×Int×List Int×List Int×List Int×Unit):Prop where
 hp:∀(pc sv:Int) (lt wt:Bool) (ha:Int) (ins:List Int) (ct:Int) (regs mem outs:List Int),ins.length<1000000000->pp (pc,sv,lt,wt,ha,ins,ct,regs,mem,outs,())=true
 hf:∀(pc sv:Int) (lt wt:Bool) (ha:Int) (ins:List Int) (ct:Int) (regs mem outs:List Int),ins.length<1000000000->ff (pc,sv,lt,wt,ha,ins,ct,regs,mem,outs,())=(ins.getD 0 default,pc,sv,lt,wt,ha,ins.drop 1,ct,regs,mem,outs,())
structure aaf(pp:aG×Unit->Bool)(ff:aG×Unit->Int×Int×Bool×Bool×Int×Int×List Int×List Int×List Int×List Int×Unit):Prop where
 hp:∀m,MSh m->pp (m,())=true
 hf:∀m,MSh m->ff (m,())=m10 m
structure UY(pp:aG×Unit->Bool)(ff:aG×Unit->Bool×Unit):Prop where
 hp:∀m,MSh m->pp (m,())=true
 hf:∀m,MSh m->ff (m,())=(bp (MOK m),())
structure aiC(pp:Int×Unit->Bool)(ff:Int×Unit->Bool×Unit):Prop where
 hp:∀a,pp (a,())=true
 hf:∀a,ff (a,())=(inB a 11 13,())
structure adV(pp:Ins×Unit->Bool)(ff:Ins×Unit->Bool×Unit):Prop where
 hp:∀i,pp (i,())=true
 hf:∀i,ff (i,())=(bp (bX i),())
structure arK(pp:Int×Int×Int×Int×Int×Int×Int×Int×Int×Int×Int×List IOp×Unit->Bool)(ff:Int×Int×Int×Int×Int×Int×Int×Int×Int×Int×Int×List IOp×Unit->Int×Int×Int×Int×Int×Int×Int×Int×List IOp×Unit):Prop where
 hp:∀(kd x y k a1 a2 a3 a4 a5 a6 a:Int) (ops:List IOp),ops.length<1000000->pp (kd,x,y,k,a1,a2,a3,a4,a5,a6,a,ops,())=true
 hf:∀(kd x y k a1 a2 a3 a4 a5 a6 a:Int) (ops:List IOp),ops.length<1000000->ff (kd,x,y,k,a1,a2,a3,a4,a5,a6,a,ops,())=((ops.length:Int),a1,a2,a3,a4,a5,a6,a,ops++ [⟨kd,x,y,k,if 4<=kd/\kd<=7 then a else 0⟩],())
def aag(n b:Int)(i:Ins):(fH n b i).length<=5:=by
 unfold fH;repeat' split
 all_goals simp only [List.length_cons,List.length_nil]
 all_goals omega
def aah(n:Int)(b:Blk)(i:Ins):(gH n b i).ops.length<=b.ops.length+5:=by
 have:=aag n b.ops.length i;unfold gH;repeat' split
 all_goals (dsimp only;rw [List.length_append];omega)
def AZ:∀(l:List Ins) (n:Int) (b:Blk) (i:Ins),l9 n b (l++ [i])=gH (n+l.length) (l9 n b l) i
 | [],n,b,i=>by simp [l9]
 | j::l,n,b,i=>by
  show l9 (n+1) (gH n b j) (l++ [i])=gH _ (l9 (n+1) (gH n b j) l) i;rw [AZ l (n+1) (gH n b j) i,List.length_cons,show n+1+(l.length:Int)=n+((l.length+1:Nat):Int) by omega]
def EM:∀(l:List Ins) (n:Int) (b:Blk),(l9 n b l).ops.length<=b.ops.length+5*l.length
 | [],_,_=>Nat.le_refl _
 | i::l,n,b=>by
  show(l9 (n+1) (gH n b i) l).ops.length<=_;have:=EM l (n+1) (gH n b i);have:=aah n b i;rw [List.length_cons];omega
structure arL(pp:Int×List Ins×Unit->Bool)(ff:Int×List Ins×Unit->Bool×Unit):Prop where
 hp:∀pc l,l.length<1000000000->pp (pc,l,())=true
 hf:∀pc l,l.length<1000000000->ff (pc,l,())=(bp (nG pc l),())
def OKS(ops:List IOp)(len:Int):Prop:=∀j:Int,0<=j->j<ops.length->lC ops len j ((ops).getD (j).toNat default)
theorem amW{ops w:List IOp}{x:Int}(h0:0<=x)(h:x<ops.length):((ops++w).getD (x).toNat default)=((ops).getD (x).toNat default):=by
 rw [List.getD_eq_getElem?_getD,List.getElem?_append_left ah,<-List.getD_eq_getElem?_getD]
theorem amX{ops w:List IOp}{t:Nat}:((ops++w).getD ((ops.length:Int)+t).toNat default)=w.getD t default:=by
 rw [List.getD_eq_getElem?_getD,List.getElem?_append_right ah,<-List.getD_eq_getElem?_getD,show((ops.length:Int)+t).toNat-ops.length=t by omega]
theorem Vl.mono{ops w:List IOp}{x n n':Int}(h:Vl ops x n)(h1:n<=ops.length)(h2:n<=n'):Vl (ops++w) x n':=by
 obtain⟨a,b,c⟩:=h;exact⟨a,ah,by rw [amW a ah];exact c⟩
theorem lC.mono{ops w:List IOp}{len i:Int}{o:IOp}(h:lC ops len i o)(h1:i<=ops.length):lC (ops++w) len i o:=
 {h with x1:=λg=>(h.x1 g).mono h1 (Int.le_refl _),y1:=λg=>(h.y1 g).mono h1 (Int.le_refl _)}
theorem OKS.app{ops w:List IOp}{len:Int}(h:OKS ops len)(hw:∀t:Nat,t<w.length->lC (ops++w) len ((ops.length:Int)+t) (w.getD t default)):OKS (ops++w) len:=λj j0 j1=>by
 rw [List.length_append]at j1;by_cases c:j<ops.length
 .rw [amW j0 c];exact(h j j0 c).mono ah
 .obtain⟨t,rfl⟩:∃t:Nat,j=(ops.length:Int)+t:=⟨(j-ops.length).toNat,ah⟩;rw [amX];exact hw t ah
theorem SN(ops w:List IOp)(s t:Nat)(h:s<t)(m:mkV (w.getD s default)):Vl (ops++w) ((ops.length:Int)+s) ((ops.length:Int)+t):=⟨ah,ah,by rw [amX];exact m⟩
section
variable {ops:List IOp} {len i x y k n:Int}
theorem ok1(h:0<=k/\k<=65535):lC ops len i ⟨1,0,0,k,0⟩:=by constructor<;>simp [hX,hY,evO]<;>omega
theorem ok2(h:0<=k/\k<=3):lC ops len i ⟨2,0,0,k,0⟩:=by constructor<;>simp [hX,hY,evO]<;>omega
theorem ok3(h:1<=k/\k<=5)(hx:Vl ops x i)(hy:Vl ops y i):lC ops len i ⟨3,x,y,k,0⟩:=by constructor<;>simp [hX,hY,evO,hx,hy]<;>omega
theorem ok4(h:0<=n/\n<len)(hx:Vl ops x i):lC ops len i ⟨4,x,0,0,n⟩:=by constructor<;>simp [hX,hY,evO,hx]<;>omega
theorem ok5(h:0<=n/\n<len)(hx:Vl ops x i)(hy:Vl ops y i):lC ops len i ⟨5,x,y,0,n⟩:=by constructor<;>simp [hX,hY,evO,hx,hy]<;>omega
theorem ok6(h:0<=n/\n<len):lC ops len i ⟨6,0,0,0,n⟩:=by constructor<;>simp [hX,hY,evO]<;>omega
theorem ok7(h:0<=n/\n<len)(hx:Vl ops x i):lC ops len i ⟨7,x,0,0,n⟩:=by constructor<;>simp [hX,hY,evO,hx]<;>omega
theorem ok8(h:0<=k/\k<=3)(hx:Vl ops x i):lC ops len i ⟨8,x,0,k,0⟩:=by constructor<;>simp [hX,hY,evO,hx]<;>omega
end
theorem SQ{ops:List IOp}{len n:Int}{i:Ins}(h:OKS ops len)(hi:bX i)(h0:i.op≠0)(hn:0<=n/\n<len):OKS (ops++fH n ops.length i) len/\
  (i.op=11\/i.op=12->Vl (ops++fH n ops.length i) ops.length ((ops++fH n ops.length i).length)/\Vl (ops++fH n ops.length i) (ops.length+1) ((ops++fH n ops.length i).length))/\
  (i.op=13->Vl (ops++fH n ops.length i) ops.length ((ops++fH n ops.length i).length)):=by
 obtain⟨⟨o0,o1⟩,⟨d0,d1⟩,⟨a0,a1⟩,k0,_,r1,r2,r3,r8,r9,r13,r14⟩:=hi;have v0:=λ(w:List IOp) (t:Nat) (h:0<t) (m:mkV (w.getD 0 default))=>show Vl (ops++w) (ops.length:Int) ((ops.length:Int)+t)from by have:=SN ops w 0 t h m;rwa [Int.natCast_zero,Int.add_zero]at this
 have v1:=λ(w:List IOp) (t:Nat) (h:1<t) (m:mkV (w.getD 1 default))=>SN ops w 1 t h m
 have v2:=λ(w:List IOp) (t:Nat) (h:2<t) (m:mkV (w.getD 2 default))=>SN ops w 2 t h m
 have v3:=λ(w:List IOp) (t:Nat) (h:3<t) (m:mkV (w.getD 3 default))=>SN ops w 3 t h m
 have m1:∀a b c d:Int,mkV ⟨1,a,b,c,d⟩:=λ_ _ _ _=>by unfold mkV;dsimp only;omega
 have m2:∀a b c d:Int,mkV ⟨2,a,b,c,d⟩:=λ_ _ _ _=>by unfold mkV;dsimp only;omega
 have m3:∀a b c d:Int,mkV ⟨3,a,b,c,d⟩:=λ_ _ _ _=>by unfold mkV;dsimp only;omega
 have m4:∀a b c d:Int,mkV ⟨4,a,b,c,d⟩:=λ_ _ _ _=>by unfold mkV;dsimp only;omega
 have m6:∀a b c d:Int,mkV ⟨6,a,b,c,d⟩:=λ_ _ _ _=>Or.inr rfl
 rcases(by omega:i.op=1\/i.op=2\/(3<=i.op/\i.op<=7)\/i.op=8\/i.op=9\/i.op=10\/(i.op=11\/i.op=12)\/i.op=13\/i.op=14\/i.op=15)with c | c | c | c | c | c | c | c | c | c
 .have e:fH n ops.length i=[⟨1,0,0,i.k,0⟩,⟨8,ops.length,0,i.d,0⟩]:=by unfold fH;rw [if_pos c]
  rw [e];refine⟨h.app λt ht=> ?_,λg=>by omega,λg=>by omega⟩;rcases t with _ | _ | t
  .exact ok1 (by have:=r1 c;omega)
  .exact ok8 ⟨d0,d1⟩ (v0 _ 1 (by decide) (m1 _ _ _ _))
  .simp only [List.length_cons,List.length_nil]at ht;omega
 .have e:fH n ops.length i=[⟨2,0,0,i.a,0⟩,⟨8,ops.length,0,i.d,0⟩]:=by unfold fH;rw [if_neg ah,if_pos c]
  rw [e];refine⟨h.app λt ht=> ?_,λg=>by omega,λg=>by omega⟩;rcases t with _ | _ | t
  .exact ok2 ⟨a0,a1⟩
  .exact ok8 ⟨d0,d1⟩ (v0 _ 1 (by decide) (m2 _ _ _ _))
  .simp only [List.length_cons,List.length_nil]at ht;omega
 .have e:fH n ops.length i=[⟨2,0,0,i.a,0⟩,⟨2,0,0,i.k,0⟩,⟨3,ops.length,ops.length+1,i.op-2,0⟩,⟨8,ops.length+2,0,i.d,0⟩]:=by
   unfold fH
   iterate 9 rw [if_neg ah]
  rw [e];refine⟨h.app λt ht=> ?_,λg=>by omega,λg=>by omega⟩;rcases t with _ | _ | _ | _ | t
  .exact ok2 ⟨a0,a1⟩
  .exact ok2 ⟨k0,r3 c⟩
  .exact ok3 ah (v0 _ 2 (by decide) (m2 _ _ _ _)) (v1 _ 2 (by decide) (m2 _ _ _ _))
  .exact ok8 ⟨d0,d1⟩ (v2 _ 3 (by decide) (m3 _ _ _ _))
  .simp only [List.length_cons,List.length_nil]at ht;omega
 .have e:fH n ops.length i=[⟨2,0,0,i.a,0⟩,⟨1,0,0,2^i.k.toNat,0⟩,⟨3,ops.length,ops.length+1,3,0⟩,⟨8,ops.length+2,0,i.d,0⟩]:=by
   unfold fH;rw [if_neg ah,if_neg ah,if_pos c]
  rw [e];refine⟨h.app λt ht=> ?_,λg=>by omega,λg=>by omega⟩;rcases t with _ | _ | _ | _ | t
  .exact ok2 ⟨a0,a1⟩
  .exact ok1 (Z9 k0 (r8 c))
  .exact ok3 (by decide) (v0 _ 2 (by decide) (m2 _ _ _ _)) (v1 _ 2 (by decide) (m1 _ _ _ _))
  .exact ok8 ⟨d0,d1⟩ (v2 _ 3 (by decide) (m3 _ _ _ _))
  .simp only [List.length_cons,List.length_nil]at ht;omega
 .have e:fH n ops.length i=[⟨2,0,0,i.a,0⟩,⟨1,0,0,i.k,0⟩,⟨3,ops.length,ops.length+1,1,0⟩,⟨4,ops.length+2,0,0,n⟩,⟨8,ops.length+3,0,i.d,0⟩]:=by
   unfold fH;rw [if_neg ah,if_neg ah,if_neg ah,if_pos c]
  have r:=r9 ah;rw [e];refine⟨h.app λt ht=> ?_,λg=>by omega,λg=>by omega⟩;rcases t with _ | _ | _ | _ | _ | t
  .exact ok2 ⟨a0,a1⟩
  .exact ok1 ah
  .exact ok3 (by decide) (v0 _ 2 (by decide) (m2 _ _ _ _)) (v1 _ 2 (by decide) (m1 _ _ _ _))
  .exact ok4 hn (v2 _ 3 (by decide) (m3 _ _ _ _))
  .exact ok8 ⟨d0,d1⟩ (v3 _ 4 (by decide) (m4 _ _ _ _))
  .simp only [List.length_cons,List.length_nil]at ht;omega
 .have e:fH n ops.length i=[⟨2,0,0,i.a,0⟩,⟨1,0,0,i.k,0⟩,⟨3,ops.length,ops.length+1,1,0⟩,⟨2,0,0,i.d,0⟩,⟨5,ops.length+2,ops.length+3,0,n⟩]:=by
   unfold fH;rw [if_neg ah,if_neg ah,if_neg ah,if_neg ah,if_pos c]
  have r:=r9 ah;rw [e];refine⟨h.app λt ht=> ?_,λg=>by omega,λg=>by omega⟩;rcases t with _ | _ | _ | _ | _ | t
  .exact ok2 ⟨a0,a1⟩
  .exact ok1 ah
  .exact ok3 (by decide) (v0 _ 2 (by decide) (m2 _ _ _ _)) (v1 _ 2 (by decide) (m1 _ _ _ _))
  .exact ok2 ⟨d0,d1⟩
  .exact ok5 hn (v2 _ 4 (by decide) (m3 _ _ _ _)) (v3 _ 4 (by decide) (m2 _ _ _ _))
  .simp only [List.length_cons,List.length_nil]at ht;omega
 .have e:fH n ops.length i=[⟨2,0,0,i.d,0⟩,⟨2,0,0,i.a,0⟩]:=by
   unfold fH
   iterate 7 rw [if_neg ah]
   rw [if_pos c]
  have el:∀a b:IOp,(((ops++ [a,b]).length:Nat):Int)=(ops.length:Int)+((2:Nat):Int):=λa b=>by rw [List.length_append];rfl
  rw [e];refine⟨h.app λt ht=> ?_,λg=> ?_,λg=>by omega⟩
  .rcases t with _ | _ | t
   .exact ok2 ⟨d0,d1⟩
   .exact ok2 ⟨a0,a1⟩
   .simp only [List.length_cons,List.length_nil]at ht;omega
  .rw [el];exact⟨v0 _ 2 (by decide) (m2 _ _ _ _),v1 _ 2 (by decide) (m2 _ _ _ _)⟩
 .have e:fH n ops.length i=[⟨2,0,0,i.a,0⟩]:=by
   unfold fH
   iterate 8 rw [if_neg ah]
   rw [if_pos c]
  have el:∀a:IOp,(((ops++ [a]).length:Nat):Int)=(ops.length:Int)+((1:Nat):Int):=λa=>by rw [List.length_append];rfl
  rw [e];refine⟨h.app λt ht=> ?_,λg=>by omega,λg=> ?_⟩
  .rcases t with _ | t
   .exact ok2 ⟨a0,a1⟩
   .simp only [List.length_cons,List.length_nil]at ht;omega
  .rw [el];exact v0 _ 1 (by decide) (m2 _ _ _ _)
 .have e:fH n ops.length i=[⟨2,0,0,i.d,0⟩,⟨7,ops.length,0,0,n⟩]:=by
   unfold fH
   iterate 5 rw [if_neg ah]
   rw [if_pos c]
  rw [e];refine⟨h.app λt ht=> ?_,λg=>by omega,λg=>by omega⟩;rcases t with _ | _ | t
  .exact ok2 ⟨d0,d1⟩
  .exact ok7 hn (v0 _ 1 (by decide) (m2 _ _ _ _))
  .simp only [List.length_cons,List.length_nil]at ht;omega
 .have e:fH n ops.length i=[⟨6,0,0,0,n⟩,⟨8,ops.length,0,i.d,0⟩]:=by
   unfold fH
   iterate 6 rw [if_neg ah]
   rw [if_pos c]
  rw [e];refine⟨h.app λt ht=> ?_,λg=>by omega,λg=>by omega⟩;rcases t with _ | _ | t
  .exact ok6 hn
  .exact ok8 ⟨d0,d1⟩ (v0 _ 1 (by decide) (m6 _ _ _ _))
  .simp only [List.length_cons,List.length_nil]at ht;omega
end Go.TX.F
namespace Go.TX.F
open Go Go.AE Go.TX
def Mid(i:Ins):Prop:=bX i/\i.op≠0/\¬(11<=i.op/\i.op<=13)
def aai{n:Int}{b:Blk}{i:Ins}(h:Mid i):gH n b i={b with ops:=b.ops++fH n b.ops.length i}:=by
 obtain⟨_,_,h3⟩:=h;unfold gH;rw [if_neg ah,if_neg ah]
def Lj:∀(r:List Ins) (n:Int) (b:Blk),(∀i∈r,Mid i)->OKS b.ops b.len->0<=n->n+r.length<=b.len->OKS (l9 n b r).ops b.len/\l9 n b r={b with ops:=(l9 n b r).ops}
 | [],n,b,_,h,_,_=>⟨h,rfl⟩
 | i::r,n,b,hr,h,h0,h1=>by
  have hi:=hr i (List.mem_cons_self ..);simp only [List.length_cons]at h1;have k:=SQ (n:=n) h hi.1 hi.2.1 ⟨h0,ah⟩;have e:=aai (n:=n) (b:=b) hi;show OKS (l9 (n+1) (gH n b i) r).ops b.len/\l9 (n+1) (gH n b i) r={b with ops:=(l9 (n+1) (gH n b i) r).ops};have ih:=Lj r (n+1) (gH n b i) (λj hj=>hr j (List.mem_cons_of_mem _ hj)) (by rw [e];exact k.1) ah (by rw [e];dsimp only;omega);rw [e]at ih ⊢;exact ih
def aaj(n:Int)(b:Blk)(i:Ins):(gH n b i).ops=b.ops++fH n b.ops.length i:=by
 unfold gH;split
 .rfl
 split<;>rfl
def UZ{pc:Int}{l:List Ins}(h:nG pc l):∃r i,l=r++ [i]/\(∀j∈r,Mid j)/\bX i/\i.op≠0:=by
 have ln:=h.ln;rcases List.eq_nil_or_concat l with e | ⟨r,i,e⟩
 .subst e;simp at ln
 rw [List.concat_eq_append]at e;subst e;refine⟨r,i,rfl,λj hj=> ?_,?_,?_⟩
 .obtain⟨t,ht,rfl⟩:=List.getElem_of_mem hj;have:=h.ok t (by rw [List.length_append];omega);rw [List.getD_eq_getElem?_getD,List.getElem?_append_left ht,List.getElem?_eq_getElem ht]at this;obtain⟨a,b,c⟩:=this;refine⟨a,b,λg=> ?_⟩;have:=c g;rw [List.length_append,List.length_singleton]at this;omega
 .have:=h.ok r.length (by rw [List.length_append,List.length_singleton];omega);rw [List.getD_eq_getElem?_getD,List.getElem?_append_right (Nat.le_refl _),Nat.sub_self]at this;exact this.1
 .have:=h.ok r.length (by rw [List.length_append,List.length_singleton];omega);rw [List.getD_eq_getElem?_getD,List.getElem?_append_right (Nat.le_refl _),Nat.sub_self]at this;exact this.2.1
theorem mg{pc:Int}{l:List Ins}(h:nG pc l):cu (lower pc l):=by
 have ln:=h.ln;have hp:=h.pc;have e0:lower pc l=l9 0 (xZ pc l) l:=by unfold lower;rw [aP h,if_pos rfl]
 have sz:=EM l 0 (xZ pc l);obtain⟨r,i,e,hr,hi,h0⟩:=UZ h;have rl:l.length=r.length+1:=by rw [e,List.length_append,List.length_singleton]
 have k0:OKS (xZ pc l).ops (xZ pc l).len:=λj j0 j1=>absurd j1 (by show¬j< ((0:Nat):Int);omega)
 obtain⟨a1,a2⟩:=Lj r 0 (xZ pc l) hr k0 ah (by show 0+(r.length:Int)<=(l.length:Int);omega);have e1:lower pc l=gH r.length (l9 0 (xZ pc l) r) i:=by
  rw [e0]
  conv=>lhs;rw [e]
  rw [AZ,<-e];simp
 obtain⟨b1,b2,b3⟩:=SQ (n:=r.length) a1 hi h0 ⟨ah,by show(r.length:Int)< (l.length:Int);omega⟩;have eo:=aaj r.length (l9 0 (xZ pc l) r) i;rw [<-e0]at sz;generalize hB:(l9 0 (xZ pc l) r).ops=ops at*;have z0:(xZ pc l).ops.length=0:=rfl;have F:(lower pc l).pc=pc/\(lower pc l).len=l.length:=by
  rw [e1,a2];unfold gH;split
  .exact⟨rfl,rfl⟩
  split<;>exact⟨rfl,rfl⟩
 have O:(lower pc l).ops=ops++fH r.length ops.length i:=by rw [e1];exact eo
 refine⟨by rw [F.2];omega,by rw [F.1,F.2];omega,ah,?_,?_⟩
 .rw [O,F.2];exact λj j0 j1=>b1 j j0 j1
 .by_cases c:i.op=11\/i.op=12
  .obtain⟨v1,v2⟩:=b2 c;have E:lower pc l=⟨pc,l.length,ops++fH r.length ops.length i,i.op-8,ops.length,ops.length+1,i.k⟩:=by rw [e1,a2];unfold gH;rw [if_pos c];rfl
   have kk:=hi.2.2.2.2.2.2.2.2.2.1;rw [E];refine⟨by dsimp only;omega,λ_=>v1,λg=>by dsimp only at g;omega,λ_=>v2,λg=>by dsimp only at g;omega,λ_=> ?_,λg=>by dsimp only at g;omega⟩;have:=hi.2.2.2.1;have:=kk ah;dsimp only;omega
  by_cases d:i.op=13
  .have v1:=b3 d;have E:lower pc l=⟨pc,l.length,ops++fH r.length ops.length i,2,ops.length,0,0⟩:=by rw [e1,a2];unfold gH;rw [if_neg c,if_pos d];rfl
   rw [E];exact⟨by dsimp only;omega,λ_=>v1,λg=>by dsimp only at g;omega,λg=>by dsimp only at g;omega,λ_=>rfl,λg=>absurd rfl g,λ_=>rfl⟩
  .have E:lower pc l=⟨pc,l.length,ops++fH r.length ops.length i,1,0,0,pc+l.length⟩:=by rw [e1,a2];unfold gH;rw [if_neg c,if_neg d];rfl
   rw [E];exact⟨by dsimp only;omega,λg=>absurd rfl g,λ_=>rfl,λg=>by dsimp only at g;omega,λ_=>rfl,λ_=>by dsimp only;omega,λg=>by dsimp only at g;omega⟩
def aiD{m:aG}(h:MOK m){i:Ins}(hi:bX i):MOK (eff m i):=by
 obtain⟨⟨o0,o1⟩,⟨d0,d1⟩,⟨a0,a1⟩,k0,r0,r1,r2,r3,r8,r9,r13,r14⟩:=hi;have rs:∀(j:Nat) (v:Int),Wo v->MOK {m with regs:=m.regs.set j v}:=λj v w=> {h with r4:=by rw [List.length_set];exact h.r4,rw:=h.rw.set w j}
 unfold eff;split
 .exact rs _ _ ⟨k0,by have:=r1 ‹_›;omega⟩
 split
 .exact rs _ _ (h.rw.at _)
 split
 .exact rs _ _ (by unfold Wo;omega)
 split
 .exact rs _ _ (h.mw.at _)
 split
 .exact {h with m64:=by rw [List.length_set];exact h.m64,mw:=h.mw.set (h.rw.at _) _}
 split
 .exact {h with ow:=h.ow.snoc (h.rw.at _)}
 split
 .exact {rs i.d.toNat (m.ins.getD 0 default) h.iw.hd with iw:=h.iw.drop 1}
 split
 .split
  .exact {h with ha:=⟨show(0:Int)<=1 by decide,show(1:Int)<=4 by decide⟩}
  split
  .exact {h with}
  .exact {h with}
 split
 .exact h
 .exact rs _ _ (Cy _ _ _)
abbrev upd(m : aG)(u v : Int) : aG := { m with count := u, pc := v }
abbrev mD(y : Blk × Int × List Int × Int × Bool × Bool × Int × List Int × Int × List Int × List Int × Unit) : aG := ⟨y.2.2.2.2.2.2.2.2.2.1, y.2.1, y.2.2.1, y.2.2.2.1, y.2.2.2.2.1, y.2.2.2.2.2.1, y.2.2.2.2.2.2.1, y.2.2.2.2.2.2.2.1, y.2.2.2.2.2.2.2.2.2.2.1, y.2.2.2.2.2.2.2.2.1⟩
structure arM(pp:Int×List Ins×Unit->Bool)(ff:Int×List Ins×Unit->Int×Int×Int×Int×Int×Int×List IOp×Unit):Prop where
 hp:∀pc l,l.length<1000000000->pp (pc,l,())=true
 hf:∀pc l,l.length<1000000000->ff (pc,l,())=bk7 (lower pc l)
structure arN(pp:Blk×aG×Unit->Bool)(ff:Blk×aG×Unit->Int×Int×Bool×Bool×Int×Int×Bool×List Int×List Int×List Int×List Int×Unit):Prop where
 hp:∀b m,b.ops.length<1000000000->MSh m->m.outs.length<900000000->pp (b,m,())=true
 hf:∀b m,b.ops.length<1000000000->MSh m->m.outs.length<900000000->ff (b,m,())=mR (oU b m)
structure arO(pp:aG×aG×Unit->Bool)(ff:aG×aG×Unit->Bool×Unit):Prop where
 hp:∀a b,MSh a->pp (a,b,())=true
 hf:∀a b,MSh a->ff (a,b,())=(bp (a=b),())
structure arP(pp:List Int×Unit->Bool)(ff:List Int×Unit->Int×List Ins×Unit):Prop where
 hp:∀c,By c->c.length<1000000000->pp (c,())=true
 hf:∀c,By c->c.length<1000000000->(ff (c,())).2.1.length<1000
structure arQ(pp:List Int×Unit->Bool)(ff:List Int×Unit->Blk×Int×List Int×Int×Bool×Bool×Int×List Int×Int×List Int×List Int×Unit):Prop where
 hp:∀c,By c->c.length<1000000000->pp (c,())=true
 hf:∀c,By c->c.length<1000000000->MSh (mD (ff (c,())))/\(mD (ff (c,()))).outs.length<800000000/\(ff (c,())).1.ops.length<1000000
def aiE{p1 f1}(U1:Y9 p1 f1)(l:List Int)(h:l.length<1000000000):Nq.F (p1,f1,()) (l,()) (λy=>y=(bp (Wos l),())):=by
 dsimp only [Nq,gm];simp (disch:=omega) only [RR];refine aB (λ(y:List Int×Int×Unit)=>y.1=l/\0<=y.2.1/\y.2.1<=l.length/\Wos (l.take y.2.1.toNat)) (λy=>(l.length-y.2.1).toNat) ⟨rfl,by simp,by simp,by intro n hn;cases hn⟩ ?_;rintro⟨(l:List Int),(i:Int),⟨⟩⟩ hI;dsimp only at hI ⊢;obtain⟨rfl,h1,h2,h3⟩:=hI;simp (disch:=omega) only [RR,U1.hp,U1.hf,dF,qB];refine⟨λg=>⟨h1,g,λe=> ?_,λe=>⟨⟨ah,ah,?_⟩,ah⟩⟩,λg=> ?_⟩
 .rw [bL];intro v;exact e (v _ (dD h1 g))
 .rw [show(i+1).toNat=i.toNat+1 by omega];intro n hn;rw [List.take_succ_eq_append_getElem ah,List.mem_append,List.mem_singleton]at hn;rcases hn with hn | rfl
  .exact h3 n hn
  .rw [getD_lt ah]at e;exact e
 .rw [List.take_of_length_le ah]at h3;rw [aP h3]
def amY{p1 f1 p2 f2 p3 f3}(U1:Y9 p1 f1)(U2:Y1 p2 f2)(U3:amR p3 f3)(m:aG)(h:MSh m):Xw.F (p1,f1,p2,f2,p3,f3,()) (m,()) (λy=>y=(bp (MOK m),())):=by
 obtain⟨a1,a2,a3,a4⟩:=h;dsimp only [Xw,gm];simp (disch:=omega) only [RR,MRB,U1.hp,U1.hf,U2.hp,U2.hf,U3.hp _ a1,U3.hf _ a1,U3.hp _ a2,U3.hf _ a2,U3.hp _ a3,U3.hf _ a3,U3.hp _ a4,U3.hf _ a4,EK,Qa];simp only [<-pV];refine Prod.ext (xQ ⟨λh=> ?_,λh=> ?_⟩) rfl
 .obtain⟨⟨⟨⟨⟨⟨⟨⟨⟨h1,h2⟩,h3⟩,h4⟩,h5⟩,h6⟩,h7⟩,h8⟩,h9⟩,h10⟩:=h;exact⟨ah,h2,ah,h5,h3,h6,h8,h9,h7,h10⟩
 .exact⟨⟨⟨⟨⟨⟨⟨⟨⟨by have:=h.r4;omega,h.rw⟩,h.pc⟩,by have:=h.m64;omega⟩,h.mw⟩,h.sv⟩,h.ha⟩,h.iw⟩,h.ow⟩,h.ct⟩
def aak(m:aG)(h:MSh m):Nt.F () (m,()) (λy=>y=m10 m):=by
 obtain⟨a1,a2,a3,a4⟩:=h;dsimp only [Nt,gm];simp (disch:=omega) only [RR,MRB,List.nil_append,List.length_nil];exact⟨ah,ah,ah,ah⟩
def aal(m:aG)(h:Int):OJ.F () (m.pc,m.save,m.bF,m.waits,m.halt,m.ins,m.count,h,m.regs,m.mem,m.outs,()) (λy=>y=mB {m with halt:=h}):=by
 dsimp only [OJ,gm]
def aiF{p1 f1}(U1:Y10 p1 f1)(m:aG)(n:Int)(h:0<=m.count/\m.count<=1000000):OL.F (p1,f1,()) (m.pc,m.save,m.bF,m.waits,m.halt,m.ins,m.count,n,m.regs,m.mem,m.outs,()) (λy=>y=mB {m with pc:=n%65536,count:=m.count+1}):=by
 dsimp only [OL,gm];simp (disch:=omega) only [RR,U1.hp,U1.hf]
structure aam(pp:Int×Int×Bool×Bool×Int×List Int×Int×Int×List Int×List Int×List Int×Unit->Bool)(ff:Int×Int×Bool×Bool×Int×List Int×Int×Int×List Int×List Int×List Int×Unit->Int×Int×Bool×Bool×Int×List Int×Int×List Int×List Int×List Int×Unit):Prop where
 hp:∀(m:aG) (n:Int),(0<=m.count/\m.count<=1000000)->pp (m.pc,m.save,m.bF,m.waits,m.halt,m.ins,m.count,n,m.regs,m.mem,m.outs,())=true
 hf:∀(m:aG) (n:Int),(0<=m.count/\m.count<=1000000)->ff (m.pc,m.save,m.bF,m.waits,m.halt,m.ins,m.count,n,m.regs,m.mem,m.outs,())=mB {m with pc:=n%65536,count:=m.count+1}
def aan{p1 f1}(U1:aam p1 f1)(m:aG)(d v:Int)(h:MOK m)(d0:0<=d)(d1:d<=3):OO.F (p1,f1,()) (m.pc,m.save,m.bF,m.waits,m.halt,m.ins,m.count,d,v,m.regs,m.mem,m.outs,()) (λy=>y=mB {m with regs:=m.regs.set d.toNat v,pc:=(m.pc+1)%65536,count:=m.count+1}):=by
 have r4:=h.r4;have c:=h.ct;have pw:0<=m.pc/\m.pc<=65535:=h.pc;have H:=U1.hf {m with regs:=m.regs.set d.toNat v} (m.pc+1) c;have P:=U1.hp {m with regs:=m.regs.set d.toNat v} (m.pc+1) c;dsimp only at H P;dsimp only [OO,gm];simp (disch:=omega) only [RR,H,P,r4,d0];omega
def dbl(v:Int)(j:Nat):(v*2^j%65536+v*2^j%65536)%65536=v*2^ (j+1)%65536:=by
 rw [Int.pow_succ,<-Int.mul_assoc];omega
def aiG{p1 f1}(U1:Y10 p1 f1)(v k:Int)(h:Wo v)(k0:0<=k)(k1:k<=15):OQ.F (p1,f1,()) (v,k,()) (λy=>y=(v*2^k.toNat%65536,())):=by
 dsimp only [OQ,gm];simp (disch:=omega) only [RR];refine aB (λ(y:Int×Int×Int×Unit)=>y.1=k/\0<=y.2.2.1/\y.2.2.1<=k/\y.2.1=v*2^y.2.2.1.toNat%65536) (λy=>(k-y.2.2.1).toNat) ⟨rfl,by simp,k0,by have:=h.1;have:=h.2;dsimp only;rw [show Int.toNat 0=0 from rfl,Int.pow_zero];omega⟩ ?_;rintro⟨(z:Int),(a:Int),(i:Int),⟨⟩⟩ hI;dsimp only at hI ⊢;obtain⟨rfl,j1,j2,rfl⟩:=hI;by_cases g:i<z
 .simp (disch:=omega) only [RR,U1.hp,U1.hf,g];exact⟨⟨ah,ah,by rw [show(i+1).toNat=i.toNat+1 by omega];exact dbl v i.toNat⟩,ah⟩
 .simp (disch:=omega) only [RR,U1.hp,U1.hf,g];rw [show i=z by omega]
def IR:(∀i:Ins,dB .ins 0 i=i.op)/\(∀i:Ins,dB .ins 1 i=i.d)/\(∀i:Ins,dB .ins 2 i=i.a)/\(∀i:Ins,dB .ins 3 i=i.k):=⟨λ_=>rfl,λ_=>rfl,λ_=>rfl,λ_=>rfl⟩
def SX{m:aG}{i:Ins}{u:aG}(h:exec m i=u):mB u=mB (exec m i):=by rw [h]
def fG{m:aG}{i:Ins}(h:¬((i.op=9\/i.op=10)/\64<=adr m i)){u:aG}(e:eff m i=u){n:Int}(f:nxt m i=n):mB {u with pc:=n,count:=m.count+1}=mB (exec m i):=by
 refine SX ?_;unfold exec;rw [if_neg h,e,f]
def ef0{m:aG}{i:Ins}(e:i.op=0):eff m i=(if i.k=0 then {m with halt:=1}else if i.k=1 then {m with bF:=true}else {m with bF:=decide (i.k=2)}):=by
 unfold eff;(iterate 7 rw [if_neg ah]);rw [if_pos e]
def ef1{m:aG}{i:Ins}(e:i.op=1):eff m i={m with regs:=m.regs.set i.d.toNat i.k}:=by unfold eff;rw [if_pos e]
def ef2{m:aG}{i:Ins}(e:i.op=2):eff m i={m with regs:=m.regs.set i.d.toNat ((m.regs).getD (i.a).toNat default)}:=by unfold eff;rw [if_neg ah,if_pos e]
def ef8{m:aG}{i:Ins}(e:i.op=8):eff m i={m with regs:=m.regs.set i.d.toNat (((m.regs).getD (i.a).toNat default)*2^i.k.toNat%65536)}:=by unfold eff;(iterate 2 rw [if_neg ah]);rw [if_pos e]
def ef9{m:aG}{i:Ins}(e:i.op=9):eff m i={m with regs:=m.regs.set i.d.toNat ((m.mem).getD (adr m i).toNat default)}:=by unfold eff;(iterate 3 rw [if_neg ah]);rw [if_pos e]
def aqE{m:aG}{i:Ins}(e:i.op=10):eff m i={m with mem:=m.mem.set (adr m i).toNat ((m.regs).getD (i.d).toNat default)}:=by unfold eff;(iterate 4 rw [if_neg ah]);rw [if_pos e]
def aqF{m:aG}{i:Ins}(e:i.op=14):eff m i={m with outs:=m.outs++ [((m.regs).getD (i.d).toNat default)]}:=by unfold eff;(iterate 5 rw [if_neg ah]);rw [if_pos e]
def amZ{m:aG}{i:Ins}(e:i.op=15):eff m i={m with regs:=m.regs.set i.d.toNat (m.ins.getD 0 default),ins:=m.ins.drop 1}:=by unfold eff;(iterate 6 rw [if_neg ah]);rw [if_pos e]
def efj{m:aG}{i:Ins}(e:11<=i.op/\i.op<=13):eff m i=m:=by unfold eff;(iterate 8 rw [if_neg ah]);rw [if_pos ah]
def efd{m:aG}{i:Ins}(e:3<=i.op/\i.op<=7):eff m i={m with regs:=m.regs.set i.d.toNat (wdo (i.op-2) ((m.regs).getD (i.a).toNat default) ((m.regs).getD (i.k).toNat default))}:=by unfold eff;(iterate 9 rw [if_neg ah])
def nxp{m:aG}{i:Ins}(h:(i.op=0->i.k≠1)/\¬(11<=i.op/\i.op<=13)):nxt m i=(m.pc+1)%65536:=by unfold nxt;rw [if_neg (λq=>h.1 q.1 q.2),if_neg (λq=>h.2 ah),if_neg ah]
def n9{m:aG}{i:Ins}(h:¬(i.op=9\/i.op=10)):¬((i.op=9\/i.op=10)/\64<=adr m i):=λq=>h q.1
structure aiH(pp:Int×Int×Bool×Bool×Int×List Int×Int×Int×List Int×List Int×List Int×Unit->Bool)(ff:Int×Int×Bool×Bool×Int×List Int×Int×Int×List Int×List Int×List Int×Unit->Int×Int×Bool×Bool×Int×List Int×Int×List Int×List Int×List Int×Unit):Prop where
 hp:∀(m:aG) (h:Int),pp (m.pc,m.save,m.bF,m.waits,m.halt,m.ins,m.count,h,m.regs,m.mem,m.outs,())=true
 hf:∀(m:aG) (h:Int),ff (m.pc,m.save,m.bF,m.waits,m.halt,m.ins,m.count,h,m.regs,m.mem,m.outs,())=mB {m with halt:=h}
structure aiI(pp:Int×Int×Bool×Bool×Int×List Int×Int×Int×Int×List Int×List Int×List Int×Unit->Bool)(ff:Int×Int×Bool×Bool×Int×List Int×Int×Int×Int×List Int×List Int×List Int×Unit->Int×Int×Bool×Bool×Int×List Int×Int×List Int×List Int×List Int×Unit):Prop where
 hp:∀(m:aG) (d v:Int),MOK m->0<=d->d<=3->pp (m.pc,m.save,m.bF,m.waits,m.halt,m.ins,m.count,d,v,m.regs,m.mem,m.outs,())=true
 hf:∀(m:aG) (d v:Int),MOK m->0<=d->d<=3->ff (m.pc,m.save,m.bF,m.waits,m.halt,m.ins,m.count,d,v,m.regs,m.mem,m.outs,())=mB {m with regs:=m.regs.set d.toNat v,pc:=(m.pc+1)%65536,count:=m.count+1}
theorem aiJ{p1 f1 p2 f2 p3 f3 p4 f4}(U1:Y10 p1 f1)(U2:aiH p2 f2)(U3:aam p3 f3)(U4:aiI p4 f4)(m:aG)(i:Ins)(h:MOK m)(hi:bX i)(ho:i.op=9\/i.op=10):OT.F (p1,f1,p2,f2,p3,f3,p4,f4,()) (m.pc,m.save,m.bF,m.waits,m.halt,m.ins,m.count,i,m.regs,m.mem,m.outs,()) (λy=>y=mB (exec m i)):=by
 obtain⟨_,⟨d0,d1⟩,⟨a0,a1⟩,k0,_,_,_,_,_,r9,_⟩:=hi;have k1:=r9 ah;have r4:=h.r4;have m6:=h.m64;have c:=h.ct;have pw:0<=m.pc/\m.pc<=65535:=h.pc;have H3:=λmem=>U3.hf {m with mem:=mem} (m.pc+1) c
 have P3:=λmem=>U3.hp {m with mem:=mem} (m.pc+1) c
 dsimp only at H3 P3;have H4:=λv=>U4.hf m i.d v h d0 d1
 have P4:=λv=>U4.hp m i.d v h d0 d1
 have wa:0<=((m.regs).getD (i.a).toNat default)/\((m.regs).getD (i.a).toNat default)<=65535:=h.rw.at i.a;dsimp only [OT,gm];simp (disch:=omega) only [RR,IR,U1.hp,U1.hf,U2.hp,U2.hf,H3,P3,H4,P4,r4,m6,d0,a0,nX];have ad:(((m.regs).getD (i.a).toNat default)+i.k)%65536=adr m i:=rfl;rw [ad];have a0':0<=adr m i:=by unfold adr;omega
 refine⟨ah,ah,λg=>SX (by unfold exec;rw [if_pos ⟨ho,g⟩]),λg=>⟨λe=>⟨ah,ah,ah,ah,?_⟩,λe=>⟨ah,ah,ah,ah,ah,ah,?_⟩⟩⟩
 .exact fG (u:={m with regs:=m.regs.set i.d.toNat ((m.mem).getD (adr m i).toNat default)}) (λq=>by omega) (ef9 e) (nxp ah)
 .exact fG (u:={m with mem:=m.mem.set (adr m i).toNat ((m.regs).getD (i.d).toNat default)}) (λq=>by omega) (aqE (ho.resolve_left e)) (nxp ah)
def aiK{p1 f1 p2 f2}(U1:aam p1 f1)(U2:aiI p2 f2)(m:aG)(i:Ins)(h:MOK m)(hi:bX i)(hq:i.op=14\/i.op=15)(hn:m.ins.length<1000000000)(ho:m.outs.length<900000000):OU.F (p1,f1,p2,f2,()) (m.pc,m.save,m.bF,m.waits,m.halt,m.ins,m.count,i,m.regs,m.mem,m.outs,()) (λy=>y=mB (exec m i)):=by
 obtain⟨_,⟨d0,d1⟩,⟨a0,a1⟩,k0,_⟩:=hi;have r4:=h.r4;have m6:=h.m64;have c:=h.ct;have pw:0<=m.pc/\m.pc<=65535:=h.pc;have H3:=λo=>U1.hf {m with outs:=o} (m.pc+1) c
 have P3:=λo=>U1.hp {m with outs:=o} (m.pc+1) c
 dsimp only at H3 P3;have mk:∀l:List Int,l=m.ins\/l=m.ins.drop 1->MOK {m with ins:=l}:=λl hl=> {h with iw:=by rcases hl with rfl | rfl;exact h.iw;exact h.iw.drop 1}
 have H4:=λv=>U2.hf m i.d v h d0 d1
 have P4:=λv=>U2.hp m i.d v h d0 d1
 have H5:=λv=>U2.hf {m with ins:=m.ins.drop 1} i.d v (mk _ (Or.inr rfl)) d0 d1
 have P5:=λv=>U2.hp {m with ins:=m.ins.drop 1} i.d v (mk _ (Or.inr rfl)) d0 d1
 dsimp only at H5 P5;have e1:List.drop (Int.toNat 1) (List.take (Int.toNat (m.ins.length:Int)) m.ins)=m.ins.drop 1:=by rw [show Int.toNat (m.ins.length:Int)=m.ins.length by omega,List.take_of_length_le (Nat.le_refl _)];rfl
 dsimp only [OU,gm];simp (disch:=omega) only [RR,IR,H3,P3,H4,P4,H5,P5,e1,r4,m6,d0,List.length_cons,List.length_nil,nX];have n9:¬((i.op=9\/i.op=10)/\64<=adr m i):=n9 ah;have nx:nxt m i=(m.pc+1)%65536:=nxp ah;refine⟨λe=>⟨ah,ah,ah,?_⟩,λe=>⟨λg=>⟨ah,g,ah,ah,ah,?_⟩,λg=> ?_⟩⟩
 .exact fG (u:={m with outs:=m.outs++ [((m.regs).getD (i.d).toNat default)]}) n9 (aqF e) nx
 .exact fG (u:={m with regs:=m.regs.set i.d.toNat (m.ins.getD 0 default),ins:=m.ins.drop 1}) n9 (amZ (hq.resolve_left e)) nx
 .have e0:m.ins=[]:=by
   cases hm:m.ins with
   | nil=>rfl
   | cons a r=>rw [hm]at g;simp only [List.length_cons]at g;omega
  have:=fG (u:={m with regs:=m.regs.set i.d.toNat (m.ins.getD 0 default),ins:=m.ins.drop 1}) n9 (amZ (hq.resolve_left e)) nx;rw [e0]at this;rw [<-this,e0];rfl
def aiL{p1 f1 p2 f2}(U1:aiH p1 f1)(U2:aam p2 f2)(m:aG)(i:Ins)(h:MOK m)(ho:i.op=0):OM.F (p1,f1,p2,f2,()) (m.pc,m.save,m.bF,m.waits,m.halt,m.ins,m.count,i.k,m.regs,m.mem,m.outs,()) (λy=>i.k<=3->0<=i.k->y=mB (exec m i)):=by
 have c:=h.ct;have pw:0<=m.pc/\m.pc<=65535:=h.pc;have sw:0<=m.save/\m.save<=65535:=h.sv;have H1:=U1.hf m 1;have P1:=U1.hp m 1;have H2:=λb n=>U2.hf {m with bF:=b} n c
 have P2:=λb n=>U2.hp {m with bF:=b} n c
 have H3:=λn=>U2.hf {m with halt:=1} n c
 have P3:=λn=>U2.hp {m with halt:=1} n c
 dsimp only at H2 P2 H3 P3;have n9:¬((i.op=9\/i.op=10)/\64<=adr m i):=n9 ah;have ef:=ef0 (m:=m) ho;have nx:i.k≠1->nxt m i=(m.pc+1)%65536:=λe=>nxp ⟨λ_=>e,ah⟩
 dsimp only [OM,gm];simp (disch:=omega) only [RR,H1,P1,H2,P2,H3,P3];refine⟨λe _ _=> ?_,λe=>⟨λe2 _ _=> ?_,λe2=>⟨λe3 _ _=> ?_,λe3 g0 g1=> ?_⟩⟩⟩
 .rw [show m.save%65536=m.save by omega];exact fG (u:={m with bF:=true}) n9 (by rw [ef,if_neg ah,if_pos e]) (by unfold nxt;rw [if_pos ⟨ho,e⟩])
 .exact fG (u:={m with bF:=true}) n9 (by rw [ef,if_neg ah,if_neg ah,e2];rfl) (nx ah)
 .exact fG (u:={m with bF:=false}) n9 (by rw [ef,if_neg ah,if_neg ah,e3];rfl) (nx ah)
 .exact fG (u:={m with halt:=1}) n9 (by rw [ef,if_pos ah]) (nx ah)
def adW{a b:Int}(ha:Wo a)(hb:Wo b):(Jl 1 a b=true↔a=b)/\(Jl 2 a b=true↔a<b):=by
 rw [aad,aae,EK,EK,aP (show 0<=a/\a<=65535 from ha),aP (show 0<=b/\b<=65535 from hb)];simp
def aiM{p1 f1 p2 f2 p5 f5}(U1:Y24 p1 f1)(U2:aam p2 f2){p3:Int×Int×Bool×Bool×Int×List Int×Int×Ins×List Int×List Int×List Int×Unit->Bool}{f3:Int×Int×Bool×Bool×Int×List Int×Int×Ins×List Int×List Int×List Int×Unit->Int×Int×Bool×Bool×Int×List Int×Int×List Int×List Int×List Int×Unit}(hp3:∀(m:aG) (i:Ins),MOK m->bX i->(i.op=14\/i.op=15)->m.ins.length<1000000000->m.outs.length<900000000->p3 (m.pc,m.save,m.bF,m.waits,m.halt,m.ins,m.count,i,m.regs,m.mem,m.outs,())=true)(hf3:∀(m:aG) (i:Ins),MOK m->bX i->(i.op=14\/i.op=15)->m.ins.length<1000000000->m.outs.length<900000000->f3 (m.pc,m.save,m.bF,m.waits,m.halt,m.ins,m.count,i,m.regs,m.mem,m.outs,())=mB (exec m i)){p4:Int×Int×Bool×Bool×Int×List Int×Int×Ins×List Int×List Int×List Int×Unit->Bool}{f4:Int×Int×Bool×Bool×Int×List Int×Int×Ins×List Int×List Int×List Int×Unit->Int×Int×Bool×Bool×Int×List Int×Int×List Int×List Int×List Int×Unit}(hp4:∀(m:aG) (i:Ins),MOK m->bX i->(i.op=9\/i.op=10)->p4 (m.pc,m.save,m.bF,m.waits,m.halt,m.ins,m.count,i,m.regs,m.mem,m.outs,())=true)(hf4:∀(m:aG) (i:Ins),MOK m->bX i->(i.op=9\/i.op=10)->f4 (m.pc,m.save,m.bF,m.waits,m.halt,m.ins,m.count,i,m.regs,m.mem,m.outs,())=mB (exec m i))(U5:aiI p5 f5){p6:Int×Int×Unit->Bool}{f6:Int×Int×Unit->Int×Unit}(hp6:∀(v k:Int),Wo v->0<=k->k<=15->p6 (v,k,())=true)(hf6:∀(v k:Int),Wo v->0<=k->k<=15->f6 (v,k,())=(v*2^k.toNat%65536,())){p7:Int×Int×Bool×Bool×Int×List Int×Int×Int×List Int×List Int×List Int×Unit->Bool}{f7:Int×Int×Bool×Bool×Int×List Int×Int×Int×List Int×List Int×List Int×Unit->Int×Int×Bool×Bool×Int×List Int×Int×List Int×List Int×List Int×Unit}(hp7:∀(m:aG) (i:Ins),MOK m->i.op=0->p7 (m.pc,m.save,m.bF,m.waits,m.halt,m.ins,m.count,i.k,m.regs,m.mem,m.outs,())=true)(hf7:∀(m:aG) (i:Ins),MOK m->i.op=0->i.k<=3->0<=i.k->f7 (m.pc,m.save,m.bF,m.waits,m.halt,m.ins,m.count,i.k,m.regs,m.mem,m.outs,())=mB (exec m i))(m:aG)(i:Ins)(h:MOK m)(hi:bX i)(hn:m.ins.length<1000000000)(ho:m.outs.length<900000000):OV.F (p1,f1,p2,f2,p3,f3,p4,f4,p5,f5,p6,f6,p7,f7,()) (m.pc,m.save,m.bF,m.waits,m.halt,m.ins,m.count,i,m.regs,m.mem,m.outs,()) (λy=>y=mB (exec m i)):=by
 have hi':=hi;obtain⟨⟨o0,o1⟩,⟨d0,d1⟩,⟨a0,a1⟩,k0,r0,r1,r2,r3,r8,r9,_⟩:=hi;have r4:=h.r4;have c:=h.ct;have pw:0<=m.pc/\m.pc<=65535:=h.pc;have wa:=h.rw.at i.a;have wd:=h.rw.at i.d;obtain⟨q1,q2⟩:=adW wd wa;have wa':0<=((m.regs).getD (i.a).toNat default)/\((m.regs).getD (i.a).toNat default)<=65535:=wa;have H5:=λv=>U5.hf m i.d v h d0 d1
 have P5:=λv=>U5.hp m i.d v h d0 d1
 have H2:=λn=>U2.hf m n c
 have P2:=λn=>U2.hp m n c
 dsimp only [OV,gm];rcases(by omega:i.op=0\/i.op=1\/i.op=2\/(3<=i.op/\i.op<=7)\/i.op=8\/(i.op=9\/i.op=10)\/i.op=11\/i.op=12\/i.op=13\/(i.op=14\/i.op=15))with e | e | e | e | e | e | e | e | e | e
 case inr.inr.inr.inl=>
  have n0:∀z:Int,z<3\/7<z->¬i.op=z:=λz g q=>by omega
  have kk:=r3 e;simp (disch:=omega) only [RR,IR,n0 0 ah,n0 1 ah,n0 2 ah,n0 8 ah,n0 9 ah,n0 10 ah,n0 11 ah,n0 12 ah,n0 13 ah,n0 14 ah,n0 15 ah,U1.hp,U1.hf,H5,P5,r4,d0,a0,k0];refine⟨ah,ah,ah,ah,?_⟩;rw [show i.op-3+1=i.op-2 by omega];exact fG (u:={m with regs:=m.regs.set i.d.toNat (wdo (i.op-2) ((m.regs).getD (i.a).toNat default) ((m.regs).getD (i.k).toNat default))}) (n9 ah) (efd e) (nxp ah)
 case inr.inr.inr.inr.inr.inl=>
  rcases e with e | e<;>simp (disch:=omega) only [RR,IR,e,Int.reduceEq,hp4 m i h hi' ah,hf4 m i h hi' ah,r4,d0,a0,k0]
  all_goals exact⟨ah,ah⟩
 case inr.inr.inr.inr.inr.inr.inr.inr.inr=>
  rcases e with e | e<;>simp (disch:=omega) only [RR,IR,e,Int.reduceEq,hp3 m i h hi' ah hn ho,hf3 m i h hi' ah hn ho,r4,d0,a0,k0]
  all_goals exact⟨ah,ah⟩
 case inl=>
  simp (disch:=omega) only [RR,IR,e,Int.reduceEq,hp7 m i h e,r4,d0,a0,k0];exact⟨ah,ah,hf7 m i h e (r0 e).2.2 k0⟩
 case inr.inr.inr.inr.inl=>
  simp (disch:=omega) only [RR,IR,e,Int.reduceEq,hp6 _ _ wa k0 (r8 e),hf6 _ _ wa k0 (r8 e),H5,P5,r4,d0,a0,k0];exact⟨ah,ah,fG (u:={m with regs:=m.regs.set i.d.toNat (((m.regs).getD (i.a).toNat default)*2^i.k.toNat%65536)}) (n9 ah) (ef8 e) (nxp ah)⟩
 all_goals simp (disch:=omega) only [RR,IR,e,Int.reduceEq,H5,P5,H2,P2,r4,d0,a0,k0]
 .exact⟨ah,ah,fG (u:={m with regs:=m.regs.set i.d.toNat i.k}) (n9 ah) (ef1 e) (nxp ah)⟩
 .exact⟨ah,ah,fG (u:={m with regs:=m.regs.set i.d.toNat ((m.regs).getD (i.a).toNat default)}) (n9 ah) (ef2 e) (nxp ah)⟩
 .have ef:eff m i=m:=efj ah;have k1:=r9 ah;refine⟨ah,ah,ah,ah,λg=> ?_,λg=> ?_⟩
  .rw [show i.k%65536=i.k by omega];exact fG (u:=m) (n9 ah) ef (by unfold nxt;rw [if_neg ah,if_pos ⟨Or.inl e,by rw [e];exact q1.2 g⟩])
  .exact fG (u:=m) (n9 ah) ef (by unfold nxt;rw [if_neg ah,if_neg (λq=>g (q1.1 (by have:=q.2;rw [e]at this;exact this))),if_neg ah])
 .have ef:eff m i=m:=efj ah;have k1:=r9 ah;refine⟨ah,ah,ah,ah,λg=> ?_,λg=> ?_⟩
  .rw [show i.k%65536=i.k by omega];exact fG (u:=m) (n9 ah) ef (by unfold nxt;rw [if_neg ah,if_pos ⟨Or.inr e,by rw [e];exact q2.2 g⟩])
  .exact fG (u:=m) (n9 ah) ef (by unfold nxt;rw [if_neg ah,if_neg (λq=>g (q2.1 (by have:=q.2;rw [e]at this;exact this))),if_neg ah])
 .have ef:eff m i=m:=efj ah;rw [show((m.regs).getD (i.a).toNat default)%65536=((m.regs).getD (i.a).toNat default) by omega];exact⟨ah,ah,fG (u:=m) (n9 ah) ef (by unfold nxt;rw [if_neg ah,if_neg ah,if_pos e];rfl)⟩
def smp(m:aG)(b:Bool):aG:=if(m.waits || b)=true/\m.bF=true then {m with waits:=false,bF:=false,save:=m.pc,pc:=48}else {m with waits:=m.waits || b}
def aao(m:aG)(b:Bool):OI.F () (m.pc,m.save,m.bF,m.waits,m.halt,m.ins,m.count,b,m.regs,m.mem,m.outs,()) (λy=>y=mB (smp m b)):=by
 dsimp only [OI,gm];unfold smp;cases hw:m.waits<;>cases hb:b<;>cases hl:m.bF<;>simp
def aap(l:List Int)(n:Int)(h:l.length<1000000000):OH.F () (l,n,()) (λy=>y=(bp (n∈l),())):=by
 dsimp only [OH,gm];simp (disch:=omega) only [RR];refine aB (λ(y:List Int×Int×Int×Unit)=>y.1=l/\y.2.1=n/\0<=y.2.2.1/\y.2.2.1<=l.length/\n∉l.take y.2.2.1.toNat) (λy=>(l.length-y.2.2.1).toNat) ⟨rfl,rfl,by simp,by simp,by simp⟩ ?_;rintro⟨(l:List Int),(n:Int),(i:Int),⟨⟩⟩ hI;dsimp only at hI ⊢;obtain⟨rfl,rfl,h1,h2,h3⟩:=hI;simp (disch:=omega) only [RR];refine⟨λg=>⟨h1,g,λe=> ?_,λe=>⟨⟨ah,ah,λq=> ?_⟩,ah⟩⟩,λg=> ?_⟩
 .rw [aP (by rw [<-e];exact dD h1 g)]
 .rw [show(i+1).toNat=i.toNat+1 by omega,List.take_succ_eq_append_getElem ah,List.mem_append,List.mem_singleton,<-getD_lt (d:=default) (show i.toNat<l.length by omega)]at q;exact q.elim h3 (λz=>e z.symm)
 .rw [List.take_of_length_le ah]at h3;rw [bL h3]
def fm(i:Ins):Bool:=if i.op=0 then decide (i.d=0)&&decide (i.a=0)&&decide (i.k<=3)else if i.op=1 then decide (i.a=0)else if i.op=2 then decide (i.k=0)else if 3<=i.op/\i.op<=7 then decide (i.k<4)else if i.op=8 then decide (i.k<16)else if i.op=13 then decide (i.d=0)&&decide (i.k=0)else if i.op=14\/i.op=15 then decide (i.a=0)&&decide (i.k=0)else true
def aqG(b:Bool):bp (b=true)=b:=by
 cases b with
 | true=>exact aP rfl
 | false=>exact bL (by decide)
def aiN(i:Ins):(inB i.op 0 15&&inB i.d 0 3&&inB i.a 0 3&&inB i.k 0 255&&fm i)=bp (bX i):=by
 have h:((0<=i.op/\i.op<=15)/\(0<=i.d/\i.d<=3)/\(0<=i.a/\i.a<=3)/\(0<=i.k/\i.k<=255)/\fm i=true)↔bX i:=by
  unfold bX fm;split
  .simp only [Bool.and_eq_true,decide_eq_true_eq];omega
  split
  .simp only [decide_eq_true_eq];omega
  split
  .simp only [decide_eq_true_eq];omega
  split
  .simp only [decide_eq_true_eq];omega
  split
  .simp only [decide_eq_true_eq];omega
  split
  .simp only [Bool.and_eq_true,decide_eq_true_eq];omega
  split
  .simp only [Bool.and_eq_true,decide_eq_true_eq];omega
  .simp only [eq_self,and_true];omega
 rw [<-xQ h];simp only [EK,pV,Bool.and_assoc,aqG]
def sK(i:Ins):Nv.F () (i,()) (λy=>y=(fm i,())):=by
 dsimp only [Nv,gm];rcases(by omega:(i.op=0\/i.op=1\/i.op=2\/i.op=3\/i.op=4\/i.op=5\/i.op=6\/i.op=7\/i.op=8\/i.op=13\/i.op=14\/i.op=15)\/(¬(0<=i.op/\i.op<=8)/\¬(13<=i.op/\i.op<=15)))with(e | e | e | e | e | e | e | e | e | e | e | e) | ⟨n1,n2⟩
 case inr=>
  have n:∀z:Int,(0<=z/\z<=8)\/(13<=z/\z<=15)->¬i.op=z:=λz g q=>by omega
  have n3:¬(3<=i.op/\i.op<=7):=λq=>by omega
  simp (disch:=omega) only [RR,IR,n];unfold fm;simp (disch:=omega) only [n,n3,if_false,or_self]
 all_goals simp (disch:=omega) only [RR,IR,e,Int.reduceEq]
 all_goals unfold fm
 all_goals simp [e]
def FN{p1 f1}(U1:Y1 p1 f1){p2:Ins×Unit->Bool}{f2:Ins×Unit->Bool×Unit}(hp2:∀i,p2 (i,())=true)(hf2:∀i,f2 (i,())=(fm i,()))(i:Ins):Xz.F (p1,f1,p2,f2,()) (i,()) (λy=>y=(bp (bX i),())):=by
 dsimp only [Xz,gm];simp (disch:=omega) only [RR,IR,U1.hp,U1.hf,hp2,hf2];rw [aiN]
noncomputable def tkI (w:Int):Int×Int×Int×Int×Bool×Unit:=if bp (Wo w/\bX (gU w))=true then((gU w).op,(gU w).d,(gU w).a,(gU w).k,true,())else(0,0,0,0,false,())
theorem am0{p1 f1 p2 f2}(U1:adV p1 f1)(U2:Y9 p2 f2)(w:Int):X8.F (p1,f1,p2,f2,()) (w,()) (λy=>y=tkI w):=by
 dsimp only [X8,gm];simp (disch:=omega) only [RR,U1.hp,U1.hf,U2.hp,U2.hf,EK];by_cases h:Wo w
 .obtain⟨w0,w1⟩:=id h;have e:∀x y z u:Int,Co.mk .ins (x,y,z,u,())=⟨x,y,z,u⟩:=λ_ _ _ _=>rfl
  have q:∀n:Int,0<n->0<=w/n/\w/n<=65535:=λn hn=>⟨Int.ediv_nonneg w0 ah,Int.le_trans (Int.ediv_le_self _ w0) w1⟩
  have q1:=q 4096 (by decide);have q2:=q 1024 (by decide);have q3:=q 256 (by decide);rw [aP (show 0<=w/\w<=65535 from h)];simp (disch:=omega) only [RR,e,Int.tdiv_eq_ediv_of_nonneg,Int.tmod_eq_emod_of_nonneg];have ed:(⟨w/4096,w/1024%4,w/256%4,w%256⟩:Ins)=gU w:=rfl;unfold tkI;by_cases k:bX (gU w)
  .rw [ed,aP k,aP ⟨h,k⟩];simp;rfl
  .rw [ed,bL k,bL (λg=>k g.2)];simp
 .rw [bL (show¬(0<=w/\w<=65535)from h)];unfold tkI;rw [bL (λg=>h g.1)];simp
noncomputable def kD (i:Ins):Int:=if bp (bX i)=true then Qg i else 0
def zq(i:Ins):Wo (kD i):=by
 unfold kD;split
 .rename_i h;obtain⟨⟨o0,o1⟩,⟨d0,d1⟩,⟨a0,a1⟩,k0,h⟩:=aU.1 h;unfold Qg Wo;omega
 .exact wo0
def am1{p1 f1}(U1:adV p1 f1)(i:Ins):XA.F (p1,f1,()) (i,()) (λy=>y=(kD i,())):=by
 dsimp only [XA,gm];simp (disch:=omega) only [RR,IR,U1.hp,U1.hf];unfold kD Qg;refine⟨λh=>by rw [h];rfl,λh=> ?_⟩;rw [if_pos h];obtain⟨⟨o0,o1⟩,⟨d0,d1⟩,⟨a0,a1⟩,k0,h⟩:=aU.1 h;have k1:i.k<=255:=by omega
 simp (disch:=omega) only [w64]
structure am2(pp:Ins×Unit->Bool)(ff:Ins×Unit->Int×Unit):Prop where
 hp:∀i,pp (i,())=true
 hf:∀i,ff (i,())=(kD i,())
def am3{p1 f1}(U1:am2 p1 f1)(l:List Ins)(hl:l.length<1000000):XB.F (p1,f1,()) (l,()) (λy=>y=(l.map kD,())):=by
 dsimp only [XB,gm];simp (disch:=omega) only [RR,List.length_nil];refine aB (λ(y:List Ins×Int×List Int×Unit)=>y.1=l/\0<=y.2.1/\y.2.1<=l.length/\y.2.2.1=(l.take y.2.1.toNat).map kD) (λy=>(l.length-y.2.1).toNat) ⟨rfl,by simp,by simp,by simp⟩ ?_;rintro⟨(l:List Ins),(i:Int),(o:List Int),⟨⟩⟩ hI;dsimp only at hI ⊢;obtain⟨rfl,h1,h2,rfl⟩:=hI;simp (disch:=omega) only [RR,U1.hp,U1.hf,List.length_map,List.length_cons,List.length_nil];have h3:=List.length_take_le' i.toNat l;refine⟨λh4=>⟨ah,ah,ah,⟨ah,ah,?_⟩,ah⟩,λh4=>by rw [List.take_of_length_le ah]⟩;rw [<-cZ (d:=default) h1 h4 rfl,List.map_append];rfl
def aiO{l:List Int}(h:Wos l){n:Int}(w:Wo n):Wos (n::l):=λx hx=>(List.mem_cons.1 hx).elim (λe=>e▸w) (h x)
noncomputable def iO (w i:List Int):aG:=if bp (w.length<=64/\Wos w/\Wos i)=true then⟨[0,0,0,0],0,w++List.replicate (64-w.length) 0,0,false,false,0,i,[],0⟩else Li
def SY{w i:List Int}(h:w.length<=64)(hw:Wos w)(hi:Wos i):MOK (iO w i):=by
 unfold iO;rw [aP ⟨h,hw,hi⟩,if_pos rfl];have z:∀n:Nat,Wos (List.replicate n 0):=λn x hx=>by rw [List.eq_of_mem_replicate hx];exact wo0
 exact⟨rfl,z 4,by show(w++List.replicate (64-w.length) 0).length=64;rw [List.length_append,List.length_replicate];omega,λx hx=>(List.mem_append.1 hx).elim (hw x) (z _ x),wo0,wo0,hi,λx hx=>(by cases hx),⟨show(0:Int)<=0 by decide,show(0:Int)<=4 by decide⟩,⟨show(0:Int)<=0 by decide,show(0:Int)<=1000000 by decide⟩⟩
def am4{p1 f1}(U1:amR p1 f1)(w i:List Int)(hw:w.length<1000000)(hi:i.length<1000000):Xy.F (p1,f1,()) (w,i,()) (λy=>y=((iO w i).pc,(iO w i).save,(iO w i).bF,(iO w i).waits,(iO w i).halt,(iO w i).count,(iO w i).regs,(iO w i).mem,(iO w i).ins,())):=by
 have P:=U1.hp w ah;have P':=U1.hp i ah;have Q:=U1.hf w ah;have Q':=U1.hf i ah;dsimp only [Xy,gm];simp (disch:=omega) only [RR,P,P',Q,Q',nX,List.nil_append,List.length_nil];by_cases c:w.length<=64/\Wos w/\Wos i
 .have e:iO w i=⟨[0,0,0,0],0,w++List.replicate (64-w.length) 0,0,false,false,0,i,[],0⟩:=by unfold iO;rw [aP c,if_pos rfl]
  obtain⟨c1,c2,c3⟩:=c;rw [e,aP c2,aP c3];refine⟨λq=>absurd q (by simp;omega),λ_=>⟨ah,?_⟩⟩;have lm:(w++List.replicate (64-w.length) (0:Int)).length=64:=by rw [List.length_append,List.length_replicate];omega
  have am:∀k:Nat,k<64->(w++List.replicate (64-w.length) (0:Int))[k]? =some (if k<w.length then w.getD k default else 0):=λk hk=>by
   by_cases g:k<w.length
   .rw [if_pos g,List.getElem?_append_left g,List.getElem?_eq_getElem g,getD_lt g]
   .rw [if_neg g,List.getElem?_append_right ah,List.getElem?_replicate,if_pos ah]
  generalize w++List.replicate (64-w.length) (0:Int)=M at lm am;refine aB (λ(y:List Int×Int×Int×Int×Bool×Bool×Int×Int×Int×Int×Bool×Bool×Int×Int×List Int×List Int×List Int×Unit)=>y.1=w/\0<=y.2.1/\y.2.1<=64/\y.2.2.2.2.2.2.2.2=(0,0,false,false,0,0,[0,0,0,0],M.take y.2.1.toNat,i,())) (λy=>(64-y.2.1).toNat) ⟨rfl,by simp,by simp,rfl⟩ ?_;rintro⟨(w:List Int),(k:Int),u1,u2,u3,u4,u5,u6,v1,v2,v3,v4,v5,v6,r,l,j,⟨⟩⟩ hI;dsimp only at hI ⊢;obtain⟨rfl,h1,h2,h3⟩:=hI;simp only [Prod.mk.injEq,and_true]at h3;obtain⟨rfl,rfl,rfl,rfl,rfl,rfl,rfl,rfl,rfl⟩:=h3;have tl:(M.take k.toNat).length<=64:=by rw [List.length_take];omega
  have nx:k<64->M.take (k+1).toNat=M.take k.toNat++ [if k.toNat<w.length then w.getD k.toNat default else 0]:=λg=>by
   rw [show(k+1).toNat=k.toNat+1 by omega,List.take_add_one,am _ ah];rfl
  simp (disch:=omega) only [RR,List.length_cons,List.length_nil];refine⟨λg=>⟨λg2=>⟨h1,g2,ah,⟨ah,ah,?_⟩,ah⟩,λg2=>⟨ah,⟨ah,ah,?_⟩,ah⟩⟩,λg=> ?_⟩
  .rw [nx g,if_pos ah]
  .rw [nx g,if_neg ah]
  .rw [List.take_of_length_le ah]
 .have e:iO w i=Li:=by unfold iO;rw [bL c,if_neg (by decide)]
  rw [e];refine⟨λ_=>rfl,λg=>absurd ⟨ah,aU.1 g.1.2,aU.1 g.2⟩ c⟩
theorem EN(m:aG)(b:Bool):stepM m b=(if 64<=(smp m b).pc then {smp m b with halt:=4}else if bp (bX (gU (((smp m b).mem).getD ((smp m b).pc).toNat default)))=false then {smp m b with halt:=2}else exec (smp m b) (gU (((smp m b).mem).getD ((smp m b).pc).toNat default))):=rfl
def aaq{m:aG}(h:MOK m)(b:Bool):MOK (smp m b):=by
 unfold smp;split
 .exact {h with sv:=h.pc,pc:=⟨show(0:Int)<=48 by decide,show(48:Int)<=65535 by decide⟩}
 .exact {h with}
def Qh(m:aG)(b:Bool):(smp m b).ins=m.ins/\(smp m b).outs=m.outs/\(smp m b).count=m.count:=by unfold smp;split<;>exact⟨rfl,rfl,rfl⟩
def aiP{m:aG}(h:MOK m){i:Ins}(hi:bX i):Wo (nxt m i):=by
 obtain⟨_,_,_,k0,_,_,_,_,_,r9,_⟩:=hi;unfold nxt;split
 .exact h.sv
 split
 .rename_i c;exact⟨k0,by have:=r9 ah;omega⟩
 split
 .exact h.rw.at _
 .unfold Wo;omega
def adX(m:aG)(i:Ins):(eff m i).count=m.count/\(eff m i).ins.length<=m.ins.length/\(eff m i).outs.length<=m.outs.length+1:=by
 unfold eff
 repeat' split
 all_goals refine⟨rfl,?_,?_⟩
 all_goals first | exact Nat.le_refl _ | exact Nat.le_succ _ | (simp only [List.length_append,List.length_cons,List.length_nil];omega) | (simp only [List.length_drop];omega)
def lg{m:aG}(h:MOK m){i:Ins}(hi:bX i)(c:m.count<1000000):MOK (exec m i):=by
 unfold exec;split
 .exact {h with ha:=⟨show(0:Int)<=3 by decide,show(3:Int)<=4 by decide⟩}
 .have:=h.ct;exact {aiD h hi with pc:=aiP h hi,ct:=⟨show 0<=m.count+1 by omega,show m.count+1<=1000000 by omega⟩}
def adY(m:aG)(i:Ins):(exec m i).ins.length<=m.ins.length/\(exec m i).outs.length<=m.outs.length+1:=by
 unfold exec;split
 .exact⟨Nat.le_refl _,Nat.le_succ _⟩
 .exact(adX m i).2
def EO{m:aG}(h:MOK m)(c:m.count<1000000)(b:Bool):MOK (stepM m b):=by
 have s:=aaq h b;rw [EN];split
 .exact {s with ha:=⟨show(0:Int)<=4 by decide,show(4:Int)<=4 by decide⟩}
 split
 .exact {s with ha:=⟨show(0:Int)<=2 by decide,show(2:Int)<=4 by decide⟩}
 .rename_i g;exact lg s (aU.1 (by simpa using g)) (by rw [(Qh m b).2.2];exact c)
def EP(m:aG)(b:Bool):(stepM m b).ins.length<=m.ins.length/\(stepM m b).outs.length<=m.outs.length+1:=by
 obtain⟨e1,e2,_⟩:=Qh m b;rw [EN];split
 .exact⟨by rw [<-e1];exact Nat.le_refl _,by rw [<-e2];exact Nat.le_succ _⟩
 split
 .exact⟨by rw [<-e1];exact Nat.le_refl _,by rw [<-e2];exact Nat.le_succ _⟩
 .rw [<-e1,<-e2];exact adY _ _
noncomputable def stS (m:aG) (b:Bool):aG:=if bp (MOK m)=true then(if m.halt≠0\/m.count=1000000 then m else stepM m b)else Li
structure aiQ(pp:Int×Unit->Bool)(ff:Int×Unit->Int×Int×Int×Int×Bool×Unit):Prop where
 hp:∀w,pp (w,())=true
 hf:∀w,ff (w,())=tkI w
def am5{p1 f1 p2 f2 p3 f3 p5 f5}(U1:aiQ p1 f1)(U2:UY p2 f2)(U3:aaf p3 f3){p4:Int×Int×Bool×Bool×Int×List Int×Int×Ins×List Int×List Int×List Int×Unit->Bool}{f4:Int×Int×Bool×Bool×Int×List Int×Int×Ins×List Int×List Int×List Int×Unit->Int×Int×Bool×Bool×Int×List Int×Int×List Int×List Int×List Int×Unit}(hp4:∀(m:aG) (i:Ins),MOK m->bX i->m.ins.length<1000000000->m.outs.length<900000000->p4 (m.pc,m.save,m.bF,m.waits,m.halt,m.ins,m.count,i,m.regs,m.mem,m.outs,())=true)(hf4:∀(m:aG) (i:Ins),MOK m->bX i->m.ins.length<1000000000->m.outs.length<900000000->f4 (m.pc,m.save,m.bF,m.waits,m.halt,m.ins,m.count,i,m.regs,m.mem,m.outs,())=mB (exec m i))(U5:aiH p5 f5){p6:Int×Int×Bool×Bool×Int×List Int×Int×Bool×List Int×List Int×List Int×Unit->Bool}{f6:Int×Int×Bool×Bool×Int×List Int×Int×Bool×List Int×List Int×List Int×Unit->Int×Int×Bool×Bool×Int×List Int×Int×List Int×List Int×List Int×Unit}(hp6:∀(m:aG) (b:Bool),p6 (m.pc,m.save,m.bF,m.waits,m.halt,m.ins,m.count,b,m.regs,m.mem,m.outs,())=true)(hf6:∀(m:aG) (b:Bool),f6 (m.pc,m.save,m.bF,m.waits,m.halt,m.ins,m.count,b,m.regs,m.mem,m.outs,())=mB (smp m b))(m:aG)(b:Bool)(h:MSh m)(ho:m.outs.length<900000000):Yg.F (p1,f1,p2,f2,p3,f3,p4,f4,p5,f5,p6,f6,()) (m,b,()) (λy=>y=mB (stS m b)):=by
 have P6:=hp6 m b;have H6:=hf6 m b;dsimp only [Yg,gm];simp (disch:=omega) only [RR,MRB,U1.hp,U1.hf,U2.hp m h,U2.hf m h,U3.hp m h,U3.hf m h,P6,H6];unfold stS;refine⟨λg=>by rw [if_neg (by rw [g];decide)];rfl,λg=> ?_⟩;have ok:=aU.1 g;have s:=aaq ok b;obtain⟨e1,e2,_⟩:=Qh m b;have m64:=s.m64;have pw:0<=(smp m b).pc/\(smp m b).pc<=65535:=s.pc;have P5:=U5.hp (smp m b);have H5:=U5.hf (smp m b);rw [if_pos g];refine⟨λq=>by rw [if_pos q],λq=> ?_⟩;rw [if_neg ah,EN];have wm:=s.mw.at (smp m b).pc;simp only [P5,H5];refine⟨λq=>⟨trivial,by rw [if_pos q]⟩,λq=>⟨ah,ah,ah,ah,?_⟩⟩;rw [if_neg ah];by_cases k:bX (gU (((smp m b).mem).getD ((smp m b).pc).toNat default))
 .have t:tkI (((smp m b).mem).getD ((smp m b).pc).toNat default)=((gU (((smp m b).mem).getD ((smp m b).pc).toNat default)).op,(gU (((smp m b).mem).getD ((smp m b).pc).toNat default)).d,(gU (((smp m b).mem).getD ((smp m b).pc).toNat default)).a,(gU (((smp m b).mem).getD ((smp m b).pc).toNat default)).k,true,()):=by unfold tkI;rw [aP ⟨wm,k⟩,if_pos rfl]
  rw [t,aP k,if_neg (by decide)];have P4:=hp4 (smp m b) _ s k (by rw [e1];exact h.2.2.1) (by rw [e2];exact ho);have H4:=hf4 (smp m b) _ s k (by rw [e1];exact h.2.2.1) (by rw [e2];exact ho);exact⟨λc=>(by cases c),λ_=>⟨P4,H4⟩⟩
 .have t:tkI (((smp m b).mem).getD ((smp m b).pc).toNat default)=(0,0,0,0,false,()):=by unfold tkI;rw [bL (λq=>k q.2),if_neg (by decide)]
  rw [t,bL k,if_pos rfl];exact⟨λ_=>⟨trivial,rfl⟩,λc=>(by cases c)⟩
noncomputable def Cj (q:List Int):Nat->aG->aG
 | 0,m=>m
 | k+1,m=>if m.halt=0/\m.count<1000000 then Cj q k (stepM m (bp (m.count∈q)))else m
def S9(q:List Int):∀(k:Nat) {m:aG},MOK m->MOK (Cj q k m)
 | 0,m,h=>h
 | k+1,m,h=>by
  unfold Cj;split
  .rename_i c;exact S9 q k (EO h c.2 _)
  .exact h
def Ta(q:List Int):∀(k:Nat) (m:aG),(Cj q k m).ins.length<=m.ins.length/\(Cj q k m).outs.length<=m.outs.length+k
 | 0,m=>⟨Nat.le_refl _,Nat.le_refl _⟩
 | k+1,m=>by
  unfold Cj;split
  .have a:=Ta q k (stepM m (bp (m.count∈q)));have b:=EP m (bp (m.count∈q));omega
  .omega
noncomputable def oK (q:List Int) (n:Int) (m:aG):aG:=if bp (MOK m/\n<=400)=true then Cj q n.toNat m else Li
structure am6(pp:aG×Bool×Unit->Bool)(ff:aG×Bool×Unit->Int×Int×Bool×Bool×Int×List Int×Int×List Int×List Int×List Int×Unit):Prop where
 hp:∀m b,MSh m->m.outs.length<900000000->pp (m,b,())=true
 hf:∀m b,MSh m->m.outs.length<900000000->ff (m,b,())=mB (stS m b)
structure adZ(pp:List Int×Int×Unit->Bool)(ff:List Int×Int×Unit->Bool×Unit):Prop where
 hp:∀l n,l.length<1000000000->pp (l,n,())=true
 hf:∀l n,l.length<1000000000->ff (l,n,())=(bp (n∈l),())
theorem am7{p1 f1 p2 f2 p3 f3 p4 f4}(U1:UY p1 f1)(U2:am6 p2 f2)(U3:aaf p3 f3)(U4:adZ p4 f4)(m:aG)(q:List Int)(n:Int)(h:MSh m)(hq:q.length<1000000000)(ho:m.outs.length<800000000):YW.F (p1,f1,p2,f2,p3,f3,p4,f4,()) (m,q,n,()) (λy=>y=mB (oK q n m)):=by
 dsimp only [YW,gm];simp (disch:=omega) only [RR,MRB,U1.hp m h,U1.hf m h,U3.hp m h,U3.hf m h];refine⟨λg=> ?_,λg=> ?_⟩
 .unfold oK;rw [pV,if_neg]
  .rfl
  .rcases g with g | g
   .rw [g];simp
   .rw [bL (show¬n<=400 by omega)];simp
 have ok:=aU.1 g.1;have e:oK q n m=Cj q n.toNat m:=by unfold oK;rw [aP ⟨ok,ah⟩,if_pos rfl]
 rw [e];have n4:n<=400:=by omega
 refine aB (λ(y:List Int×Int×Int×Int×Int×Bool×Bool×Int×Int×Int×Int×Bool×Bool×Int×List Int×Int×List Int×List Int×List Int×Unit)=>∃(x:aG) (k:Nat),y.1=q/\y.2.1=n/\y.2.2.1=k/\k<=n.toNat/\y.2.2.2.2.2.2.2.2.2=mB x/\MOK x/\x.ins.length<=m.ins.length/\x.outs.length<=m.outs.length+k/\Cj q (n.toNat-k) x=Cj q n.toNat m) (λy=>(n-y.2.2.1).toNat)
  ⟨m,0,rfl,rfl,rfl,ah,rfl,ok,Nat.le_refl _,Nat.le_refl _,rfl⟩ ?_
 rintro⟨(q:List Int),(n:Int),(i:Int),u1,u2,u3,u4,u5,u6,v1,v2,v3,v4,v5,v6,v7,v8,v9,v10,⟨⟩⟩ ⟨x,k,hI⟩;dsimp only at hI ⊢;obtain⟨rfl,rfl,rfl,h1,h2,h3,h4,h5,h6⟩:=hI;simp only [Prod.mk.injEq,and_true]at h2;obtain⟨rfl,rfl,rfl,rfl,rfl,rfl,rfl,rfl,rfl,rfl⟩:=h2;have xs:MSh x:=⟨by rw [h3.r4];decide,by rw [h3.m64];decide,by have:=h.2.2.1;omega,ah⟩;have mK:Co.mk .au (x.regs,x.pc,x.mem,x.save,x.bF,x.waits,x.halt,x.ins,x.outs,x.count,())=x:=rfl;simp (disch:=omega) only [RR,mK,U4.hp _ _ hq,U4.hf _ _ hq,U2.hp x _ xs ah,U2.hf x _ xs ah];refine⟨λg=> ?_,λg=> ?_⟩
 .have e:stS x (bp (x.count∈q))=stepM x (bp (x.count∈q)):=by unfold stS;rw [aP h3,if_pos rfl,if_neg ah]
  rw [e];have l:=EP x (bp (x.count∈q));refine⟨⟨stepM x (bp (x.count∈q)),k+1,rfl,ah,rfl,EO h3 ah _,ah,ah,?_⟩,ah⟩;rw [<-h6,show n.toNat-k=(n.toNat- (k+1))+1 by omega]
  conv=>rhs;unfold Cj
  rw [if_pos ah]
 .rw [<-h6];by_cases c:(k:Int)<n
  .rw [show n.toNat-k=(n.toNat- (k+1))+1 by omega];unfold Cj;rw [if_neg (λz=>by rw [decide_eq_true c,decide_eq_true z.1,decide_eq_true z.2]at g;cases g)]
  .rw [show n.toNat-k=0 by omega];rfl
def aiR{p1 f1}(U1:Y38 p1 f1)(b:List Int)(p:Int)(hb:Bt b)(h1:0<=p)(h2:p<900000000):NI.F (p1,f1,()) (b,p,()) (λ(y:List Int×Int×List Int×Unit)=>y.1=b/\p<=y.2.1/\y.2.1<=p+10/\y.2.2.1.length<=5):=by
 obtain⟨a1,a2,a3,a4⟩:=U1.hf 5 b p hb h1 ah;dsimp only [NI,gm];simp (disch:=omega) only [RR,U1.hp 5 b p hb h1 ah,a1,a2,List.length_nil];refine aB (λ(y:Int×List Int×Int×List Int×Unit)=>0<=y.1/\y.1<=5/\y.2.1=b/\p<=y.2.2.1/\y.2.2.1+y.1<=p+6/\(y.2.2.2.1.length:Int)+y.1<=5) (λy=>y.1.toNat) ⟨a3,by dsimp only;omega,rfl,by dsimp only;omega,by dsimp only;omega,by dsimp only [List.length_nil];omega⟩ ?_;rintro⟨(k:Int),(b':List Int),(q:Int),(l:List Int),⟨⟩⟩ hI;dsimp only at hI ⊢;obtain⟨k1,k2,rfl,k3,k4,k5⟩:=hI;obtain⟨c1,c2,_,_⟩:=U1.hf 50 b' q hb ah ah;simp (disch:=omega) only [RR,U1.hp 50 b' q hb ah ah,c1,c2,List.length_cons,List.length_nil,List.length_append];exact⟨λg=>⟨ah,⟨ah,ah,ah,ah,ah⟩,ah⟩,λg=>⟨ah,ah,ah⟩⟩
def aiS{p1 f1}(U1:Y38 p1 f1)(t:Int)(b:List Int)(p:Int)(hb:Bt b)(t0:0<=t/\t<=1000)(h1:0<=p)(h2:p<900000000):ND.F (p1,f1,()) (t,b,p,()) (λ(y:List Int×Int×List Ins×Unit)=>y.1=b/\p<=y.2.1/\y.2.1<=p+500/\y.2.2.1.length<=10):=by
 have R:=pkR hb U1.hf;have P:=λn p h1 h2=>U1.hp n b p hb h1 h2
 dsimp only [ND,gm];simp (disch:=omega) only [RR,R,P,List.length_cons,List.length_nil];exact⟨ah,ah,ah⟩
def aiT{p1 f1 p2 f2}(U1:Y71 p1 f1)(U2:Y38 p2 f2)(t:Int)(b:List Int)(p:Int)(hb:Bt b)(t0:0<=t/\t<=1000)(h1:0<=p)(h2:p<700000000):NC.F (p1,f1,p2,f2,()) (t,b,p,()) (λ(y:List Int×Int×List Ins×Unit)=>y.1=b/\p<=y.2.1/\y.2.1<=p+500/\y.2.2.1.length<=10):=by
 have R:=pkR hb U2.hf;have P:=λn p h1 h2=>U2.hp n b p hb h1 h2
 obtain⟨_,_,a3,a4⟩:=U2.hf 4 b (p+1+1) hb ah ah;dsimp only [NC,gm];simp (disch:=omega) only [RR,R,P,List.length_cons,List.length_nil,List.length_append];refine aB (λ(y:Int×Int×List Int×Int×List Ins×Unit)=>0<=y.2.1/\y.2.1<=4/\y.2.2.1=b/\p<=y.2.2.2.1/\y.2.2.2.1+50*y.2.1<=p+300/\(y.2.2.2.2.1.length:Int)+y.2.1<=7) (λy=>y.2.1.toNat) ⟨a3,by dsimp only;omega,rfl,by dsimp only;omega,by dsimp only;omega,by dsimp only [List.length_cons,List.length_nil];omega⟩ ?_;rintro⟨(t:Int),(k:Int),(b':List Int),(q:Int),(l:List Ins),⟨⟩⟩ hI;dsimp only at hI ⊢;obtain⟨k1,k2,rfl,k3,k4,k5⟩:=hI;obtain⟨c1,c2,c3,c4⟩:=U1.hf b' q hb ah ah;simp (disch:=omega) only [RR,U1.hp b' q hb ah ah,c1,List.length_cons,List.length_nil,List.length_append];refine⟨λg=>⟨λ_=>⟨ah,⟨ah,ah,ah,ah,ah⟩,ah⟩,λ_=>⟨ah,⟨ah,ah,ah,ah,ah⟩,ah⟩⟩,λg=>⟨ah,ah,ah,ah⟩⟩
structure ImD(b:List Int)(p:Int)(y:List Int×Int×List Int×Unit):Prop where
 b:y.1=b
 lo:p<=y.2.1
 hi:y.2.1<=p+8000
 len:y.2.2.1.length<=64
 w:Wos y.2.2.1
structure aiU(pp:List Ins×Unit->Bool)(ff:List Ins×Unit->List Int×Unit):Prop where
 hp:∀l,l.length<1000000->pp (l,())=true
 hf:∀l,l.length<1000000->ff (l,())=(l.map kD,())
def aiV{p1 f1 p2 f2 p4 f4 p5 f5 p7 f7 p8 f8 p9 f9}(U1:aiU p1 f1)(U2:am2 p2 f2){p3:Int×List Int×Int×Unit->Bool}{f3:Int×List Int×Int×Unit->List Int×Int×List Ins×Unit}(hp3:∀t b p,Bt b->(0<=t/\t<=1000)->0<=p->p<700000000->p3 (t,b,p,())=true)(hf3:∀t b p,Bt b->(0<=t/\t<=1000)->0<=p->p<700000000->(f3 (t,b,p,())).1=b/\p<=(f3 (t,b,p,())).2.1/\(f3 (t,b,p,())).2.1<=p+500/\(f3 (t,b,p,())).2.2.1.length<=10)(U4:Y71 p4 f4)(U5:Y70 p5 f5){p6:Int×List Int×Int×Unit->Bool}{f6:Int×List Int×Int×Unit->List Int×Int×List Ins×Unit}(hp6:∀t b p,Bt b->(0<=t/\t<=1000)->0<=p->p<900000000->p6 (t,b,p,())=true)(hf6:∀t b p,Bt b->(0<=t/\t<=1000)->0<=p->p<900000000->(f6 (t,b,p,())).1=b/\p<=(f6 (t,b,p,())).2.1/\(f6 (t,b,p,())).2.1<=p+500/\(f6 (t,b,p,())).2.2.1.length<=10)(U7:Y39 p7 f7)(U8:Y38 p8 f8)(U9:Y40 p9 f9)(b:List Int)(p:Int)(hb:Bt b)(h1:0<=p)(h2:p<600000000):NG.F (p1,f1,p2,f2,p3,f3,p4,f4,p5,f5,p6,f6,p7,f7,p8,f8,p9,f9,()) (b,p,()) (λy=>ImD b p y):=by
 have R:=pkR hb U8.hf;have P:=λn p h1 h2=>U8.hp n b p hb h1 h2
 obtain⟨_,_,a3,a4⟩:=U8.hf 5 b (p+1) hb ah ah;dsimp only [NG,gm];simp (disch:=omega) only [RR,R,P,List.length_cons,List.length_nil,List.length_append];refine⟨λ_=>⟨ah,?_⟩,λ_=> ?_⟩
 all_goals refine aB (λ(y:Int×List Int×Int×List Ins×Unit)=>0<=y.1/\y.1<=5/\y.2.1=b/\p<=y.2.2.1/\y.2.2.1+550*y.1<=p+2800/\(y.2.2.2.1.length:Int)<=44) (λy=>y.1.toNat) ⟨by dsimp only;omega,by dsimp only;omega,rfl,by dsimp only;omega,by dsimp only;omega,by simp⟩ ?_
 all_goals
  rintro⟨(k:Int),(b':List Int),(q:Int),(l:List Ins),⟨⟩⟩ hI;dsimp only at hI ⊢;obtain⟨k1,k2,rfl,k3,k4,k5⟩:=hI;obtain⟨_,_,d3,d4⟩:=U8.hf 8 b' (q+1) hb ah ah;simp (disch:=omega) only [RR,R,P,List.length_cons,List.length_nil,List.length_append];refine⟨λg=>⟨λ_=> ?_,λ_=>⟨λ_=> ?_,λ_=> ?_⟩⟩,λg=>⟨ah,U1.hp _ (by simp;omega),?_⟩⟩
  .obtain⟨z1,z2,z3,z4⟩:=hf3 l.length b' (q+1) hb ah ah ah;exact⟨hp3 l.length b' (q+1) hb ah ah ah,ah,⟨ah,ah,z1,ah,ah,ah⟩,ah⟩
  .obtain⟨z1,z2,z3,z4⟩:=hf6 l.length b' (q+1) hb ah ah ah;exact⟨hp6 l.length b' (q+1) hb ah ah ah,ah,⟨ah,ah,z1,ah,ah,ah⟩,ah⟩
  .refine aB (λ(y:Int×Int×List Int×Int×List Ins×Unit)=>y.1=k/\0<=y.2.1/\y.2.1<=8/\y.2.2.1=b'/\q<=y.2.2.2.1/\y.2.2.2.1+30*y.2.1<=q+300/\(y.2.2.2.2.1.length:Int)+y.2.1<=42) (λy=>y.2.1.toNat) ⟨rfl,by dsimp only;omega,by dsimp only;omega,rfl,by dsimp only;omega,by dsimp only;omega,by dsimp only;omega⟩ ?_;rintro⟨(k:Int),(j:Int),(b'':List Int),(q':Int),(l':List Ins),⟨⟩⟩ hI;dsimp only at hI ⊢;obtain⟨rfl,j1,j2,rfl,j3,j4,j5⟩:=hI;obtain⟨c1,c2,c3,_⟩:=U5.hf b'' q' hb ah ah;simp (disch:=omega) only [RR,U5.hp b'' q' hb ah ah,c1,List.length_cons,List.length_nil,List.length_append];exact⟨λ_=>⟨ah,⟨ah,ah,ah,ah,ah⟩,ah⟩,λ_=>⟨⟨ah,ah,ah,ah,ah⟩,ah⟩⟩
  .rw [U1.hf _ (by simp;omega)];have ww:∀l:List Ins,Wos (l.map kD):=λl x hx=>by obtain⟨i,_,rfl⟩:=List.mem_map.1 hx;exact zq i
   refine aB (λ(y:List Int×Int×List Int×Unit)=>y.1=b'/\q<=y.2.1/\y.2.1<=q+40*y.2.2.1.length/\y.2.2.1.length<=48/\Wos y.2.2.1) (λy=>48-y.2.2.1.length) ⟨rfl,by dsimp only;omega,by dsimp only;omega,by simp;omega,ww _⟩ ?_;rintro⟨(b'':List Int),(r:Int),(o:List Int),⟨⟩⟩ hI;dsimp only at hI ⊢;obtain⟨rfl,j1,j2,j3,j4⟩:=hI;obtain⟨e1,e2,e3,e4⟩:=U9.hf b'' r hb ah ah;obtain⟨c1,c2,c3,_⟩:=U5.hf b'' (f9 (b'',r,())).2.2.1 hb ah ah;have p5':=U5.hp b'' (f9 (b'',r,())).2.2.1 hb ah ah;obtain⟨_,_,g3,g4⟩:=U8.hf 4 b'' r hb ah ah;simp (disch:=omega) only [RR,R,P,U9.hp b'' r hb ah ah,e1,p5',c1,U2.hp,U2.hf,List.length_cons,List.length_nil,List.length_append,nX];refine⟨λ_=>⟨ah,⟨ah,ah,ah,j4.snoc (Wos.at (aiO (aiO (aiO (λ_ h=>(by cases h)) (zq _)) e4) wo0) _)⟩,ah⟩,λ_=>⟨ah,ah,ah,ah,ah,ah,?_⟩⟩;refine aB (λ(y:Int×List Int×Int×List Int×Unit)=>0<=y.1/\y.1<=4/\y.2.1=b''/\r<=y.2.2.1/\y.2.2.1+50*y.1<=r+300/\(y.2.2.2.1.length:Int)+y.1<=52/\Wos y.2.2.2.1) (λy=>y.1.toNat) ⟨g3,by dsimp only;omega,rfl,by dsimp only;omega,by dsimp only;omega,by simp only [List.length_drop,List.length_take];omega,λx hx=>j4 x (List.mem_of_mem_take (List.mem_of_mem_drop hx))⟩ ?_;rintro⟨(m:Int),(b3:List Int),(t:Int),(u:List Int),⟨⟩⟩ hI;dsimp only at hI ⊢;obtain⟨m1,m2,rfl,m3,m4,m5,m6⟩:=hI;obtain⟨c1,c2,c3,_⟩:=U4.hf b3 t hb ah ah;obtain⟨o1,o2⟩:=U7.hf 9 b3 t hb ah ah;have OP:=U7.hp 9 b3 t hb ah ah;obtain⟨_,_,n3,n4⟩:=U8.hf (u.length+2) b3 (t+1) hb ah ah;obtain⟨e1,e2,e3,e4⟩:=U9.hf b3 (t+1+1) hb ah ah;have W9:=U9.hp b3 (t+1+1) hb ah ah;simp (disch:=omega) only [RR,R,P,U4.hp b3 t hb ah ah,c1,U2.hp,U2.hf,OP,o1,o2,W9,e1,List.length_cons,List.length_nil,List.length_append,nX];have w2:Wos (u++ [kD (Co.mk .ins (14,3,0,0,())),kD (Co.mk .ins (0,0,0,1,()))]):=by
    rw [show∀x y:Int,u++ [x,y]=(u++ [x])++ [y] by simp];exact(m6.snoc (zq _)).snoc (zq _)
   refine⟨λ_=>⟨ah,⟨ah,ah,ah,ah,ah,m6.snoc (zq _)⟩,ah⟩,λ_=>⟨ah,λ_=>⟨rfl,?_,?_,?_,w2.set e4 _⟩,λ_=>⟨rfl,?_,?_,?_,w2⟩⟩⟩
   .dsimp only;omega
   .dsimp only;omega
   .dsimp only;rw [List.length_set,List.length_append,List.length_cons,List.length_cons,List.length_nil];omega
   .dsimp only;omega
   .dsimp only;omega
   .dsimp only;rw [List.length_append,List.length_cons,List.length_cons,List.length_nil];omega
abbrev YMc:=Int×Int×Bool×Bool×Int×List Int×Int×List Int×Int×List Int×List Int×List Int×Unit
abbrev mE(y : YMc) : aG := ⟨y.2.2.2.2.2.2.2.2.2.1, y.1, y.2.2.2.2.2.2.2.2.2.2.1, y.2.1, y.2.2.1, y.2.2.2.1, y.2.2.2.2.1, y.2.2.2.2.2.1, y.2.2.2.2.2.2.2.2.2.2.2.1, y.2.2.2.2.2.2.1⟩
structure McD(b:List Int)(p:Int)(y:YMc):Prop where
 b:y.2.2.2.2.2.2.2.1=b
 lo:p<=y.2.2.2.2.2.2.2.2.1
 hi:y.2.2.2.2.2.2.2.2.1<=p+9500
 ok:MOK (mE y)
 i:(mE y).ins.length<=10
 o:(mE y).outs.length<=100
def am8{X:aG}(h:MOK X){r:List Int}{pc ha:Int}{l w:Bool}(h1:Wo pc)(h2:0<=ha/\ha<=4)(h3:r.length=4)(h4:Wos r):MOK ⟨r,pc,X.mem,X.save,l,w,ha,X.ins,X.outs,X.count⟩:=
 {h with r4:=h3,rw:=h4,pc:=h1,ha:=h2}
structure am9(pp:List Int×List Int×Unit->Bool)(ff:List Int×List Int×Unit->Int×Int×Bool×Bool×Int×Int×List Int×List Int×List Int×Unit):Prop where
 hp:∀w i,w.length<1000000->i.length<1000000->pp (w,i,())=true
 hf:∀w i,w.length<1000000->i.length<1000000->ff (w,i,())=((iO w i).pc,(iO w i).save,(iO w i).bF,(iO w i).waits,(iO w i).halt,(iO w i).count,(iO w i).regs,(iO w i).mem,(iO w i).ins,())
structure ana(pp:List Int×Int×Unit->Bool)(ff:List Int×Int×Unit->List Int×Int×List Int×Unit):Prop where
 hp:∀b p,Bt b->0<=p->p<600000000->pp (b,p,())=true
 hf:∀b p,Bt b->0<=p->p<600000000->ImD b p (ff (b,p,()))
structure anb(pp:List Int×Int×Unit->Bool)(ff:List Int×Int×Unit->List Int×Int×List Int×Unit):Prop where
 hp:∀b p,Bt b->0<=p->p<900000000->pp (b,p,())=true
 hf:∀b p,Bt b->0<=p->p<900000000->(ff (b,p,())).1=b/\p<=(ff (b,p,())).2.1/\(ff (b,p,())).2.1<=p+10/\(ff (b,p,())).2.2.1.length<=5
structure ane(pp:Int×List Int×Int×Unit->Bool)(ff:Int×List Int×Int×Unit->List Int×Int×List Int×Unit):Prop where
 hp:∀n b p,Bt b->(0<=n/\n<=100)->0<=p->p<800000000->pp (n,b,p,())=true
 hf:∀n b p,Bt b->(0<=n/\n<=100)->0<=p->p<800000000->(ff (n,b,p,())).1=b/\p<=(ff (n,b,p,())).2.1/\(ff (n,b,p,())).2.1<=p+300/\(ff (n,b,p,())).2.2.1.length=n/\wOK (ff (n,b,p,())).2.2.1
def aiW{p1 f1 p3 f3 p4 f4 p5 f5 p6 f6 p7 f7}(U1:am9 p1 f1){p2:aG×List Int×Int×Unit->Bool}{f2:aG×List Int×Int×Unit->Int×Int×Bool×Bool×Int×List Int×Int×List Int×List Int×List Int×Unit}(hp2:∀m q n,MSh m->q.length<1000000000->m.outs.length<800000000->p2 (m,q,n,())=true)(hf2:∀m q n,MSh m->q.length<1000000000->m.outs.length<800000000->f2 (m,q,n,())=mB (oK q n m))(U3:ana p3 f3)(U4:anb p4 f4)(U5:Y39 p5 f5)(U6:Y38 p6 f6)(U7:ane p7 f7)(b:List Int)(p:Int)(hb:Bt b)(h1:0<=p)(h2:p<500000000):Pn.F (p1,f1,p2,f2,p3,f3,p4,f4,p5,f5,p6,f6,p7,f7,()) (b,p,()) (λy=>McD b p y):=by
 obtain⟨i1,i2,i3,i4,i5⟩:=U3.hf b p hb h1 ah;have P3:=U3.hp b p hb h1 ah;generalize hy:f3 (b,p,())=y at i1 i2 i3 i4 i5;obtain⟨b',q0,w,⟨⟩⟩:=y;dsimp only at i1 i2 i3 i4 i5;subst i1;have R:=pkR hb U6.hf;have P:=λn p h1 h2=>U6.hp n b' p hb h1 h2
 obtain⟨_,_,a3,a4⟩:=U6.hf 5 b' q0 hb ah ah;obtain⟨w1,w2,w3,w4,w5⟩:=U7.hf (f6 (5,b',q0,())).1 b' (q0+1) hb ah ah ah;have P7:=U7.hp (f6 (5,b',q0,())).1 b' (q0+1) hb ah ah ah;generalize hz:f7 ((f6 (5,b',q0,())).1,b',q0+1,())=z at w1 w2 w3 w4 w5;obtain⟨b2,q1,is,⟨⟩⟩:=z;dsimp only at w1 w2 w3 w4 w5;subst w1;have P1:=U1.hp w is ah ah;have H1:=U1.hf w is ah ah;have ok:=SY i4 i5 w5;have oe:(iO w is).outs=[]:=by unfold iO;split<;>rfl
 have ie:(iO w is).ins.length<=10:=by unfold iO;split;(dsimp only;omega);exact Nat.zero_le _
 generalize iO w is=M at P1 H1 ok oe ie;have mK:Co.mk .au (M.regs,M.pc,M.mem,M.save,M.bF,M.waits,M.halt,M.ins,[],M.count,())=M:=by cases M;dsimp only at oe;subst oe;rfl
 have P4:=U4.hp b2 q1 hb ah ah;obtain⟨q1',q2',q3',q4'⟩:=U4.hf b2 q1 hb ah ah;generalize hr:f4 (b2,q1,())=r at q1' q2' q3' q4';obtain⟨b3,q2,qs,⟨⟩⟩:=r;dsimp only at q1' q2' q3' q4';subst q1';have ms:MSh M:=⟨by rw [ok.r4];decide,by rw [ok.m64];decide,ah,by rw [oe];decide⟩;obtain⟨_,_,n3,n4⟩:=U6.hf 40 b3 q2 hb ah ah;have P2:=hp2 M qs (f6 (40,b3,q2,())).1 ms ah (by rw [oe];decide);have H2:=hf2 M qs (f6 (40,b3,q2,())).1 ms ah (by rw [oe];decide);have hX:MOK (oK qs (f6 (40,b3,q2,())).1 M):=by unfold oK;rw [aP ⟨ok,ah⟩,if_pos rfl];exact S9 _ _ ok
 have lX:(oK qs (f6 (40,b3,q2,())).1 M).ins.length<=10/\(oK qs (f6 (40,b3,q2,())).1 M).outs.length<=100:=by
  unfold oK;rw [aP ⟨ok,ah⟩,if_pos rfl];have:=Ta qs (f6 (40,b3,q2,())).1.toNat M;rw [oe]at this;simp only [List.length_nil]at this;omega
 generalize oK qs (f6 (40,b3,q2,())).1 M=X at P2 H2 hX lX;obtain⟨v1,v2,v3,v4,v5⟩:=U7.hf 4 b3 (q2+1+1) hb ah ah ah;have P7':=U7.hp 4 b3 (q2+1+1) hb ah ah ah;generalize hv:f7 (4,b3,q2+1+1,())=v at v1 v2 v3 v4 v5;obtain⟨b4,q3,vs,⟨⟩⟩:=v;dsimp only at v1 v2 v3 v4 v5;subst v1;have O:=λn p h1 h2=>(U5.hf n b4 p hb h1 h2).1
 have O':=λn p h1 h2=>(U5.hf n b4 p hb h1 h2).2
 have OP:=λn p h1 h2=>U5.hp n b4 p hb h1 h2
 dsimp only [Pn,gm];simp (disch:=omega) only [RR,P3,hy,R,P,P7,hz,P1,H1,mK,P4,hr,P2,H2,P7',hv,O,O',OP];have pk:∀t:Int,0<=t->t<1000000000->Wo (f6 (66,b4,t,())).1:=λt h1 h2=>by obtain⟨_,_,c3,c4⟩:=U6.hf 66 b4 t hb h1 h2;unfold Wo;omega
 have v4':vs.length=4:=by omega
 repeat' (first | (refine⟨?_,?_⟩) | intro _)
 all_goals first | omega | (refine⟨rfl,by dsimp only;omega,by dsimp only;omega,am8 hX (by first | exact hX.pc | exact pk _ ah ah) (by first | exact hX.ha | exact⟨show(0:Int)<=0 by decide,show(0:Int)<=4 by decide⟩) (by first | exact hX.r4 | exact v4') (by first | exact hX.rw | exact v5),lX.1,lX.2⟩)
abbrev YMo:=Int×List Int×Int×Bool×Bool×Int×List Int×Int×List Int×Int×List Int×List Int×Unit
structure MoD(b:List Int)(p:Int)(y:YMo):Prop where
 b:y.2.2.2.2.2.2.2.2.1=b
 lo:p<=y.2.2.2.2.2.2.2.2.2.1
 hi:y.2.2.2.2.2.2.2.2.2.1<=p+9600
 r:y.2.2.2.2.2.2.2.2.2.2.1.length<=10
 m:y.2.1.length<=64
 i:y.2.2.2.2.2.2.1.length<=10
 o:y.2.2.2.2.2.2.2.2.2.2.2.1.length<=110
structure aqH(pp:List Int×Int×Unit->Bool)(ff:List Int×Int×Unit->YMc):Prop where
 hp:∀b p,Bt b->0<=p->p<500000000->pp (b,p,())=true
 hf:∀b p,Bt b->0<=p->p<500000000->McD b p (ff (b,p,()))
def aiX{p1 f1 p2 f2 p3 f3}(U1:aqH p1 f1)(U2:Y39 p2 f2)(U3:Y38 p3 f3)(n:Int)(b:List Int)(p:Int)(hb:Bt b)(h1:0<=p)(h2:p<400000000):Po.F (p1,f1,p2,f2,p3,f3,()) (n,b,p,()) (λy=>MoD b p y):=by
 obtain⟨i1,i2,i3,i4,i5,i6⟩:=U1.hf b p hb h1 ah;have P1:=U1.hp b p hb h1 ah;generalize hy:f1 (b,p,())=y at i1 i2 i3 i4 i5 i6;obtain⟨pc,sv,lt,wt,ha,ins,ct,b',q,regs,mem,outs,⟨⟩⟩:=y;have r4:=i4.r4;have m6:=i4.m64;dsimp only at i1 i2 i3 i5 i6 r4 m6;subst i1;have R:=pkR hb U3.hf;have P:=λn p h1 h2=>U3.hp n b' p hb h1 h2
 obtain⟨O,O'⟩:=U2.hf n b' q hb ah ah;have OP:=U2.hp n b' q hb ah ah;dsimp only [Po,gm];simp (disch:=omega) only [RR,P1,hy,R,P,O,O',OP,List.length_cons,List.length_nil];have tl:∀n:Nat,(List.drop (Int.toNat 1) (List.take n mem)).length<=64:=λn=>by rw [List.length_drop,List.length_take];omega
 repeat' (first | (refine⟨?_,?_⟩) | intro _)
 all_goals first | omega | (refine⟨rfl,by dsimp only;omega,by dsimp only;omega,?_,?_,by dsimp only;omega,?_⟩<;>first | (dsimp only;omega) | exact tl _ | (dsimp only;simp only [List.length_append,List.length_set,List.length_cons,List.length_nil];omega))
structure MaD(b:List Int)(p:Int)(y:YMc):Prop where
 b:y.2.2.2.2.2.2.2.1=b
 lo:p<=y.2.2.2.2.2.2.2.2.1
 hi:y.2.2.2.2.2.2.2.2.1<=p+9700
 r:(mE y).regs.length=4
 m:(mE y).mem.length=64
 i:(mE y).ins.length<=10
 o:(mE y).outs.length<=100
def vS(a1 a2 a3 a4 a5 a6:Int)(o:IOp)(ops:List IOp)(h:ops.length<1000000):NK.F () (a1,a2,a3,a4,a5,a6,o,ops,()) (λy=>y=(a1,a2,a3,a4,a5,a6,(ops.length:Int),ops++ [o],())):=by
 dsimp only [NK,gm];simp (disch:=omega) only [RR,List.length_append,List.length_cons,List.length_nil];rw [show((ops.length+(0+1):Nat):Int)-1=ops.length by omega];exact⟨ah,rfl⟩
structure aar(pp:Int×Int×Int×Int×Int×Int×IOp×List IOp×Unit->Bool)(ff:Int×Int×Int×Int×Int×Int×IOp×List IOp×Unit->Int×Int×Int×Int×Int×Int×Int×List IOp×Unit):Prop where
 hp:∀(a1 a2 a3 a4 a5 a6:Int) (o:IOp) (ops:List IOp),ops.length<1000000->pp (a1,a2,a3,a4,a5,a6,o,ops,())=true
 hf:∀(a1 a2 a3 a4 a5 a6:Int) (o:IOp) (ops:List IOp),ops.length<1000000->ff (a1,a2,a3,a4,a5,a6,o,ops,())=(a1,a2,a3,a4,a5,a6,(ops.length:Int),ops++ [o],())
def vU{p1 f1}(U1:aar p1 f1)(a1 a2 a3 a4 a5 a6 k:Int)(ops:List IOp)(h:ops.length<1000000):NQ.F (p1,f1,()) (a1,a2,a3,a4,a5,a6,k,ops,()) (λy=>y=(a1,a2,a3,a4,a5,a6,(ops.length:Int),ops++ [⟨2,0,0,k,0⟩],())):=by
 dsimp only [NQ,gm];simp (disch:=omega) only [RR,U1.hp,U1.hf,h];rfl
def vV{p1 f1}(U1:aar p1 f1)(a1 a2 a3 a4 a5 a6 k x:Int)(ops:List IOp)(h:ops.length<1000000):NP.F (p1,f1,()) (a1,a2,a3,a4,a5,a6,k,x,ops,()) (λy=>y=(a1,a2,a3,a4,a5,a6,ops++ [⟨8,x,0,k,0⟩],())):=by
 dsimp only [NP,gm];simp (disch:=omega) only [RR,U1.hp,U1.hf,h];rfl
def n1a(l:List IOp)(o:IOp):((l++ [o]).length:Int)=l.length+1:=by rw [List.length_append];rfl
structure ad1(pp:Int×Int×Int×Int×Int×Int×Int×List IOp×Unit->Bool)(ff:Int×Int×Int×Int×Int×Int×Int×List IOp×Unit->Int×Int×Int×Int×Int×Int×Int×List IOp×Unit):Prop where
 hp:∀(a1 a2 a3 a4 a5 a6 k:Int) (ops:List IOp),ops.length<1000000->pp (a1,a2,a3,a4,a5,a6,k,ops,())=true
 hf:∀(a1 a2 a3 a4 a5 a6 k:Int) (ops:List IOp),ops.length<1000000->ff (a1,a2,a3,a4,a5,a6,k,ops,())=(a1,a2,a3,a4,a5,a6,(ops.length:Int),ops++ [⟨2,0,0,k,0⟩],())
def A8{p1 f1 p2 f2}(U1:ad1 p1 f1)(U2:aar p2 f2)(a1 a2 a3 a4 a5 a6 k a:Int)(o:IOp)(ops:List IOp)(h:ops.length<990000):NR.F (p1,f1,p2,f2,()) (a1,a2,a3,a4,a5,a6,k,a,o,ops,()) (λy=>y=(a1,a2,a3,a4,a5,a6,(ops.length:Int)+2,ops++ [⟨2,0,0,a,0⟩,o,⟨3,ops.length,ops.length+1,k,0⟩],())):=by
 have m1:∀(l:List IOp) (o:IOp),l.length<990000->(l++ [o]).length<1000000:=λl o h=>by rw [List.length_append];simp only [List.length_cons,List.length_nil];omega
 have m2:∀(l:List IOp) (o o2:IOp),l.length<990000->((l++ [o])++ [o2]).length<1000000:=λl o o2 h=>by simp only [List.length_append,List.length_cons,List.length_nil];omega
 dsimp only [NR,gm];simp (disch:=first | omega | (apply m1;omega) | (apply m2;omega)) only [RR,U1.hp,U1.hf,U2.hp,U2.hf,n1a];simp;rfl
structure anf(pp:Int×Int×Int×Int×Int×Int×Int×Int×IOp×List IOp×Unit->Bool)(ff:Int×Int×Int×Int×Int×Int×Int×Int×IOp×List IOp×Unit->Int×Int×Int×Int×Int×Int×Int×List IOp×Unit):Prop where
 hp:∀(a1 a2 a3 a4 a5 a6 k a:Int) (o:IOp) (ops:List IOp),ops.length<990000->pp (a1,a2,a3,a4,a5,a6,k,a,o,ops,())=true
 hf:∀(a1 a2 a3 a4 a5 a6 k a:Int) (o:IOp) (ops:List IOp),ops.length<990000->ff (a1,a2,a3,a4,a5,a6,k,a,o,ops,())=(a1,a2,a3,a4,a5,a6,(ops.length:Int)+2,ops++ [⟨2,0,0,a,0⟩,o,⟨3,ops.length,ops.length+1,k,0⟩],())
structure ang(pp:Int×Int×Int×Int×Int×Int×Int×Int×List IOp×Unit->Bool)(ff:Int×Int×Int×Int×Int×Int×Int×Int×List IOp×Unit->Int×Int×Int×Int×Int×Int×List IOp×Unit):Prop where
 hp:∀(a1 a2 a3 a4 a5 a6 k x:Int) (ops:List IOp),ops.length<1000000->pp (a1,a2,a3,a4,a5,a6,k,x,ops,())=true
 hf:∀(a1 a2 a3 a4 a5 a6 k x:Int) (ops:List IOp),ops.length<1000000->ff (a1,a2,a3,a4,a5,a6,k,x,ops,())=(a1,a2,a3,a4,a5,a6,ops++ [⟨8,x,0,k,0⟩],())
def Ck{p1 f1 p2 f2 p3 f3 p4 f4}(U1:ad1 p1 f1)(U2:aar p2 f2)(U3:anf p3 f3)(U4:ang p4 f4)(a1 a2 a3 a4 a5 a6:Int)(i:Ins)(n:Int)(ops:List IOp)(hi:i.op=9\/i.op=10)(h:ops.length<950000):NT.F (p1,f1,p2,f2,p3,f3,p4,f4,()) (a1,a2,a3,a4,a5,a6,i,n,ops,()) (λy=>y=(a1,a2,a3,a4,a5,a6,ops++fH n ops.length i,())):=by
 have m3:∀(l:List IOp) (o1 o2 o3:IOp),l.length<950000->(l++ [o1,o2,o3]).length<1000000:=λl o1 o2 o3 h=>by simp only [List.length_append,List.length_cons,List.length_nil];omega
 have m4:∀(l:List IOp) (o1 o2 o3 o4:IOp),l.length<950000->((l++ [o1,o2,o3])++ [o4]).length<1000000:=λl o1 o2 o3 o4 h=>by simp only [List.length_append,List.length_cons,List.length_nil];omega
 have n3:∀(l:List IOp) (o1 o2 o3:IOp),((l++ [o1,o2,o3]).length:Int)=l.length+3:=λl o1 o2 o3=>by rw [List.length_append];rfl
 dsimp only [NT,gm];simp (disch:=first | omega | (apply m3;omega) | (apply m4;omega)) only [RR,IR,U1.hp,U1.hf,U2.hp,U2.hf,U3.hp,U3.hf,U4.hp,U4.hf,n3];unfold fH;refine⟨λe=> ?_,λe=> ?_⟩
 .rw [if_neg ah,if_neg ah,if_neg ah,if_pos e];simp;rfl
 .rw [if_neg ah,if_neg ah,if_neg ah,if_neg ah,if_pos ah];simp;rfl
def qD(k:Int)(k0:0<=k)(k1:k<=15):NS.F () (k,()) (λy=>y=(2^k.toNat,())):=by
 dsimp only [NS,gm];simp (disch:=omega) only [RR];refine aB (λ(y:Int×Int×Int×Unit)=>y.1=k/\0<=y.2.2.1/\y.2.2.1<=k/\y.2.1=2^y.2.2.1.toNat) (λy=>(k-y.2.2.1).toNat) ⟨rfl,by simp,k0,rfl⟩ ?_;rintro⟨(z:Int),(a:Int),(i:Int),⟨⟩⟩ hI;dsimp only at hI ⊢;obtain⟨rfl,j1,j2,rfl⟩:=hI;have pw:=Z9 j1 ah;unfold Wo at pw;simp (disch:=omega) only [RR];refine⟨λg=>⟨⟨ah,ah,?_⟩,ah⟩,λg=>by rw [show i=z by omega]⟩;rw [show(i+1).toNat=i.toNat+1 by omega,Int.pow_succ];omega
def ER{p1 f1}(U1:ad1 p1 f1)(B:Blk)(i:Ins)(hi:11<=i.op/\i.op<=13)(h:B.ops.length<950000):NU.F (p1,f1,()) (B.pc,B.len,B.fin,B.x,B.y,B.k,i,B.ops,()) (λy=>y=bk7 (gH 0 B i)):=by
 have m1:∀(l:List IOp) (o:IOp),l.length<950000->(l++ [o]).length<1000000:=λl o h=>by rw [List.length_append];simp only [List.length_cons,List.length_nil];omega
 dsimp only [NU,gm];unfold gH fH;rcases(by omega:i.op=11\/i.op=12\/i.op=13)with e | e | e
 all_goals
  simp (disch:=first | omega | (apply m1;omega)) only [RR,IR,e,U1.hp,U1.hf,n1a,Int.reduceEq,or_self,true_or,or_true]
  try simp
def FQ{p1 f1 p3 f3 p5 f5 p6 f6}(U1:ad1 p1 f1){p2:Int×Int×Int×Int×Int×Int×Ins×List IOp×Unit->Bool}{f2:Int×Int×Int×Int×Int×Int×Ins×List IOp×Unit->Int×Int×Int×Int×Int×Int×List IOp×Unit}(hp2:∀(B:Blk) (i:Ins),(11<=i.op/\i.op<=13)->B.ops.length<950000->p2 (B.pc,B.len,B.fin,B.x,B.y,B.k,i,B.ops,())=true)(hf2:∀(B:Blk) (i:Ins),(11<=i.op/\i.op<=13)->B.ops.length<950000->f2 (B.pc,B.len,B.fin,B.x,B.y,B.k,i,B.ops,())=bk7 (gH 0 B i))(U3:aar p3 f3){p4:Int×Int×Int×Int×Int×Int×Ins×Int×List IOp×Unit->Bool}{f4:Int×Int×Int×Int×Int×Int×Ins×Int×List IOp×Unit->Int×Int×Int×Int×Int×Int×List IOp×Unit}(hp4:∀(a1 a2 a3 a4 a5 a6:Int) (i:Ins) (n:Int) (ops:List IOp),(i.op=9\/i.op=10)->ops.length<950000->p4 (a1,a2,a3,a4,a5,a6,i,n,ops,())=true)(hf4:∀(a1 a2 a3 a4 a5 a6:Int) (i:Ins) (n:Int) (ops:List IOp),(i.op=9\/i.op=10)->ops.length<950000->f4 (a1,a2,a3,a4,a5,a6,i,n,ops,())=(a1,a2,a3,a4,a5,a6,ops++fH n ops.length i,()))(U5:anf p5 f5)(U6:ang p6 f6){p7:Int×Unit->Bool}{f7:Int×Unit->Int×Unit}(hp7:∀k,0<=k->k<=15->p7 (k,())=true)(hf7:∀k,0<=k->k<=15->f7 (k,())=(2^k.toNat,()))(B:Blk)(i:Ins)(n:Int)(hi:bX i)(h0:i.op≠0)(h:B.ops.length<900000):NV.F (p1,f1,p2,f2,p3,f3,p4,f4,p5,f5,p6,f6,p7,f7,()) (B.pc,B.len,B.fin,B.x,B.y,B.k,i,n,B.ops,()) (λy=>y=bk7 (gH n B i)):=by
 have m1:∀(l:List IOp) (o:IOp),l.length<950000->(l++ [o]).length<1000000:=λl o h=>by rw [List.length_append];simp only [List.length_cons,List.length_nil];omega
 have m3:∀(l:List IOp) (o1 o2 o3:IOp),l.length<950000->(l++ [o1,o2,o3]).length<1000000:=λl o1 o2 o3 h=>by simp only [List.length_append,List.length_cons,List.length_nil];omega
 obtain⟨⟨o0,o1⟩,_,_,k0,_,_,_,r3,r8,_⟩:=hi;have P2:=hp2 B i;have H2:=hf2 B i;dsimp only [NV,gm];rcases(by omega:i.op=1\/i.op=2\/i.op=8\/(i.op=9\/i.op=10)\/i.op=14\/i.op=15\/(i.op=11\/i.op=12\/i.op=13)\/(3<=i.op/\i.op<=7))with e | e | e | e | e | e | e | e
 case inr.inr.inr.inl=>
  have e':gH n B i={B with ops:=B.ops++fH n B.ops.length i}:=by unfold gH;rw [if_neg ah,if_neg ah]
  rw [e'];have P4:=hp4 B.pc B.len B.fin B.x B.y B.k i n B.ops e ah;have H4:=hf4 B.pc B.len B.fin B.x B.y B.k i n B.ops e ah;rcases e with e | e<;>simp (disch:=omega) only [RR,IR,e,Int.reduceEq,P4,H4,or_true,true_or]
 case inr.inr.inr.inr.inr.inr.inl=>
  have e':gH n B i=gH 0 B i:=by unfold gH fH;rcases e with e | e | e<;>simp [e]
  rw [e'];have P2:=P2 ah ah;have H2:=H2 ah ah;rcases e with e | e | e<;>simp (disch:=omega) only [RR,IR,e,Int.reduceEq,P2,H2,or_true,true_or]
 case inr.inr.inr.inr.inr.inr.inr=>
  have n0:∀z:Int,z<3\/7<z->¬i.op=z:=λz g q=>by omega
  have e':gH n B i={B with ops:=B.ops++ [⟨2,0,0,i.a,0⟩,⟨2,0,0,i.k,0⟩,⟨3,B.ops.length,B.ops.length+1,i.op-2,0⟩,⟨8,B.ops.length+2,0,i.d,0⟩]}:=by
   unfold gH fH;simp (disch:=omega) only [n0,if_false,or_self]
  rw [e'];simp (disch:=first | omega | (apply m3;omega)) only [RR,IR,n0,U5.hp,U5.hf,U6.hp,U6.hf,or_self];simp;rw [show i.op-3+1=i.op-2 by omega];rfl
 all_goals
  unfold gH fH;simp (disch:=first | omega | (apply m1;omega) | (apply m3;omega)) only [RR,IR,e,Int.reduceEq,U1.hp,U1.hf,U3.hp,U3.hf,U5.hp,U5.hf,U6.hp,U6.hf,hp7 i.k k0,hf7 i.k k0,r8,n1a,or_self,true_and,and_true]
  try simp
  try rfl
def qE(a:Int):XC.F () (a,()) (λy=>y=(inB a 11 13,())):=by
 dsimp only [XC,gm];refine Prod.ext ?_ rfl;dsimp only;rw [Bool.eq_iff_iff,dF];simp [Za];omega
def Cm{p1 f1 p2 f2}(U1:aiC p1 f1)(U2:adV p2 f2)(i:Ins):Nz.F (p1,f1,p2,f2,()) (i,()) (λy=>y=(bp (bX i)&& !decide (i.op=0)&& !inB i.op 11 13,())):=by
 dsimp only [Nz,gm];simp (disch:=omega) only [RR,IR,U1.hp,U1.hf,U2.hp,U2.hf]
def FR{p1 f1 p2 f2 p3 f3}(U1:aiC p1 f1)(U2:adV p2 f2)(U3:Y1 p3 f3){p4:Ins×Unit->Bool}{f4:Ins×Unit->Bool×Unit}(hp4:∀i,p4 (i,())=true)(hf4:∀i,f4 (i,())=(bp (bX i)&& !decide (i.op=0)&& !inB i.op 11 13,()))(pc:Int)(l:List Ins)(hl:(l.length:Int)<1000):XG.F (p1,f1,p2,f2,p3,f3,p4,f4,()) (pc,l,()) (λy=>y=(bp (nG pc l),())):=by
 dsimp only [XG,gm];simp (disch:=omega) only [RR,IR,U1.hp,U1.hf,U2.hp,U2.hf,U3.hp,U3.hf,hp4,hf4,dF,qB];refine⟨λh=> ?_,λh=> ?_⟩
 .rw [bL];intro g;have a:=g.ln;have c:=g.pc;omega
 refine aB (λ(y:List Ins×Int×Unit)=>y.1=l/\0<=y.2.1/\y.2.1<=l.length/\∀j:Nat,j<y.2.1->bX (l.getD j default)/\(l.getD j default).op≠0/\(11<=(l.getD j default).op/\(l.getD j default).op<=13->j+1=l.length)) (λy=>(l.length-y.2.1).toNat) ⟨rfl,by simp,by simp,λj hj=>absurd hj (by dsimp only;omega)⟩ ?_;rintro⟨(l:List Ins),(i:Int),⟨⟩⟩ hI;dsimp only at hI ⊢;obtain⟨rfl,h1,h2,h3⟩:=hI;by_cases g:i<l.length
 .have nx:bX ((l).getD (i).toNat default)/\(((l).getD (i).toNat default)).op≠0/\(11<=(((l).getD (i).toNat default)).op/\(((l).getD (i).toNat default)).op<=13->i+1=l.length)->∀j:Nat,(j:Int)<i+1->bX (l.getD j default)/\(l.getD j default).op≠0/\(11<=(l.getD j default).op/\(l.getD j default).op<=13->j+1=l.length):=λq j hj=>by
   by_cases c:(j:Int)<i
   .exact h3 j c
   .obtain rfl:j=i.toNat:=by omega
    exact⟨q.1,q.2.1,λz=>by have:=q.2.2 z;omega⟩
  have bad:¬(bX ((l).getD (i).toNat default)/\(((l).getD (i).toNat default)).op≠0/\(11<=(((l).getD (i).toNat default)).op/\(((l).getD (i).toNat default)).op<=13->i+1=l.length))->bp (nG pc l)=false:=λq=>bL λv=>q (by
   have:=v.ok i.toNat ah;exact⟨this.1,this.2.1,λz=>by have:=this.2.2 z;omega⟩)
  have gi:(i< (l.length:Int)-1)↔¬(i+1=l.length):=by omega
  simp (disch:=omega) only [RR,IR,U1.hp,U1.hf,U2.hp,U2.hf,hp4,hf4,g];refine⟨h1,Or.inr h1,Or.inr h1,λe=> ?_,λe=>⟨⟨ah,ah,nx ?_⟩,ah⟩⟩
  .rw [bad];rintro⟨q1,q2,q3⟩;rw [aP q1,decide_eq_false q2]at e;have e1:=dF.1 (show inB (((l).getD (i).toNat default)).op 11 13=true by simpa using e.1);have:=q3 e1;rcases e.2 with(z | z) | z
   .omega
   .cases z
   .exact z e1
  .have a:bX ((l).getD (i).toNat default):=Classical.byContradiction λn=>by rw [bL n]at e;simp at e
   refine⟨a,λz=> ?_,λq=> ?_⟩
   .rw [z]at e;simp [inB]at e
   .rw [aP a,dF.2 q]at e;simp at e;omega
 .simp (disch:=omega) only [RR,g];rw [aP ⟨ah,ah,λj hj=>h3 j ah⟩]
structure anh(pp:Int×List Ins×Unit->Bool)(ff:Int×List Ins×Unit->Bool×Unit):Prop where
 hp:∀(pc:Int) (l:List Ins),(l.length:Int)<1000->pp (pc,l,())=true
 hf:∀(pc:Int) (l:List Ins),(l.length:Int)<1000->ff (pc,l,())=(bp (nG pc l),())
theorem A9{p1 f1}(U1:anh p1 f1){p2:Int×Int×Int×Int×Int×Int×Ins×Int×List IOp×Unit->Bool}{f2:Int×Int×Int×Int×Int×Int×Ins×Int×List IOp×Unit->Int×Int×Int×Int×Int×Int×List IOp×Unit}(hp2:∀(B:Blk) (i:Ins) (n:Int),bX i->i.op≠0->B.ops.length<900000->p2 (B.pc,B.len,B.fin,B.x,B.y,B.k,i,n,B.ops,())=true)(hf2:∀(B:Blk) (i:Ins) (n:Int),bX i->i.op≠0->B.ops.length<900000->f2 (B.pc,B.len,B.fin,B.x,B.y,B.k,i,n,B.ops,())=bk7 (gH n B i))(pc:Int)(l:List Ins)(hl:(l.length:Int)<1000):XH.F (p1,f1,p2,f2,()) (pc,l,()) (λy=>y=bk7 (lower pc l)):=by
 dsimp only [XH,gm];simp (disch:=omega) only [RR,U1.hp pc l hl,U1.hf pc l hl,aU,kU];unfold lower;refine⟨λh=>by rw [bL h,if_neg (by decide)];rfl,λh=> ?_⟩;rw [aP h,if_pos rfl];have ln:=h.ln;have pp:=h.pc;refine aB (λ(y:List Ins×Int×Int×Int×Int×Int×Int×Int×Int×Int×Int×Int×Int×Int×List IOp×Unit)=>y.1=l/\0<=y.2.1/\y.2.1<=l.length/\y.2.2.2.2.2.2.2.2=bk7 (l9 0 (xZ pc l) (l.take y.2.1.toNat))) (λy=>(l.length-y.2.1).toNat) ⟨rfl,by simp,by simp,by rw [w64 ah ah];rfl⟩ ?_;rintro⟨(l':List Ins),(i:Int),z1,z2,z3,z4,z5,z6,q1,q2,q3,q4,q5,q6,q7,⟨⟩⟩ hI;dsimp only at hI ⊢;obtain⟨rfl,h1,h2,h3⟩:=hI;generalize eB:l9 0 (xZ pc l') (l'.take i.toNat)=B at h3;simp only [bk7,Prod.mk.injEq,and_true]at h3;obtain⟨rfl,rfl,rfl,rfl,rfl,rfl,rfl⟩:=h3;have bl:B.ops.length<=40:=by
  have:=EM (l'.take i.toNat) 0 (xZ pc l');rw [eB]at this;have t:=List.length_take_le i.toNat l';have:(xZ pc l').ops.length=0:=rfl;omega
 by_cases c:i<l'.length
 .obtain⟨o1,o2,o3⟩:=h.ok i.toNat ah;simp (disch:=omega) only [RR,c,hp2 B (((l').getD (i).toNat default)) i o1 o2 ah,hf2 B (((l').getD (i).toNat default)) i o1 o2 ah];refine⟨h1,⟨ah,ah,?_⟩,ah⟩;rw [<-cZ (d:=default) h1 c rfl,AZ,eB,List.length_take,show(0:Int)+((min i.toNat l'.length:Nat):Int)=i by omega]
 .rw [List.take_of_length_le ah]at eB;simp (disch:=omega) only [RR,c,eB]
def ET(pc:Int)(l:List Ins):((lower pc l).ops.length:Int)<=5000:=by
 by_cases h:nG pc l
 .have:=(mg h).sz;omega
 .have e:lower pc l=PG:=by unfold lower;rw [bL h,if_neg (by decide)]
  rw [e];decide
def Jo{pc:Int}{l:List Ins}{y:Int×Int×Int×Int×Int×Int×List IOp×Unit}(h:y=bk7 (lower pc l)):(y.2.2.2.2.2.2.1.length:Int)<=5000:=by rw [h];exact ET pc l
abbrev YOw:=Int×Int×Int×Int×Int×Int×Int×Int×Bool×Bool×Int×List Int×Int×List Int×Int×List IOp×List Int×List Int×List Int×Unit
structure OwD(b:List Int)(p:Int)(y:YOw):Prop where
 b:y.2.2.2.2.2.2.2.2.2.2.2.2.2.1=b
 lo:p<=y.2.2.2.2.2.2.2.2.2.2.2.2.2.2.1
 hi:y.2.2.2.2.2.2.2.2.2.2.2.2.2.2.1<=p+12000
 r:y.2.2.2.2.2.2.2.2.2.2.2.2.2.2.2.2.1.length=4
 m:y.2.2.2.2.2.2.2.2.2.2.2.2.2.2.2.2.2.1.length=64
 i:y.2.2.2.2.2.2.2.2.2.2.2.1.length<=10
 o:y.2.2.2.2.2.2.2.2.2.2.2.2.2.2.2.2.2.2.1.length<=100
 k:y.2.2.2.2.2.2.2.2.2.2.2.2.2.2.2.1.length<1000000
structure aas(pp:Int×List Ins×Unit->Bool)(ff:Int×List Ins×Unit->Int×Int×Int×Int×Int×Int×List IOp×Unit):Prop where
 hp:∀(pc:Int) (l:List Ins),(l.length:Int)<1000->pp (pc,l,())=true
 hf:∀(pc:Int) (l:List Ins),(l.length:Int)<1000->ff (pc,l,())=bk7 (lower pc l)
structure arR(pp:Blk×List Int×Int×Unit->Bool)(ff:Blk×List Int×Int×Unit->YMc):Prop where
 hp:∀c b p,Bt b->0<=p->p<400000000->pp (c,b,p,())=true
 hf:∀c b p,Bt b->0<=p->p<400000000->MaD b p (ff (c,b,p,()))
structure aqI(pp:Int×List Int×Int×Unit->Bool)(ff:Int×List Int×Int×Unit->YMo):Prop where
 hp:∀n b p,Bt b->0<=p->p<400000000->pp (n,b,p,())=true
 hf:∀n b p,Bt b->0<=p->p<400000000->MoD b p (ff (n,b,p,()))
structure PS where
 m:aG
 L:List Int
 I:List Int
 left:Bool
section
variable (T:List Atom) (r0:List Int) (pc len:Int)
def pv(s:PS):List Int:=tv r0 s.L s.I T
end
theorem aat{α β:Type}[Inhabited α][Inhabited β]{f:α->β}(h:f default=default)(l:List α)(i:Int):(l.map f).getD i.toNat default=f (l.getD i.toNat default):=by
 rw [List.getD_eq_getElem?_getD,List.getElem?_map,List.getD_eq_getElem?_getD];cases l[i.toNat]? with
 | none=>exact h.symm
 | some x=>rfl
structure PJ(T:List Atom)(r0:List Int)(M:MS)(S:SS)(P:PS):Prop where
 lf:P.left=false
 m:P.m={M.m with regs:=r0}
 ld:(P.L.length:Int)=S.ld
 inn:(P.I.length:Int)=S.inn
 wl:wOK P.L
 wi:wOK P.I
 v:∀L I,P.L<+:L->P.I<+:I->wOK L->wOK I->S.vals.map (evF (tv r0 L I T))=M.vals
 r:∀L I,P.L<+:L->P.I<+:I->wOK L->wOK I->S.regs.map (evF (tv r0 L I T))=M.m.regs
structure MJ(b:Blk)(i:Nat)(M:MS):Prop where
 lf:M.left=false
 ln:M.vals.length=i
 wv:Wos M.vals
 ok:MOK M.m
 pc:M.m.pc=b.pc
 ha:M.m.halt=0
theorem PJ.x{T:List Atom}{r0:List Int}{M:MS}{S:SS}{P:PS}(h:PJ T r0 M S P){L I:List Int}(h1:P.L<+:L)(h2:P.I<+:I)(h3:wOK L)(h4:wOK I)(o:IOp):evF (tv r0 L I T) (xOf S o)=vx M o/\evF (tv r0 L I T) (yOf S o)=vy M o:=by
 have e:=h.v L I h1 h2 h3 h4;unfold xOf yOf vx vy;rw [<-e];constructor
 .split
  .exact(aat (f:=evF (tv r0 L I T)) rfl S.vals o.x).symm
  .rfl
 .split
  .exact(aat (f:=evF (tv r0 L I T)) rfl S.vals o.y).symm
  .rfl
theorem ad2{s:MS}(o:IOp):(mM s o).pc=s.m.pc/\(mM s o).halt=s.m.halt/\(mM s o).count=s.m.count:=by
 unfold mM
 repeat' split
 all_goals exact⟨rfl,rfl,rfl⟩
end Go.TX.F
namespace Go.TX.F
open Go Go.AE Go.TX
noncomputable def Tc:List Int->List Ins
 | []=> []
 | w::r=>if bp (Wo w/\bX (gU w))=true then gU w::Tc r else []
def aqJ(e:Cac)(mem:List Int):Prop:=0<=e.blk.pc/\∀t:Nat,t<e.words.length->e.blk.pc+t<mem.length/\((mem).getD (e.blk.pc+t).toNat default)=e.words.getD t default
structure aiY(e:Cac):Prop where
 len:(Tc e.words).length=e.words.length
 ok:nG e.blk.pc (Tc e.words)
 chk:chk (lower e.blk.pc (Tc e.words)) e.blk=true
structure ani(l:List Cac)(mem:List Int):Prop where
 n:l.length<=4
 r:∀e∈l,aiY e/\aqJ e mem
 u:l.Pairwise λa b=>a.blk.pc≠b.blk.pc
structure arl(e:Eng):Prop where
 m:MOK e.au
 c:ani e.cache e.au.mem
 p:K6 e.aY
def aau(l:List Int)(k:Int):O6.F () (l,k,()) (λy=>y=(if k<0 then 0 else vI l k,())):=by
 dsimp only [O6,gm];simp (disch:=omega) only [RR];unfold vI;refine⟨λh=> ?_,λ⟨h1,h2⟩=>⟨ah,ah,by rw [if_neg h1,if_pos ah]⟩⟩;by_cases c:k<0
 .rw [if_pos c]
 .rw [if_neg c,if_neg ah]
structure aqK(pp:List Int×Int×Unit->Bool)(ff:List Int×Int×Unit->Int×Unit):Prop where
 hp:∀l k,pp (l,k,())=true
 hf:∀l k,ff (l,k,())=(if k<0 then 0 else vI l k,())
structure aqL(e:Ev):Prop where
 kd:4<=e.kind/\e.kind<=7
 at_:0<=e.at_/\e.at_<8
 x:aN e.x
 y:aN e.y
 r:∀p∈e.regs,aN p
 rl:e.regs.length<=4
structure arS(T:List Atom)(S:Sym)(b:Blk)(m:aG):Prop where
 t:aH T
 e:∀e∈S.events,aqL e
 el:S.events.length<=48
 r:∀p∈S.regs,aN p
 rl:S.regs.length<=4
 x:aN S.x
 y:aN S.y
 mo:MOK m
 pc:0<=b.pc/\b.pc<=64
 ln:0<=b.len/\b.len<=8
 ins:m.ins.length<1000000000
 out:m.outs.length<800000000
end Go.TX.F
