/- For every input the law returns true, and the input reads as it did. No condition. -/
import Derived.Test.YtaaefcglllhodaaGreatZd
import Derived.Lib.Bytes
import Derived.ChangeSlices
import Derived.ChangeSame
import Derived.JoinedOf
import Derived.JoinedAt
import Derived.Handed
import Derived.Below
import Derived.Carry
import Derived.OpenShut
import Derived.ChangeKeysEq
import Derived.Test.YtaaefcglllhodaaGreatY
import Derived.Test.YtaaefcglllhodaaGreatRows
set_option linter.all false
set_option linter.unusedSectionVars false
set_option linter.unusedVariables false
set_option linter.unusedSimpArgs false
namespace Go.TX.F
open Go Go.AE Go.TX
noncomputable def Ms (s:Int->Int) (e:Ev):Ev:=⟨e.kind,e.at_,bg s e.x,bg s e.y,e.regs.map (bg s)⟩
def RPs(n:Int)(l:List (List aj)):Prop:=∀p∈l,RP n p
def RPE(n:Int)(l:List Ev):Prop:=∀e∈l,RP n e.x/\RP n e.y/\RPs n e.regs
def RPs.le{n m:Int}{l:List (List aj)}(h:RPs n l)(hn:n<=m):RPs m l:=λp hp=>(h p hp).le hn
def RPE.le{n m:Int}{l:List Ev}(h:RPE n l)(hn:n<=m):RPE m l:=λe he=>⟨(h e he).1.le hn,(h e he).2.1.le hn,(h e he).2.2.le hn⟩
def y9{s s':Int->Int}{n:Int}(e:∀j,0<=j->j<n->s' j=s j){l:List (List aj)}(h:RPs n l):l.map (bg s')=l.map (bg s):=List.map_congr_left λp hp=>kN e (h p hp)
def Mv{s s':Int->Int}{n:Int}(e:∀j,0<=j->j<n->s' j=s j){l:List Ev}(h:RPE n l):l.map (Ms s')=l.map (Ms s):=List.map_congr_left λv hv=>by
 unfold Ms;rw [kN e (h v hv).1,kN e (h v hv).2.1,y9 e (h v hv).2.2]
def Si(s:Int->Int)(l:List (List aj))(i:Int):((l.map (bg s)).getD (i).toNat default)=bg s ((l).getD (i).toNat default):=by
 rw [List.getD_eq_getElem?_getD,List.getD_eq_getElem?_getD,List.getElem?_map];cases l[i.toNat]? with
 | none=>exact(ru s).symm
 | some p=>rfl
def RPs.at{n:Int}{l:List (List aj)}(h:RPs n l)(i:Int):RP n ((l).getD (i).toNat default):=BU.2 (yZ (λp hp=>BU.1 (h p hp)) i)
def agD{op n:Int}{x y:List aj}(hop:1<=op/\op<=5)(hx:RP n x)(hy:RP n y):fH (atD op x y) n:=by
 have hx:=BU.1 hx;have hy:=BU.1 hy;unfold atD;split
 .unfold fH;rw [if_pos rfl];exact⟨hop,hy.1,hx.1,hy.2,hx.2⟩
 .unfold fH;rw [if_pos rfl];exact⟨hop,hx.1,hy.1,hx.2,hy.2⟩
def alK{t:List Atom}{op:Int}{x y:List aj}(h:tOk t op x y=true)(c:¬(cZ op x y).2=true):0<=(aI t (atD op x y)).2:=by
 unfold tOk at h;unfold atD;by_cases c2:op≠2/\0<dN x y
 .rw [if_pos c2,Bool.or_eq_true,Bool.not_eq_true',decide_eq_false_iff_not]at h;rw [if_pos c2];have:=h.resolve_left c;omega
 .rw [if_neg c2,Bool.or_eq_true,Bool.not_eq_true',decide_eq_false_iff_not]at h;rw [if_neg c2];have:=h.resolve_left c;omega
structure St1(s s' t':Int->Int)(u u' T:List Atom)(v V:List aj):Prop where
 tr:TR s' t' u' T
 ag:∀j:Int,0<=j->j<u.length->s' j=s j
 eq:V=bg s' v
 rp:RP u'.length v
def TR.n200{s t:Int->Int}{u T:List Atom}(h:TR s t u T):(u.length:Int)<=200:=by have:=(iE.1 h.tok).2;omega
def TR.arx{s t:Int->Int}{u T:List Atom}(h:TR s t u T)(hT:aD T){a A:Atom}(ha:fH a u.length)(oa:Mq a)(hl:u.length<200)(k0:0<=(aI T A).2)(hc:(aI T A).1=T)(e:A=Ae s a):
  ∃s' t':Int->Int,St1 s s' t' u (aI u a).1 T (bS (aI u a).2) (bS (aI T A).2)/\0<=(aI u a).2:=by
 obtain⟨k1,k2⟩:=mI k0;rw [hc]at k1 k2;obtain⟨s',t',P⟩:=h.put hT ha oa hl k0 k1 (by rw [k2,e]);exact⟨s',t',⟨P.tr,P.ag,by rw [acs P.tr.r P.tr.n200 P.r0 P.r1,P.sr],RP.atom P.r0 P.r1⟩,P.r0⟩
def TR.do1{s t:Int->Int}{u T:List Atom}(h:TR s t u T)(hT:aD T){op:Int}{x y:List aj}(hop:1<=op/\op<=5)(hx:RP u.length x)(hy:RP u.length y)(hl:u.length<200)(ok:tOk T op (bg s x) (bg s y)=true)(hc:(tDo T op (bg s x) (bg s y)).1=T):
  ∃s' t':Int->Int,St1 s s' t' u (tDo u op x y).1 T (tDo u op x y).2 (tDo T op (bg s x) (bg s y)).2:=by
 have e:=Xf h.r h.n200 hx hy op;by_cases c:(cZ op x y).2=true
 .have e1:tDo u op x y=(u,(cZ op x y).1):=by rw [JM,if_pos c]
  have e2:tDo T op (bg s x) (bg s y)=(T,bg s (cZ op x y).1):=by rw [JM,e,if_pos c]
  rw [e1,e2];exact⟨s,t,h,λ_ _ _=>rfl,rfl,hx.simp hy op⟩
 .have k0:=alK ok (by rw [e];exact c);have e2:tDo T op (bg s x) (bg s y)=((aI T (atD op (bg s x) (bg s y))).1,bS (aI T (atD op (bg s x) (bg s y))).2):=by rw [JM,e,if_neg c,if_neg ah]
  rw [e2]at hc ⊢;obtain⟨s',t',P,r0⟩:=h.arx hT (agD hop hx hy) (agB op x y) hl k0 hc (agC h.r hx hy op).symm;have e1:tDo u op x y=((aI u (atD op x y)).1,bS (aI u (atD op x y)).2):=by rw [JM,if_neg c,if_neg ah]
  rw [e1];exact⟨s',t',P⟩
def Sj(s:Int->Int){a:Atom}(h:a.kind≠4)(hx:a.x=[])(hy:a.y=[]):Ae s a=a:=by
 unfold Ae;rw [if_neg (λg=>h g.1),hx,hy,ru];cases a;dsimp only at*;rw [hx,hy]
structure LS(s t:Int->Int)(a A:SS):Prop where
 tr:TR s t a.t A.t
 regs:A.regs=a.regs.map (bg s)
 rr:RPs a.t.length a.regs
 vals:A.vals=a.vals.map (bg s)
 rv:RPs a.t.length a.vals
 ld:A.ld=a.ld
 inn:A.inn=a.inn
 evs:A.evs=a.evs.map (Ms s)
 re:RPE a.t.length a.evs
def LS.x{s t:Int->Int}{a A:SS}(h:LS s t a A)(o:IOp):xOf A o=bg s (xOf a o)/\RP a.t.length (xOf a o):=by
 unfold xOf;split
 .rw [h.vals,Si];exact⟨rfl,h.rv.at _⟩
 .exact⟨(ru s).symm,RP.nil _⟩
def LS.y{s t:Int->Int}{a A:SS}(h:LS s t a A)(o:IOp):yOf A o=bg s (yOf a o)/\RP a.t.length (yOf a o):=by
 unfold yOf;split
 .rw [h.vals,Si];exact⟨rfl,h.rv.at _⟩
 .exact⟨(ru s).symm,RP.nil _⟩
def LS.val{s t:Int->Int}{a A:SS}(h:LS s t a A)(hT:aD A.t){n:Int}{i:Nat}(si:SI n i a)(hn:n+i<200)(hi:i<200){o:IOp}(hk:o.kind=3->1<=o.k/\o.k<=5)(sA:SOK A o)(hc:nT A o=A.t):
  ∃s' t':Int->Int,St1 s s' t' a.t (nT a o) A.t (nV a o) (nV A o):=by
 have hl:=si.tl;have hl:a.t.length<200:=by omega
 have ea:aOf A o=aOf a o:=by unfold aOf;rw [h.ld,h.inn]
 have id:∀v V,V=bg s v->RP a.t.length v->nT a o=a.t->nV a o=v->nV A o=V->∃s' t':Int->Int,St1 s s' t' a.t (nT a o) A.t (nV a o) (nV A o):=λv V e r e1 e2 e3=>by
  rw [e1,e2,e3];exact⟨s,t,h.tr,λ_ _ _=>rfl,e,r⟩
 by_cases c3:o.kind=3
 .have e1:∀w:SS,nT w o=(tDo w.t o.k (xOf w o) (yOf w o)).1:=λw=>by unfold nT;rw [if_pos c3]
  have e2:∀w:SS,nV w o=(tDo w.t o.k (xOf w o) (yOf w o)).2:=λw=>by unfold nV;rw [if_neg ah,if_neg ah,if_pos c3]
  have ok:=(sA.d c3).ok;rw [e1]at hc;rw [(h.x o).1,(h.y o).1]at ok hc;rw [e1,e2,e2,(h.x o).1,(h.y o).1];exact h.tr.do1 hT (hk c3) (h.x o).2 (h.y o).2 hl ok hc
 .by_cases c4:o.kind=4\/o.kind=6
  .have e1:∀w:SS,nT w o=(aI w.t (aOf w o)).1:=λw=>by unfold nT;rw [if_neg c3,if_pos c4]
   have e2:∀w:SS,nV w o=bS (aI w.t (aOf w o)).2:=λw=>by unfold nV;rw [if_neg ah,if_neg ah,if_neg c3,if_pos c4]
   have k0:=sA.p c4;rw [e1]at hc;have f1:(aOf a o).kind≠4/\(aOf a o).x=[]/\(aOf a o).y=[]:=by unfold aOf;split<;>exact⟨by dsimp only;decide,rfl,rfl⟩
   obtain⟨s',t',P,_⟩:=h.tr.arx hT (Vm si hi o _) (λg=>absurd g f1.1) hl k0 hc (by rw [ea,Sj s f1.1 f1.2.1 f1.2.2]);rw [e1,e2,e2];exact⟨s',t',P⟩
  .have eT:nT a o=a.t:=by unfold nT;rw [if_neg c3,if_neg c4]
   by_cases c1:o.kind=1
   .exact id _ _ (wN o.k).symm (RP.const _ _) eT (by unfold nV;rw [if_pos c1]) (by unfold nV;rw [if_pos c1])
   .by_cases c2:o.kind=2
    .exact id _ _ rfl (h.rr.at o.k) eT (by unfold nV;rw [if_neg c1,if_pos c2]) (by unfold nV;rw [if_neg c1,if_pos c2,h.regs,Si])
    .exact id _ _ (ru s).symm (RP.nil _) eT (by unfold nV;rw [if_neg c1,if_neg c2,if_neg c3,if_neg c4]) (by unfold nV;rw [if_neg c1,if_neg c2,if_neg c3,if_neg c4])
def LS.step{s t:Int->Int}{a A:SS}(h:LS s t a A)(hT:aD A.t){n:Int}{i:Nat}(si:SI n i a)(hn:n+i<200)(hi:i<200){o:IOp}(hk:o.kind=3->1<=o.k/\o.k<=5)(sA:SOK A o)(hc:(stp A o).t=A.t):
  ∃s' t':Int->Int,LS s' t' (stp a o) (stp A o)/\∀j:Int,0<=j->j<a.t.length->s' j=s j:=by
 have hc:nT A o=A.t:=hc;obtain⟨s',t',P⟩:=h.val hT si hn hi hk sA hc;have le:(a.t.length:Int)<=(nT a o).length:=by have:=jq (oO si hk hn hi).2.pre;exact Int.ofNat_le.2 this
 have ag:=P.ag;obtain⟨x1,x2⟩:=h.x o;obtain⟨y1,y2⟩:=h.y o;have x1':xOf A o=bg s' (xOf a o):=by rw [x1,kN ag x2]
 have y1':yOf A o=bg s' (yOf a o):=by rw [y1,kN ag y2]
 have r1':A.regs=a.regs.map (bg s'):=by rw [h.regs,y9 ag h.rr]
 refine⟨s',t',⟨?_,?_,?_,?_,?_,?_,?_,?_,?_⟩,ag⟩
 .show TR s' t' (nT a o) (nT A o);rw [hc];exact P.tr
 .show nR A o=(nR a o).map (bg s');unfold nR;split
  .rw [List.map_set,<-r1',x1']
  .exact r1'
 .show RPs _ (nR a o);unfold nR;split
  .intro p hp;rcases List.mem_or_eq_of_mem_set hp with hp | rfl
   .exact(h.rr p hp).le le
   .exact x2.le le
  .exact h.rr.le le
 .show A.vals++ [nV A o]=(a.vals++ [nV a o]).map (bg s');rw [List.map_append,h.vals,y9 ag h.rv,P.eq];rfl
 .show RPs _ (a.vals++ [nV a o]);intro p hp;rw [List.mem_append,List.mem_singleton]at hp;rcases hp with hp | rfl
  .exact(h.rv p hp).le le
  .exact P.rp
 .show(if o.kind=4 then A.ld+1 else A.ld)=if o.kind=4 then a.ld+1 else a.ld;rw [h.ld]
 .show(if o.kind=6 then A.inn+1 else A.inn)=if o.kind=6 then a.inn+1 else a.inn;rw [h.inn]
 .show nE A o=(nE a o).map (Ms s');unfold nE;have e0:A.evs=a.evs.map (Ms s'):=by rw [h.evs,Mv ag h.re]
  split
  .rw [List.map_append,e0,x1',y1',r1']
   congr 1
   show [_]=[Ms s' _];unfold Ms;dsimp only;split<;>rfl
  .exact e0
 .show RPE _ (nE a o);unfold nE;split
  .intro e he;rw [List.mem_append,List.mem_singleton]at he;rcases he with he | rfl
   .exact h.re.le le e he
   .refine⟨x2.le le,y2.le le,?_⟩;dsimp only;split
    .exact h.rr.le le
    .exact λp hp=>absurd hp (by simp)
  .exact h.re.le le
def acw{α:Type}{a b c:List α}(h:a<+:b)(g:b<+:c)(e:c=a):b=a:=by
 subst e;exact g.eq_of_length (Nat.le_antisymm (jq g) (jq h))
def LS.run{n N:Int}:∀(ops:List IOp) (i:Nat) (s t:Int->Int) (a A:SS),LS s t a A->SI n i a->SI N i A->(∀o∈ops,o.kind=3->1<=o.k/\o.k<=5)->n+i+ops.length<=200->N+i+ops.length<=200->i+ops.length<=200->(ops.foldl stp A).t=A.t->
  ∃s' t':Int->Int,LS s' t' (ops.foldl stp a) (ops.foldl stp A)/\∀j:Int,0<=j->j<a.t.length->s' j=s j
 | [],_,s,t,_,_,h,_,_,_,_,_,_,_=>⟨s,t,h,λ_ _ _=>rfl⟩
 | o::r,i,s,t,a,A,h,si,SI,hk,h1,h2,h3,hc=>by
  rw [List.length_cons]at h1 h2 h3;have ko:=hk o List.mem_cons_self;obtain⟨a1,a2⟩:=oO si ko ah ah;obtain⟨A1,A2⟩:=oO SI ko ah ah;have kr:∀o∈r,o.kind=3->1<=o.k/\o.k<=5:=λo ho=>hk o (List.mem_cons_of_mem _ ho)
  rw [List.foldl_cons]at hc;obtain⟨_,B2⟩:=oP r (i+1) (stp A o) A1 kr ah ah;have e1:(stp A o).t=A.t:=acw A2.pre B2 hc;obtain⟨s1,t1,g1,g2⟩:=h.step SI.tok si ah ah ko A2 e1;obtain⟨s2,t2,g3,g4⟩:=LS.run r (i+1) s1 t1 _ _ g1 a1 A1 kr ah ah ah (by rw [hc,e1]);rw [List.foldl_cons,List.foldl_cons];exact⟨s2,t2,g3,λj j0 j1=>by rw [g4 j j0 (by have:=jq a2.pre;omega),g2 j j0 j1]⟩
structure YOK(n:Int)(y:Sym):Prop where
 e:RPE n y.events
 r:RPs n y.regs
 x:RP n y.x
 y:RP n y.y
def YOK.le{n m:Int}{y:Sym}(h:YOK n y)(hn:n<=m):YOK m y:=⟨h.e.le hn,h.r.le hn,h.x.le hn,h.y.le hn⟩
def TR.nil(T:List Atom):TR id id [] T:=by
 refine⟨⟨λk h1 h2=> ?_,λk h1 h2=> ?_⟩,qd,λk h1 h2=> ?_,λk h1 h2=> ?_⟩<;>exact absurd h2 (by simp;omega)
def alL{p1 f1}(U1:Y13 p1 f1)(a:List (List aj))(ha:ShP a):QO.F (p1,f1,()) (a,()) (λy=>y=(a,())):=by
 have hlen:=ha.1;dsimp only [QO,gm];refine ak (λ(y:List (List aj)×Int×List (List aj)×Unit)=>y.1=a/\y.2.2.1=a.take y.2.1.toNat/\0<=y.2.1/\y.2.1<=a.length) (λy=>(a.length-y.2.1).toNat) ⟨rfl,by simp,by simp,by simp⟩ ?_;rintro⟨(l:List (List aj)),(i:Int),(o:List (List aj)),⟨⟩⟩ hI;dsimp only at hI ⊢;obtain⟨rfl,rfl,h1,h2⟩:=hI;simp (disch:=omega) only [RR,U1.hp _ (ha.at _),U1.hf _ (ha.at _)];refine⟨λh4=>⟨ah,ah,?_,⟨bP h1 h4 rfl,ah,ah⟩,ah⟩,λh4=>by rw [List.take_of_length_le ah]⟩;have:=List.length_take_le' i.toNat l;simp only [List.length_cons,List.length_nil];omega
def acy(k:Int)(l:List (List aj)):Qz.F () (k,l,()) (λy=>y=(if k<0\/(l.length:Int)<=k then []else((l).getD (k).toNat default),l,())):=by
 dsimp only [Qz,gm];simp (disch:=omega) only [RR];refine⟨λh=>by rw [if_pos ah],λh=>⟨ah,ah,ah,ah,by rw [if_neg ah]⟩⟩
def oQ(l:List Ev)(k:Int):Int:=((l.filter λe=>decide (e.kind=k)).length:Int)
def wO(l:List Ev)(e:Ev)(k:Int):oQ (l++ [e]) k=if e.kind=k then oQ l k+1 else oQ l k:=by
 unfold oQ;rw [List.filter_append,List.length_append];by_cases c:e.kind=k
 .rw [if_pos c,List.filter_cons_of_pos (by simpa using c)];simp
 .rw [if_neg c,List.filter_cons_of_neg (by simpa using c)];simp
def acz(l:List Ev)(k:Int)(hl:l.length<1000000000):QM.F () (l,k,()) (λy=>y=(oQ l k,())):=by
 dsimp only [QM,gm];refine ak (λ(y:List Ev×Int×Int×Int×Unit)=>y.1=l/\y.2.1=k/\y.2.2.1=oQ (l.take y.2.2.2.1.toNat) k/\0<=y.2.2.2.1/\y.2.2.2.1<=l.length) (λy=>(l.length-y.2.2.2.1).toNat) ⟨rfl,rfl,by simp;rfl,by simp,by simp⟩ ?_;rintro⟨(l:List Ev),(k:Int),(n:Int),(i:Int),⟨⟩⟩ hI;dsimp only at hI ⊢;obtain⟨rfl,rfl,rfl,h1,h2⟩:=hI;have b:0<=oQ (l.take i.toNat) k/\oQ (l.take i.toNat) k<=i:=by
  unfold oQ;have:=List.length_filter_le (λe:Ev=>decide (e.kind=k)) (l.take i.toNat);have:=List.length_take_le i.toNat l;omega
 simp (disch:=omega) only [RR,RB];refine⟨λh4=>⟨ah,ah,?_⟩,λh4=>by rw [List.take_of_length_le ah]⟩;have e:l.take (i+1).toNat=l.take i.toNat++ [((l).getD (i).toNat default)]:=by rw [show(i+1).toNat=i.toNat+1 by omega,List.take_succ_eq_append_getElem ah,getD_lt (show i.toNat<l.length by omega)]
 refine⟨λg=>⟨⟨?_,ah,ah⟩,ah⟩,λg=>⟨⟨?_,ah,ah⟩,ah⟩⟩
 .rw [e,wO,if_pos g]
 .rw [e,wO,if_neg g]
def alM{p1 f1 p2 f2}(U1:Y28 p1 f1)(U2:Y35 p2 f2){p3:List Ev×Int×Unit->Bool}{f3:List Ev×Int×Unit->Int×Unit}(hp3:∀l k,l.length<1000000000->p3 (l,k,())=true)(hf3:∀l k,l.length<1000000000->f3 (l,k,())=(oQ l k,()))(l:List Ev)(k:Int)(t:List Atom)(hl:l.length<1000000000)(ht:ShT t)(hk:aD t):QN.F (p1,f1,p2,f2,p3,f3,()) (l,k,t,()) (λy=>y=((aI t ⟨if k=6 then 3 else 2,oQ l k,[],[]⟩).1,bS (aI t ⟨if k=6 then 3 else 2,oQ l k,[],[]⟩).2,())):=by
 have sh:∀n:Int,ShA ⟨n,oQ l k,[],[]⟩:=λn=>⟨⟨by simp,λm hm=>absurd hm (by simp)⟩,⟨by simp,λm hm=>absurd hm (by simp)⟩⟩
 dsimp only [QN,gm];simp (disch:=omega) only [RR,hp3 l k hl,hf3 l k hl,U2.hp _ t (sh _) ht hk,U2.hf _ t (sh _) ht hk,U1.hp,U1.hf];exact⟨λh=>by rw [if_pos h],λh=>by rw [if_neg h]⟩
def alN{p1 f1 p2 f2}(U1:Y13 p1 f1)(U2:Y56 p2 f2)(o:IOp)(x y:List aj)(r:List (List aj))(hx:Sh x)(hy:Sh y)(hr:ShP r):QS.F (p1,f1,p2,f2,()) (o,x,y,r,()) (λz=>z=(o.kind,o.at_,if o.kind=6 then []else x,if o.kind=5 then y else [],if o.kind=4\/o.kind=5 then r else [],())):=by
 dsimp only [QS,gm];simp (disch:=omega) only [RR,RB,U1.hp x hx,U1.hf x hx,U1.hp y hy,U1.hf y hy,U2.hp r hr,U2.hf r hr];refine⟨λh=>⟨λg=> ?_,λg=> ?_⟩,λh=>⟨λg=> ?_,λg=> ?_⟩⟩
 all_goals refine⟨λk=> ?_,λk=> ?_⟩
 all_goals first | rw [if_pos h] | rw [if_neg h]
 all_goals first | rw [if_pos g] | rw [if_neg g]
 all_goals first | rw [if_pos k] | rw [if_neg ah]
def acA(s:Sym)(k:Int):QV.F () (s,k,()) (λy=>y=(s.events,s.regs,1,k,())):=by
 dsimp only [QV,gm];simp (disch:=omega) only [RR,RB]
def acB(b:Blk):QT.F () (b,()) (λy=>y=(if b.fin=1 then-1 else b.x,())):=by
 dsimp only [QT,gm];simp (disch:=omega) only [RR,RB];exact⟨λh=>by rw [if_pos h],λh=>by rw [if_neg h]⟩
def acC(b:Blk):QU.F () (b,()) (λy=>y=(if b.fin=1\/b.fin=2 then-1 else b.y,())):=by
 dsimp only [QU,gm];simp (disch:=omega) only [RR,RB];exact⟨λh=>by rw [if_pos h],λh=>by rw [if_neg ah]⟩
structure arz(pp:Sym×Int×Unit->Bool)(ff:Sym×Int×Unit->List Ev×List (List aj)×Int×Int×Unit):Prop where
 hp:∀s k,pp (s,k,())=true
 hf:∀s k,ff (s,k,())=(s.events,s.regs,1,k,())
def alO{p1 f1 p2 f2 p3 f3}(U1:Y27 p1 f1)(U2:Y8 p2 f2)(U3:arz p3 f3)(s:Sym)(n:Int)(hs:ShY s)(hx:aG s.x)(hy:aG s.y)(hf:s.fin=3\/s.fin=4):QW.F (p1,f1,p2,f2,p3,f3,()) (s,n,()) (λy=>y=(symEnd s n,())):=by
 dsimp only [QW,gm];simp (disch:=omega) only [RR,RB,U1.hp _ hs.x,U1.hf _ hs.x,U1.hp _ hs.y,U1.hf _ hs.y,U2.hp _ _ hs.x,U2.hf _ _ hs.x,U3.hp,U3.hf];have z:dN s.x s.y=0↔s.x=s.y:=dZ;have key:(bE s.x).2=true->(bE s.y).2=true->(bE s.x).1=(bE s.y).1->s.x=s.y:=λa b c=>(kM a).2.1.trans ((congrArg bN c).trans (kM b).2.1.symm)
 unfold symEnd;rw [aU ⟨hx,hy⟩,if_neg (show¬(true=false) by decide),if_neg (show¬(s.fin=2/\(bE s.x).2=true) by omega),if_neg (show¬(s.fin≠3/\s.fin≠4) by omega)];simp only [z];by_cases c:s.x=s.y
 .have l:¬(bE s.x).1< (bE s.y).1:=by rw [c];omega
  rcases hf with f | f<;>simp [c,f]
 .rcases hf with f | f<;>by_cases nx:(bE s.x).2=true<;>by_cases ny:(bE s.y).2=true<;>by_cases l:(bE s.x).1< (bE s.y).1<;>by_cases g:0<dN s.x s.y<;>simp [c,f,nx,ny,l,g]
  all_goals rw [if_neg λe=>c (key nx ny e)]
def alP{p1 f1 p2 f2 p3 f3 p4 f4 p6 f6}(U1:Y27 p1 f1)(U2:Y11 p2 f2)(U3:Y13 p3 f3)(U4:arz p4 f4){p5:Sym×Int×Unit->Bool}{f5:Sym×Int×Unit->Sym×Unit}(hp5:∀s n,ShY s->aG s.x->aG s.y->(s.fin=3\/s.fin=4)->p5 (s,n,())=true)(hf5:∀s n,ShY s->aG s.x->aG s.y->(s.fin=3\/s.fin=4)->f5 (s,n,())=(symEnd s n,()))(U6:Y56 p6 f6)(s:Sym)(n:Int)(hs:ShY s):QX.F (p1,f1,p2,f2,p3,f3,p4,f4,p5,f5,p6,f6,()) (s,n,()) (λy=>y=(symEnd s n,())):=by
 dsimp only [QX,gm];simp (disch:=omega) only [RR,RB,U2.hp _ hs.x,U2.hf _ hs.x,U2.hp _ hs.y,U2.hf _ hs.y];have le:=hs.e.1;have no:(bp (aG s.x)=false\/bp (aG s.y)=false)->symEnd s n=WY:=λh=>by
  unfold symEnd;rw [if_pos];rw [jc];rcases h with h | h<;>rw [h]<;>simp
 refine⟨λh=>by rw [no h];rfl,λh=> ?_⟩;have hx:=aT.1 h.1;have hy:=aT.1 h.2;refine ak (λ(y:Int×Int×Sym×Int×Int×List (List aj)×Int×List aj×List aj×Int×List Ev×Unit)=>y.1=n/\y.2.2.1=s/\y.2.2.2.2.2.2.1=s.fin/\y.2.2.2.2.2.2.2.2.2.1=s.k/\0<=y.2.1/\y.2.1<=s.events.length/\y.2.2.2.2.2.2.2.2.2.2.1=s.events.take y.2.1.toNat) (λy=>(s.events.length-y.2.1).toNat) ⟨rfl,rfl,rfl,rfl,by simp,by simp,by simp⟩ ?_;rintro⟨(n':Int),(i:Int),(s':Sym),(z1:Int),(z2:Int),(z3:List (List aj)),(fin:Int),(z4:List aj),(z5:List aj),(k:Int),(ev:List Ev),⟨⟩⟩ hI;dsimp only at hI ⊢;obtain⟨rfl,rfl,rfl,rfl,h1,h2,rfl⟩:=hI;have E:=hs.e.at i.toNat;have tl:=List.length_take_le' i.toNat s'.events;by_cases g:i<s'.events.length
 .simp (disch:=omega) only [RR,RB,g,U3.hp _ E.1,U3.hf _ E.1,U3.hp _ E.2.1,U3.hf _ E.2.1,U6.hp _ E.2.2,U6.hf _ E.2.2];exact⟨h1,by simp only [List.length_cons,List.length_nil];omega,⟨ah,ah,bP h1 g rfl⟩,ah⟩
 .have ef:s'.events.take i.toNat=s'.events:=List.take_of_length_le ah;rw [ef];simp (disch:=omega) only [RR,RB,g,U3.hp _ hs.x,U3.hf _ hs.x,U3.hp _ hs.y,U3.hf _ hs.y,U6.hp _ hs.r,U6.hf _ hs.r,U1.hp _ hs.x,U1.hf _ hs.x,U4.hp,U4.hf];have b:¬bp (aG s'.x/\aG s'.y)=false:=by rw [aU ⟨hx,hy⟩];decide
  have P:=λf=>hp5 s' n' hs hx hy f
  have F:=λf=>hf5 s' n' hs hx hy f
  have pl:s'.fin≠3/\s'.fin≠4->¬(s'.fin=2/\(bE s'.x).2=true)->symEnd s' n'=s':=λc d=>by unfold symEnd;rw [if_neg b,if_neg d,if_pos c]
  refine⟨λf=>⟨λg=> ?_,λg=> ?_⟩,λf=>⟨λk=>⟨λ_=>⟨P (Or.inl k),?_⟩,λe=>absurd k e⟩,λk=>⟨λl=>⟨P (Or.inr l),?_⟩,λl=> ?_⟩⟩⟩
  .unfold symEnd;rw [if_neg b,if_pos ⟨f,g⟩]
  .rw [pl ah (by rw [g];simp)]
  .exact congrArg (λz=>(z.1,())) (F (Or.inl k))
  .exact congrArg (λz=>(z.1,())) (F (Or.inr l))
  .rw [pl ⟨k,l⟩ (λh=>f h.1)]
structure Cn(s:SS):Prop where
 ld:s.ld=oQ s.evs 4
 inn:s.inn=oQ s.evs 6
def Cn.stp{s:SS}(h:Cn s)(o:IOp):Cn (stp s o):=by
 constructor
 .show(if o.kind=4 then s.ld+1 else s.ld)=oQ (nE s o) 4;unfold nE;by_cases c:evO o
  .rw [if_pos c,wO,h.ld]
  .rw [if_neg c,if_neg (λe=>c (by unfold evO;omega)),h.ld]
 .show(if o.kind=6 then s.inn+1 else s.inn)=oQ (nE s o) 6;unfold nE;by_cases c:evO o
  .rw [if_pos c,wO,h.inn]
  .rw [if_neg c,if_neg (λe=>c (by unfold evO;omega)),h.inn]
def Cn.run:∀(l:List IOp) (s:SS),Cn s->Cn (l.foldl Go.TX.F.stp s)
 | [],_,h=>h
 | o::r,s,h=>Cn.run r _ (h.stp o)
structure Pt2(t:List Atom)(b:Blk)(i:Nat)(tb:List Atom)(V:List (List aj))(ev:List Ev)(rg:List (List aj)):Prop where
 tb:tb=(SW t b i).t
 V:V=(SW t b i).vals
 ev:ev=(SW t b i).evs
 rg:rg=(SW t b i).regs
def Pt2.next{t:List Atom}{b:Blk}{i:Nat}{tb:List Atom}{V:List (List aj)}{ev:List Ev}{rg:List (List aj)}(h:Pt2 t b i tb V ev rg)(hi:i<b.ops.length){o:IOp}(ho:b.ops.getD i default=o)
  {v:List aj} {tb':List Atom} {ev':List Ev} {rg':List (List aj)} (h3:tb'=nT (SW t b i) o) (h4:v=nV (SW t b i) o) (h5:ev'=nE (SW t b i) o) (h6:rg'=nR (SW t b i) o):Pt2 t b (i+1) tb' (V++ [v]) ev' rg':=by
 have e:=Vr (t:=t) hi;rw [ho]at e;refine⟨?_,?_,?_,?_⟩<;>rw [e]
 .exact h3
 .rw [h.V,h4];rfl
 .exact h5
 .exact h6
def Gp{α:Type}{l:List α}{i:Nat}(h:i<l.length)(v:α):(l.set i v).take (i+1)=l.take i++ [v]:=by
 rw [List.take_succ_eq_append_getElem (by rw [List.length_set];exact h),List.getElem_set_self,List.take_set_of_le (Nat.le_refl _)]
structure auA(pp:Sym×Int×Unit->Bool)(ff:Sym×Int×Unit->Sym×Unit):Prop where
 hp:∀s n,ShY s->pp (s,n,())=true
 hf:∀s n,ShY s->ff (s,n,())=(symEnd s n,())
set_option maxHeartbeats 1000000 in
def alQ{p1 f1 p2 f2 p3 f3 p4 f4 p5 f5 p6 f6 p7 f7 p8 f8 p10 f10 p14 f14}(U1:Y60 p1 f1)(U2:Y28 p2 f2)(U3:Y22 p3 f3)(U4:auA p4 f4)(U5:Y44 p5 f5)(U6:Y29 p6 f6)(U7:Y13 p7 f7)(U8:Y31 p8 f8){p9:Int×List aj×List aj×List Atom×Unit->Bool}{f9:Int×List aj×List aj×List Atom×Unit->List Atom×List aj×Unit}(hp9:∀op x y t,(1<=op/\op<=5)->Sh x->Sh y->ShT t->aD t->p9 (op,x,y,t,())=true)(hf9:∀op x y t,(1<=op/\op<=5)->Sh x->Sh y->ShT t->aD t->f9 (op,x,y,t,())=((tDo t op x y).1,(tDo t op x y).2,()))(U10:Y35 p10 f10){p11:List Ev×Int×List Atom×Unit->Bool}{f11:List Ev×Int×List Atom×Unit->List Atom×List aj×Unit}(ags:∀l k t,l.length<1000000000->ShT t->aD t->p11 (l,k,t,())=true)(agt:∀l k t,l.length<1000000000->ShT t->aD t->f11 (l,k,t,())=((aI t ⟨if k=6 then 3 else 2,oQ l k,[],[]⟩).1,bS (aI t ⟨if k=6 then 3 else 2,oQ l k,[],[]⟩).2,())){p12:IOp×List aj×List aj×List (List aj)×Unit->Bool}{f12:IOp×List aj×List aj×List (List aj)×Unit->Int×Int×List aj×List aj×List (List aj)×Unit}(Sb:∀o x y r,Sh x->Sh y->ShP r->p12 (o,x,y,r,())=true)(Sc:∀o x y r,Sh x->Sh y->ShP r->f12 (o,x,y,r,())=(o.kind,o.at_,if o.kind=6 then []else x,if o.kind=5 then y else [],if o.kind=4\/o.kind=5 then r else [],())){p13:Int×List (List aj)×Unit->Bool}{f13:Int×List (List aj)×Unit->List aj×List (List aj)×Unit}(JN:∀k l,p13 (k,l,())=true)(agE:∀k l,f13 (k,l,())=(if k<0\/(l.length:Int)<=k then []else((l).getD (k).toNat default),l,()))(U14:Y56 p14 f14){p15:Blk×Unit->Bool}{f15:Blk×Unit->Int×Unit}(auB:∀b,p15 (b,())=true)(auC:∀b,f15 (b,())=(if b.fin=1 then-1 else b.x,())){p16:Blk×Unit->Bool}{f16:Blk×Unit->Int×Unit}(auD:∀b,p16 (b,())=true)(auE:∀b,f16 (b,())=(if b.fin=1\/b.fin=2 then-1 else b.y,()))(t:List Atom)(b:Blk)(ht:ShT t)(hb:b.ops.length<1000000000):QY.F (p1,f1,p2,f2,p3,f3,p4,f4,p5,f5,p6,f6,p7,f7,p8,f8,p9,f9,p10,f10,p11,f11,p12,f12,p13,f13,p14,f14,p15,f15,p16,f16,()) (t,b,()) (λy=>y=((bK t b).1,(bK t b).2,())):=by
 obtain⟨hp1,hf1⟩:=U1;obtain⟨hp2,hf2⟩:=U2;obtain⟨hp3,hf3⟩:=U3;obtain⟨hp4,hf4⟩:=U4;obtain⟨hp5,hf5⟩:=U5;obtain⟨hp6,hf6⟩:=U6;obtain⟨hp7,hf7⟩:=U7;obtain⟨hp8,hf8⟩:=U8;obtain⟨Xc,ab7⟩:=U10;obtain⟨auF,auG⟩:=U14;have hlt:=ht.1;dsimp only [QY,gm];simp (disch:=omega) only [RR,RB,hp6 t ht,hf6 t ht,hp1 b hb,hf1 b hb,hp8 t ht,hf8 t ht,hp5];by_cases c:aD t/\t.length<=100/\dO b
 case neg=>
  refine⟨λ_=> ?_,λh=> ?_⟩
  .unfold bK;rw [bJ c];rfl
  .exact absurd ⟨aT.1 h.1.1,ah,aT.1 h.1.2⟩ c
 obtain⟨c1,c2,c3⟩:=c;simp (disch:=omega) only [RR,aU c1,aU c3];have sz:=c3.sz;have hop:=c3.op;have hk3:=c3.k3;have i0:=FN c1 ah;obtain⟨_,g5,_⟩:=hf5;refine⟨λh=>absurd h ah,λ_=> ?_⟩;refine ak (λ(y:Int×Blk×Int×Int×Int×Int×List (List aj)×List Atom×Unit)=>0<=y.1/\y.1<=4/\y.2.1=b/\y.2.2.2.2.1=b.fin/\y.2.2.2.2.2.1=b.k/\y.2.2.2.2.2.2.1.length=4/\y.2.2.2.2.2.2.1.take y.1.toNat=(rN t y.1.toNat).2/\y.2.2.2.2.2.2.2.1=(rN t y.1.toNat).1) (λy=>(4-y.1).toNat) ⟨by simp,by simp,rfl,rfl,rfl,g5,by simp;rfl,rfl⟩ ?_;rintro⟨(r:Int),(b':Blk),(z1:Int),(z2:Int),(fin:Int),(kk:Int),(rg:List (List aj)),(tb:List Atom),⟨⟩⟩ hI;dsimp only at hI ⊢;obtain⟨r0,r1,rfl,rfl,rfl,r4,r5,rfl⟩:=hI;have ok:=CU c1 ah r.toNat ah;have okl:=ok.tl;by_cases h:r<4
 .have sA:ShA ⟨1,r,[],[]⟩:=⟨⟨by simp,λm hm=>absurd hm (by simp)⟩,⟨by simp,λm hm=>absurd hm (by simp)⟩⟩;have er:((r.toNat:Nat):Int)=r:=by omega
  simp (disch:=omega) only [RR,h,Xc _ _ sA ok.tok.sh ok.tok,ab7 _ _ sA ok.tok.sh ok.tok,hp2,hf2,r4,List.length_set];have es:rN t (r+1).toNat=((aI (rN t r.toNat).1 ⟨1,r,[],[]⟩).1,(rN t r.toNat).2++ [bS (aI (rN t r.toNat).1 ⟨1,r,[],[]⟩).2]):=by
   rw [show(r+1).toNat=r.toNat+1 by omega,DN,er]
  refine⟨r0,ah,r0,ah,⟨ah,ah,?_,by rw [es]⟩,ah⟩;rw [es,show(r+1).toNat=r.toNat+1 by omega,Gp ah,r5]
 .have e4:r.toNat=4:=by omega
  rw [e4]at r5 ok;have eg:rg=(rN t 4).2:=by rw [<-r5,List.take_of_length_le ah]
  subst eg;rw [e4];simp (disch:=omega) only [RR,h];refine ak (λ(y:Int×Blk×Int×Int×Int×Int×List (List aj)×List (List aj)×List Atom×List Ev×Unit)=>0<=y.1/\y.1<=b'.ops.length/\y.2.1=b'/\y.2.2.2.2.1=b'.fin/\y.2.2.2.2.2.1=b'.k/\Pt2 t b' y.1.toNat y.2.2.2.2.2.2.2.2.1 y.2.2.2.2.2.2.2.1 y.2.2.2.2.2.2.2.2.2.1 y.2.2.2.2.2.2.1) (λy=>(b'.ops.length-y.1).toNat) ⟨by simp,by simp,rfl,rfl,rfl,⟨rfl,rfl,rfl,rfl⟩⟩ ?_;have siw:∀j:Nat,j<=b'.ops.length->SI (t.length+4) j (SW t b' j):=λj hj=>by
   have:=(oP (b'.ops.take j) 0 (s0 t) i0 (λo ho=>hk3 o (List.mem_of_mem_take ho)) (by rw [List.length_take];omega) (by rw [List.length_take];omega)).1;rw [List.length_take,Nat.min_eq_left hj,Nat.zero_add]at this;exact this
  rintro⟨(i:Int),(b:Blk),(z1:Int),(z2:Int),(fin:Int),(kk:Int),(rg:List (List aj)),(V:List (List aj)),(tb:List Atom),(ev:List Ev),⟨⟩⟩ hI;dsimp only at hI ⊢;obtain⟨h1,h2,rfl,rfl,rfl,hA⟩:=hI;have si:=siw i.toNat ah;have evl:=ab5 (t:=t) (b:=b) i.toNat ah;have cn:=Cn.run (b.ops.take i.toNat) (s0 t) ⟨rfl,rfl⟩;have cn:Cn (SW t b i.toNat):=cn;by_cases h7:i<b.ops.length
  case neg=>
   have en:=c3.en;have hf:=en.f;have hpc:=c3.pc;have hln:=c3.ln;have ein:i.toNat=b.ops.length:=by omega
   have eS:SW t b i.toNat=dS t b:=by unfold SW dS;rw [ein,List.take_of_length_le (Nat.le_refl _)]
   obtain⟨a3,a4,a5,a6⟩:=hA;rw [eS]at a3 a4 a5 a6 si;subst a3 a4 a5 a6;have pk:=DJ (b:=b) si;have eR:=qX c1 c2 c3;have sh:ShY (nH b (dS t b)):=by
    have hs:=JH b.ops 0 (s0 t) i0 hk3 ah ah ⟨by simp [s0],λe he=>absurd he (by simp [s0])⟩;exact⟨⟨by have:=hs.1;show(b.ops.foldl stp (s0 t)).evs.length<_;omega,hs.2⟩,si.regs,pk.1.sh,pk.2.sh⟩
   have sl:=si.vl;have x1:=en.x1;have y1:=en.y1;have EX:f13 (if b.fin=1 then-1 else b.x,(dS t b).vals,())=((nH b (dS t b)).x,(dS t b).vals,()):=by
    rw [agE];show _=(if b.fin=1 then []else(((dS t b).vals).getD (b.x).toNat default),_);by_cases c:b.fin=1
    .rw [if_pos c,if_pos c,if_pos ah]
    .obtain⟨v1,v2,_⟩:=x1 c;rw [if_neg c,if_neg c,if_neg ah]
   have EY:f13 (if b.fin=1\/b.fin=2 then-1 else b.y,(dS t b).vals,())=((nH b (dS t b)).y,(dS t b).vals,()):=by
    rw [agE];show _=(if 3<=b.fin then(((dS t b).vals).getD (b.y).toNat default)else [],_);by_cases c:b.fin=1\/b.fin=2
    .rw [if_pos c,if_pos (Or.inl (by decide)),if_neg (show¬3<=b.fin by omega)]
    .obtain⟨v1,v2,_⟩:=y1 ah;rw [if_neg c,if_neg (show¬(b.y<0\/((dS t b).vals.length:Int)<=b.y) by omega),if_pos (show 3<=b.fin by have:=hf;omega)]
   have shr:ShP (dS t b).regs:=sh.r;simp (disch:=omega) only [RR,RB,h7,auF _ shr,auG _ shr,auB,auC,auD,auE,JN,EX,EY,hp7 _ sh.x,hf7 _ sh.x,hp7 _ sh.y,hf7 _ sh.y];exact⟨hp4 _ _ sh,by rw [eR];exact congrArg (λz=>((dS t b).t,z.1,())) (hf4 (nH b (dS t b)) (b.pc+b.len) sh)⟩
  have hok:=hop i h1 h7;have nxt:=λ{v:List aj} {tb':List Atom} {ev':List Ev} {rg':List (List aj)}=>Pt2.next (o:=((b.ops).getD (i).toNat default)) hA ah rfl (v:=v) (tb':=tb') (ev':=ev') (rg':=rg')
  obtain⟨a3,a4,a5,a6⟩:=hA;have ei:(i+1).toNat=i.toNat+1:=by omega
  obtain⟨sn,so⟩:=oO (o:=((b.ops).getD (i).toNat default)) si hok.k3 ah ah;have vl:=si.vl;have shv:∀k:Int,Sh (if k<0\/(V.length:Int)<=k then []else((V).getD (k).toNat default)):=λk=>by
   split
   .exact⟨by simp,λm hm=>absurd hm (by simp)⟩
   .rw [a4];exact(yZ si.vok k).1.sh
  obtain⟨X,eX⟩:∃X,X=if(((b.ops).getD (i).toNat default)).x<0\/(V.length:Int)<=(((b.ops).getD (i).toNat default)).x then []else((V).getD ((((b.ops).getD (i).toNat default)).x).toNat default):=⟨_,rfl⟩
  obtain⟨Y,eY⟩:∃Y,Y=if(((b.ops).getD (i).toNat default)).y<0\/(V.length:Int)<=(((b.ops).getD (i).toNat default)).y then []else((V).getD ((((b.ops).getD (i).toNat default)).y).toNat default):=⟨_,rfl⟩
  have F1:f13 ((((b.ops).getD (i).toNat default)).x,V,())=(X,V,()):=by rw [agE,eX]
  have F2:f13 ((((b.ops).getD (i).toNat default)).y,V,())=(Y,V,()):=by rw [agE,eY]
  have shx:Sh X:=eX▸shv _;have shy:Sh Y:=eY▸shv _;have ex:hX ((b.ops).getD (i).toNat default)->X=xOf (SW t b i.toNat) ((b.ops).getD (i).toNat default):=λh=>by
   have v:=hok.x1 h;have v2:=v.2.1;unfold xOf;rw [if_pos h,eX,if_neg (by rw [a4,vl];have:=v.1;omega),a4]
  have ey:hY ((b.ops).getD (i).toNat default)->Y=yOf (SW t b i.toNat) ((b.ops).getD (i).toNat default):=λh=>by
   have v:=hok.y1 h;have v2:=v.2.1;unfold yOf;rw [if_pos h,eY,if_neg (by rw [a4,vl];have:=v.1;omega),a4]
  clear eX eY shv
  have vl':V.length=i.toNat:=by rw [a4];exact vl
  generalize hs:SW t b i.toNat=s at*;generalize ho:((b.ops).getD (i).toNat default)=o at*;have kd:=hok.kd;subst a3 a5 a6;have r4:s.regs.length=4:=si.r4;have tsh:=si.tok.sh;have cnl:=cn.ld;have cni:=cn.inn;have rsh:ShP s.regs:=si.regs;have dn:=λ{v:List aj} {tb':List Atom} {ev':List Ev} {rg':List (List aj)} (h3:tb'=nT s o) (h4:v=nV s o) (h5:ev'=nE s o) (h6:rg'=nR s o)=>show((V.length:Int)+([v].length:Int)<=1073741824)/\(0<=i+1/\i+1<=b.ops.length/\Pt2 t b (i+1).toNat tb' (V++ [v]) ev' rg')/\(b.ops.length- (i+1)).toNat< (b.ops.length-i).toNat from⟨by simp only [List.length_cons,List.length_nil];omega,⟨ah,ah,by rw [ei];exact nxt h3 h4 h5 h6⟩,ah⟩
  have el1:∀e:Ev,(s.evs.length:Int)+([e].length:Int)<=1073741824:=λe=>by simp only [List.length_cons,List.length_nil];omega
  have T0:o.kind≠3->o.kind≠4->o.kind≠6->s.t=nT s o:=λh3 h4 h6=>by unfold nT;rw [if_neg h3,if_neg ah]
  have R0:o.kind≠8->s.regs=nR s o:=λh=>by unfold nR;rw [if_neg h]
  have E0:¬evO o->s.evs=nE s o:=λh=>by unfold nE;rw [if_neg h]
  have V0:o.kind=5\/o.kind=7\/o.kind=8->[]=nV s o:=λh=>by unfold nV;rw [if_neg ah,if_neg ah,if_neg ah,if_neg ah]
  rcases(by omega:o.kind=1\/o.kind=2\/o.kind=3\/o.kind=4\/o.kind=5\/o.kind=6\/o.kind=7\/o.kind=8)with c | c | c | c | c | c | c | c
  .simp (disch:=omega) only [RR,RB,ho,h7,JN,F1,F2,c,Int.reduceEq,hp3,hf3];exact⟨h1,dn (T0 ah ah ah) (show bN o.k=nV s o by unfold nV;rw [if_pos c]) (E0 (by unfold evO;omega)) (R0 ah)⟩
  .have k2:=hok.k2 (Or.inl c);simp (disch:=omega) only [RR,RB,ho,h7,JN,F1,F2,c,Int.reduceEq,r4];exact⟨h1,k2.1,ah,k2.1,ah,dn (T0 ah ah ah) (show((s.regs).getD (o.k).toNat default)=nV s o by unfold nV;rw [if_neg ah,if_pos c]) (E0 (by unfold evO;omega)) (R0 ah)⟩
  .have d9:=hok.k3 c;simp (disch:=omega) only [RR,RB,ho,h7,JN,F1,F2,c,Int.reduceEq,hp9 o.k _ _ _ d9 shx shy tsh si.tok,hf9 o.k _ _ _ d9 shx shy tsh si.tok];have e1:=ex (by unfold hX;omega);have e2:=ey (by unfold hY;omega);exact⟨h1,dn (show(tDo s.t o.k X Y).1=nT s o by unfold nT;rw [if_pos c,e1,e2]) (show(tDo s.t o.k X Y).2=nV s o by unfold nV;rw [if_neg ah,if_neg ah,if_pos c,e1,e2]) (E0 (by unfold evO;omega)) (R0 ah)⟩
  .have el:s.evs.length<1000000000:=by omega
   have ea:aOf s o=⟨2,oQ s.evs 4,[],[]⟩:=by unfold aOf;rw [if_pos c,cnl]
   have e1:=ex (by unfold hX;omega);have e2:yOf s o=[]:=by unfold yOf;rw [if_neg (by unfold hY;omega)]
   simp (disch:=omega) only [RR,RB,ho,h7,JN,F1,F2,c,Int.reduceEq,ags s.evs 4 s.t el tsh si.tok,agt s.evs 4 s.t el tsh si.tok,Sb o X Y s.regs shx shy rsh,Sc o X Y s.regs shx shy rsh,el1];exact⟨h1,dn (by unfold nT;rw [if_neg ah,if_pos (Or.inl c),ea]) (by unfold nV;rw [if_neg ah,if_neg ah,if_neg ah,if_pos (Or.inl c),ea]) (by unfold nE;rw [if_pos (by unfold evO;omega),if_pos (Or.inl c),c,e1,e2]) (R0 ah)⟩
  .have e1:=ex (by unfold hX;omega);have e2:=ey (by unfold hY;omega);simp (disch:=omega) only [RR,RB,ho,h7,JN,F1,F2,c,Int.reduceEq,Sb o X Y s.regs shx shy rsh,Sc o X Y s.regs shx shy rsh,el1];exact⟨h1,dn (T0 ah ah ah) (V0 ah) (by unfold nE;rw [if_pos (by unfold evO;omega),if_pos (Or.inr c),c,e1,e2]) (R0 ah)⟩
  .have el:s.evs.length<1000000000:=by omega
   have ea:aOf s o=⟨3,oQ s.evs 6,[],[]⟩:=by unfold aOf;rw [if_neg ah,cni]
   have e1:xOf s o=[]:=by unfold xOf;rw [if_neg (by unfold hX;omega)]
   have e2:yOf s o=[]:=by unfold yOf;rw [if_neg (by unfold hY;omega)]
   simp (disch:=omega) only [RR,RB,ho,h7,JN,F1,F2,c,Int.reduceEq,ags s.evs 6 s.t el tsh si.tok,agt s.evs 6 s.t el tsh si.tok,Sb o X Y s.regs shx shy rsh,Sc o X Y s.regs shx shy rsh,el1];exact⟨h1,dn (by unfold nT;rw [if_neg ah,if_pos (Or.inr c),ea]) (by unfold nV;rw [if_neg ah,if_neg ah,if_neg ah,if_pos (Or.inr c),ea]) (by unfold nE;rw [if_pos (by unfold evO;omega),if_neg ah,c,e1,e2]) (R0 ah)⟩
  .have e1:=ex (by unfold hX;omega);have e2:yOf s o=[]:=by unfold yOf;rw [if_neg (by unfold hY;omega)]
   simp (disch:=omega) only [RR,RB,ho,h7,JN,F1,F2,c,Int.reduceEq,Sb o X Y s.regs shx shy rsh,Sc o X Y s.regs shx shy rsh,el1];exact⟨h1,dn (T0 ah ah ah) (V0 ah) (by unfold nE;rw [if_pos (by unfold evO;omega),if_neg ah,c,e1,e2]) (R0 ah)⟩
  .have k2:=hok.k2 (Or.inr c);have e1:=ex (by unfold hX;omega);simp (disch:=omega) only [RR,RB,ho,h7,JN,F1,F2,c,Int.reduceEq,r4];exact⟨h1,k2.1,ah,k2.1,ah,dn (T0 ah ah ah) (V0 ah) (E0 (by unfold evO;omega)) (by unfold nR;rw [if_pos c,e1])⟩
def alR{α:Type}[Inhabited α](l:List α)(a:α)(i:Int)(h:0<=i):((l++ [a]).getD (i).toNat default)=if i=l.length then a else((l).getD (i).toNat default):=by
 by_cases c:i=l.length
 .rw [if_pos c,c,List.getD_eq_getElem?_getD];simp
 .rw [if_neg c,List.getD_eq_getElem?_getD,List.getD_eq_getElem?_getD];by_cases d:i.toNat<l.length
  .rw [List.getElem?_append_left d]
  .rw [List.getElem?_eq_none (by rw [List.length_append,List.length_singleton];omega),List.getElem?_eq_none ah]
def Xg{n:Int}{t u:List Atom}(h:RU n t)(g:RU n u):t=u:=by
 obtain⟨h1,h2⟩:=h;obtain⟨g1,g2⟩:=g;exact oh ah λi i0 i1=>by
  have a:=h2 i i0 ah;have b:=g2 i i0 ah;exact a.trans b.symm
def Vy:∀n:Nat,n<=4->RU n (rN [] n).1
 | 0,_=>⟨rfl,All.zero⟩
 | n+1,hn=>by
  obtain⟨h1,h2⟩:=Vy n ah;have ok:=CU qd (by simp) n ah;have e:aI (rN [] n).1 ⟨1,n,[],[]⟩=((rN [] n).1++ [⟨1,n,[],[]⟩],((rN [] n).1.length:Int)):=by
   rcases fT (rN [] n).1 ⟨1,n,[],[]⟩with⟨f1,f2⟩ | ⟨f1,f2,f3,_⟩
   .unfold aI;rw [if_neg ah,if_neg];rintro(g | g)
    .exact g (by unfold fH;rw [if_neg (by simp)];exact⟨⟨rfl,rfl⟩,Or.inl ⟨rfl,by dsimp only;omega,by dsimp only;omega⟩⟩)
    .omega
   .exfalso;have a:=h2 _ f1 ah;dsimp only at a f3;rw [a]at f3;injection f3 with _ g;omega
  have e2:(rN [] (n+1)).1=(rN [] n).1++ [⟨1,n,[],[]⟩]:=by rw [DN,e]
  rw [e2];refine⟨by rw [List.length_append,List.length_singleton];omega,λi i0 i1=> ?_⟩;dsimp only;rw [alR _ _ _ i0];by_cases c:i=((rN [] n).1.length:Int)
  .rw [if_pos c,c,h1]
  .rw [if_neg c];exact h2 i i0 ah
def arA{t:List Atom}(h:RU 4 t):t=t4:=Xg h (Vy 4 (Nat.le_refl _))
def alS{p1 f1}(U1:Y8 p1 f1)(a b:List (List aj))(ha:ShP a):Q0.F (p1,f1,()) (a,b,()) (λy=>y=(bp (a=b),())):=by
 have hlen:=ha.1;dsimp only [Q0,gm];simp (disch:=omega) only [RR];refine⟨λh=> ?_,λh=> ?_⟩
 .rw [bJ (λe=>h (by rw [e]))]
 have hl:a.length=b.length:=by omega
 refine ak (λ(y:List (List aj)×List (List aj)×Int×Unit)=>y.1=a/\y.2.1=b/\0<=y.2.2.1/\y.2.2.1<=a.length/\All y.2.2.1 (λi=>a.getD i.toNat default=b.getD i.toNat default)) (λy=>(a.length-y.2.2.1).toNat) ⟨rfl,rfl,by simp,by simp,All.zero⟩ ?_;rintro⟨(l1:List (List aj)),(l2:List (List aj)),(i:Int),⟨⟩⟩ hI;dsimp only at hI ⊢;obtain⟨rfl,rfl,h1,h2,h3⟩:=hI;simp (disch:=omega) only [RR,U1.hp _ _ (ha.at _),U1.hf _ _ (ha.at _),dZ];refine⟨λh4=>⟨ah,ah,ah,ah,λh5=> ?_,λh5=>⟨⟨ah,ah,h3.snoc h5⟩,ah⟩⟩,λh4=> ?_⟩
 .rw [bJ];intro e;rw [e]at h5;exact h5 rfl
 .rw [aU (oh hl (h3.le ah))]
def alT{p1 f1 p2 f2}(U1:Y8 p1 f1)(U2:Y87 p2 f2)(a b:Ev)(ha:ShE a):Q5.F (p1,f1,p2,f2,()) (a,b,()) (λy=>y=(bp (a=b),())):=by
 dsimp only [Q5,gm];simp (disch:=omega) only [RR,RB,U1.hp _ _ ha.1,U1.hf _ _ ha.1,U1.hp _ _ ha.2.1,U1.hf _ _ ha.2.1,U2.hp _ _ ha.2.2,U2.hf _ _ ha.2.2,dZ];simp only [uI,<-jc];refine Prod.ext (jV ?_) rfl;cases a;cases b;simp only [Ev.mk.injEq];constructor<;>(intro h;simp only [h,and_self])
def alU{p1 f1 p2 f2 p3 f3}(U1:Y8 p1 f1)(U2:Y92 p2 f2)(U3:Y87 p3 f3)(a b:Sym)(ha:ShY a):Q6.F (p1,f1,p2,f2,p3,f3,()) (a,b,()) (λy=>y=(bp (a=b),())):=by
 dsimp only [Q6,gm];simp (disch:=omega) only [RR,RB,U1.hp _ _ ha.x,U1.hf _ _ ha.x,U1.hp _ _ ha.y,U1.hf _ _ ha.y,U3.hp _ _ ha.r,U3.hf _ _ ha.r,dZ,aT,jg];have hlen:=ha.e.1;refine⟨λh=> ?_,λh=> ?_⟩
 .rw [bJ];rintro rfl
  revert h;simp
 refine ak (λ(y:Int×Sym×Sym×Unit)=>y.2.1=a/\y.2.2.1=b/\0<=y.1/\y.1<=a.events.length/\All y.1 (λi=>a.events.getD i.toNat default=b.events.getD i.toNat default)) (λy=>(a.events.length-y.1).toNat) ⟨rfl,rfl,by simp,by simp,All.zero⟩ ?_;rintro⟨(i:Int),(a':Sym),(b':Sym),⟨⟩⟩ hI;dsimp only at hI ⊢;obtain⟨rfl,rfl,h1,h2,h3⟩:=hI;have hl:a'.events.length=b'.events.length:=by
  have:=h.1.1.1.1.1;omega
 simp (disch:=omega) only [RR,RB,U2.hp _ _ (ha.e.at _),U2.hf _ _ (ha.e.at _),aT,jg];refine⟨λh4=>⟨ah,ah,ah,ah,λh5=> ?_,λh5=>⟨⟨ah,ah,h3.snoc h5⟩,ah⟩⟩,λh4=> ?_⟩
 .rw [bJ];rintro rfl;exact h5 rfl
 .rw [aU];obtain⟨⟨⟨⟨⟨g1,g2⟩,g3⟩,g4⟩,g5⟩,g6⟩:=h;exact Sym.ext (oh hl (h3.le ah)) g2 ah g5 g6 ah
def alV{p1 f1 p2 f2 p3 f3 p4 f4 p5 f5}(U1:Y60 p1 f1)(U2:Y93 p2 f2)(U3:Y44 p3 f3)(U4:Y88 p4 f4)(U5:Y94 p5 f5)(b c:Blk)(hb:b.ops.length<1000000000)(hc:c.ops.length<1000000000):Q7.F (p1,f1,p2,f2,p3,f3,p4,f4,p5,f5,()) (b,c,()) (λy=>y=(chk b c,())):=by
 have s4:ShT t4:=Mc.1.sh;have y1:=Ab t4 b;have U3.hf:=arA U3.hf.1;dsimp only [Q7,gm];simp (disch:=omega) only [RR,RB,U1.hp b hb,U1.hf b hb,U1.hp c hc,U1.hf c hc,U2.hp b c hb,U2.hf b c hb,U3.hp,U3.hf,U4.hp t4 b s4 hb,U4.hf t4 b s4 hb,U4.hp _ c y1.2 hc,U4.hf _ c y1.2 hc,U5.hp _ _ y1.1,U5.hf _ _ y1.1,aT,jg];unfold chk;refine⟨λh=> ?_,λh=>⟨λe=> ?_,λe=> ?_⟩⟩
 .rw [bJ];rintro⟨h1,h2,h3,h4,_⟩;simp_all
 .rw [aU];exact⟨h.1.1.1,h.1.1.2,by simp_all,by simp_all,Or.inl e⟩
 .refine Prod.ext (jV ⟨λg=>⟨h.1.1.1,h.1.1.2,by simp_all,by simp_all,Or.inr g⟩,λg=>g.2.2.2.2.resolve_left e⟩) rfl
def auH(q:Cer):Int×Int×Int×Int×Int×Int×Int×Int×Int×Int×Int×Int×List IOp×List IOp×Unit:=(q.base.pc,q.base.len,q.base.fin,q.base.x,q.base.y,q.base.k,q.made.pc,q.made.len,q.made.fin,q.made.x,q.made.y,q.made.k,q.base.ops,q.made.ops,())
def auI(l:List Cer)(q:Cer):List Cer:=(l++ [q]).drop (l.length+1-3)
structure avm(pp:Cer×Unit->Bool)(ff:Cer×Unit->Int×Int×Int×Int×Int×Int×Int×Int×Int×Int×Int×Int×List IOp×List IOp×Unit):Prop where
 hp:∀q,q.base.ops.length<1000000->q.made.ops.length<1000000->pp (q,())=true
 hf:∀q,q.base.ops.length<1000000->q.made.ops.length<1000000->ff (q,())=auH q
structure avn(pp:List Cer×Cer×Unit->Bool)(ff:List Cer×Cer×Unit->List Cer×Unit):Prop where
 hp:∀l q,ShC l->q.base.ops.length<1000000->q.made.ops.length<1000000->pp (l,q,())=true
 hf:∀l q,ShC l->q.base.ops.length<1000000->q.made.ops.length<1000000->ff (l,q,())=(auI l q,())
def opB(o:IOp):List Int:=[o.kind%256,o.x%256,o.y%256,o.k/256%256,o.k%256,o.at_%256]
def auJ(b:Blk):List Int:=[b.pc%256,b.len%256,b.fin%256,b.x%256,b.y%256,b.k/256%256,b.k%256]++b.ops.flatMap opB
noncomputable def irB (b:Blk):List Int:=if bp (dO b)=true then auJ b else []
structure OpR(o:IOp):Prop where
 kd:0<=o.kind/\o.kind<=255
 x:0<=o.x/\o.x<=255
 y:0<=o.y/\o.y<=255
 k:0<=o.k/\o.k<=65535
 at_:0<=o.at_/\o.at_<=255
structure avo(pp:Blk×Unit->Bool)(ff:Blk×Unit->List Int×Unit):Prop where
 hp:∀b,b.ops.length<1000000000->pp (b,())=true
 hf:∀b,b.ops.length<1000000000->ff (b,())=(irB b,())
def szL(n m:Int):Int:=if m-n<0 then-1 else m-n
structure avp(pp:Blk×Int×Unit->Bool)(ff:Blk×Int×Unit->Int×Unit):Prop where
 hp:∀b m,b.ops.length<9223372036854775808->0<=m->m<=1048576->pp (b,m,())=true
 hf:∀b m,b.ops.length<9223372036854775808->0<=m->m<=1048576->ff (b,m,())=(szL b.ops.length m,())
def Wo(n:Int):Prop:=0<=n/\n<=65535
def Wos(l:List Int):Prop:=∀n∈l,Wo n
structure MOK(m:aH):Prop where
 r4:m.regs.length=4
 rw:Wos m.regs
 m64:m.mem.length=64
 mw:Wos m.mem
 pc:Wo m.pc
 sv:Wo m.save
 iw:Wos m.ins
 ow:Wos m.outs
 ha:0<=m.halt/\m.halt<=4
 ct:0<=m.count/\m.count<=1000000
def FV(r a b:Int):Bool:=inB a 0 65535&&inB b 0 65535&&decide (r=1/\a=b\/r=2/\a<b)
structure MS where
 m:aH
 vals:List Int
 left:Bool
def vx(s:MS)(o:IOp):Int:=if hX o then((s.vals).getD (o.x).toNat default)else 0
def vy(s:MS)(o:IOp):Int:=if hY o then((s.vals).getD (o.y).toNat default)else 0
def mV(s:MS)(o:IOp):Int:=if o.kind=1 then o.k else if o.kind=2 then((s.m.regs).getD (o.k).toNat default)else if o.kind=3 then wdo o.k (vx s o) (vy s o)else if o.kind=4 then((s.m.mem).getD (vx s o).toNat default)else if o.kind=6 then s.m.ins.getD 0 default else 0
def mM(s:MS)(o:IOp):aH:=if o.kind=5 then {s.m with mem:=s.m.mem.set (vx s o).toNat (vy s o)}else if o.kind=6 then {s.m with ins:=s.m.ins.drop 1}else if o.kind=7 then {s.m with outs:=s.m.outs++ [vx s o]}else if o.kind=8 then {s.m with regs:=s.m.regs.set o.k.toNat (vx s o)}else s.m
def leave(m:aH)(n:Int)(h:Int):aH:={m with halt:=h,pc:=m.pc+n,count:=m.count+n}
def bO(b:Blk)(s:MS)(o:IOp):MS:=
 if s.left=true then s
 else if(o.kind=4\/o.kind=5)/\64<=vx s o then⟨leave s.m o.at_ 3,s.vals,true⟩
 else if o.kind=5/\b.pc+o.at_+1<=vx s o/\vx s o<=b.pc+b.len-1 then⟨leave (mM s o) (o.at_+1) (mM s o).halt,s.vals,true⟩
 else⟨mM s o,s.vals++ [mV s o],false⟩
def Af(b:Blk)(s:MS):aH:=if s.left=true then s.m else {s.m with count:=s.m.count+b.len,pc:=if b.fin=1 then b.k else if b.fin=2 then((s.vals).getD (b.x).toNat default)else if FV (b.fin-2) ((s.vals).getD (b.x).toNat default) ((s.vals).getD (b.y).toNat default)=true then b.k else b.pc+b.len}
def JO:aH:=⟨[],0,[],0,false,false,0,[],[],0⟩
noncomputable def iX (b:Blk) (m:aH):aH×Bool:=if bp (dO b/\MOK m)=true then(if m.halt≠0\/m.pc≠b.pc\/1000000-b.len<m.count then(m,false)else(Af b (b.ops.foldl (bO b) ⟨m,[],false⟩),true))else(JO,false)
def dL(i:Ins):Prop:=(0<=i.op/\i.op<=15)/\(0<=i.d/\i.d<=3)/\(0<=i.a/\i.a<=3)/\0<=i.k/\
 (i.op=0->i.d=0/\i.a=0/\i.k<=3)/\(i.op=1->i.a=0/\i.k<=255)/\(i.op=2->i.k=0)/\(3<=i.op/\i.op<=7->i.k<=3)/\(i.op=8->i.k<=15)/\(9<=i.op/\i.op<=12->i.k<=255)/\(i.op=13->i.d=0/\i.k=0)/\(14<=i.op->i.a=0/\i.k=0)
def Sk(i:Ins):Int:=i.op*4096+i.d*1024+i.a*256+i.k
def sQ(w:Int):Ins:=⟨w/4096,w/1024%4,w/256%4,w%256⟩
structure xg(pc:Int)(l:List Ins):Prop where
 ln:1<=l.length/\l.length<=8
 pc:0<=pc/\pc<=64-l.length
 ok:∀i:Nat,i<l.length->dL (l.getD i default)/\(l.getD i default).op≠0/\(11<=(l.getD i default).op/\(l.getD i default).op<=13->i+1=l.length)
def gu(n b:Int)(i:Ins):List IOp:=
 if i.op=1 then [⟨1,0,0,i.k,0⟩,⟨8,b,0,i.d,0⟩]
 else if i.op=2 then [⟨2,0,0,i.a,0⟩,⟨8,b,0,i.d,0⟩]
 else if i.op=8 then [⟨2,0,0,i.a,0⟩,⟨1,0,0,2^i.k.toNat,0⟩,⟨3,b,b+1,3,0⟩,⟨8,b+2,0,i.d,0⟩]
 else if i.op=9 then [⟨2,0,0,i.a,0⟩,⟨1,0,0,i.k,0⟩,⟨3,b,b+1,1,0⟩,⟨4,b+2,0,0,n⟩,⟨8,b+3,0,i.d,0⟩]
 else if i.op=10 then [⟨2,0,0,i.a,0⟩,⟨1,0,0,i.k,0⟩,⟨3,b,b+1,1,0⟩,⟨2,0,0,i.d,0⟩,⟨5,b+2,b+3,0,n⟩]
 else if i.op=14 then [⟨2,0,0,i.d,0⟩,⟨7,b,0,0,n⟩]
 else if i.op=15 then [⟨6,0,0,0,n⟩,⟨8,b,0,i.d,0⟩]
 else if i.op=11\/i.op=12 then [⟨2,0,0,i.d,0⟩,⟨2,0,0,i.a,0⟩]
 else if i.op=13 then [⟨2,0,0,i.a,0⟩]
 else [⟨2,0,0,i.a,0⟩,⟨2,0,0,i.k,0⟩,⟨3,b,b+1,i.op-2,0⟩,⟨8,b+2,0,i.d,0⟩]
def iI(n:Int)(b:Blk)(i:Ins):Blk:=
 if i.op=11\/i.op=12 then {b with ops:=b.ops++gu n b.ops.length i,fin:=i.op-8,x:=b.ops.length,y:=b.ops.length+1,k:=i.k}
 else if i.op=13 then {b with ops:=b.ops++gu n b.ops.length i,fin:=2,x:=b.ops.length,k:=0}
 else {b with ops:=b.ops++gu n b.ops.length i}
def oU:Int->Blk->List Ins->Blk
 | _,b,[]=>b
 | n,b,i::r=>oU (n+1) (iI n b i) r
def Ag(pc:Int)(l:List Ins):Blk:=⟨pc,l.length,[],1,0,0,pc+l.length⟩
noncomputable def lower (pc:Int) (l:List Ins):Blk:=if bp (xg pc l)=true then oU 0 (Ag pc l) l else R4
def adr(m:aH)(i:Ins):Int:=(((m.regs).getD (i.a).toNat default)+i.k)%65536
def eff(m:aH)(i:Ins):aH:=
 if i.op=1 then {m with regs:=m.regs.set i.d.toNat i.k}
 else if i.op=2 then {m with regs:=m.regs.set i.d.toNat ((m.regs).getD (i.a).toNat default)}
 else if i.op=8 then {m with regs:=m.regs.set i.d.toNat (((m.regs).getD (i.a).toNat default)*2^i.k.toNat%65536)}
 else if i.op=9 then {m with regs:=m.regs.set i.d.toNat ((m.mem).getD (adr m i).toNat default)}
 else if i.op=10 then {m with mem:=m.mem.set (adr m i).toNat ((m.regs).getD (i.d).toNat default)}
 else if i.op=14 then {m with outs:=m.outs++ [((m.regs).getD (i.d).toNat default)]}
 else if i.op=15 then {m with regs:=m.regs.set i.d.toNat (m.ins.getD 0 default),ins:=m.ins.drop 1}
 else if i.op=0 then(if i.k=0 then {m with halt:=1}else if i.k=1 then {m with dV:=true}else {m with dV:=decide (i.k=2)})
 else if 11<=i.op then m
 else {m with regs:=m.regs.set i.d.toNat (wdo (i.op-2) ((m.regs).getD (i.a).toNat default) ((m.regs).getD (i.k).toNat default))}
def nxt(m:aH)(i:Ins):Int:=
 if i.op=0/\i.k=1 then m.save
 else if(i.op=11\/i.op=12)/\FV (i.op-10) ((m.regs).getD (i.d).toNat default) ((m.regs).getD (i.a).toNat default)=true then i.k
 else if i.op=13 then((m.regs).getD (i.a).toNat default)
 else(m.pc+1)%65536
def exec(m:aH)(i:Ins):aH:=if(i.op=9\/i.op=10)/\64<=adr m i then {m with halt:=3}else {eff m i with pc:=nxt m i,count:=m.count+1}
noncomputable def stepM (m:aH) (irq:Bool):aH:=
 let w:=m.waits || irq
 let m1:aH:=if w=true/\m.dV=true then {m with waits:=false,dV:=false,save:=m.pc,pc:=48}else {m with waits:=w}
 if 64<=m1.pc then {m1 with halt:=4}
 else if bp (dL (sQ ((m1.mem).getD (m1.pc).toNat default)))=false then {m1 with halt:=2}
 else exec m1 (sQ ((m1.mem).getD (m1.pc).toNat default))
theorem va(v l:List Int)(j:Nat):((v++l).getD ((v.length:Int)+j).toNat default)=l.getD j default:=by
 rw [List.getD_eq_getElem?_getD,List.getElem?_append_right ah,<-List.getD_eq_getElem?_getD,show((v.length:Int)+j).toNat-v.length=j by omega]
theorem Wos.at{l:List Int}(h:Wos l)(i:Int):Wo ((l).getD (i).toNat default):=by
 by_cases c:i.toNat<l.length
 .rw [getD_lt c];exact h _ (List.getElem_mem _)
 .rw [List.getD_eq_getElem?_getD,List.getElem?_eq_none ah];exact⟨by decide,by decide⟩
theorem acD{k:Int}(h0:0<=k)(h1:k<=15):Wo (2^k.toNat):=by
 obtain⟨j,rfl⟩:∃j:Nat,k=j:=⟨k.toNat,ah⟩;have:j<=15:=by omega
 rw [show((j:Int)).toNat=j from rfl];have h:(2:Nat)^j<=2^15:=Nat.pow_le_pow_right (by decide) this;have e:((2:Int)^j)=((2^j:Nat):Int):=by simp
 rw [e];have h15:(2:Nat)^15=32768:=by decide
 rw [h15]at h;generalize (2:Nat)^j=z at h;exact⟨ah,ah⟩
section
variable (B:Blk) (m:aH) (v:List Int)
theorem st2(k:Int):bO B ⟨m,v,false⟩ ⟨2,0,0,k,0⟩=⟨m,v++ [((m.regs).getD (k).toNat default)],false⟩:=by simp [bO,mM,mV]
end
theorem JQ(B:Blk)(m:aH)(v:List Int):∀l:List IOp,l.foldl (bO B) ⟨m,v,true⟩=⟨m,v,true⟩
 | []=>rfl
 | o::r=>by rw [List.foldl_cons,show bO B ⟨m,v,true⟩ o=⟨m,v,true⟩ by simp [bO]];exact JQ B m v r
end Go.TX.F
namespace Go.TX.F
open Go Go.AE Go.TX
def MSh(m:aH):Prop:=m.regs.length<1000000000/\m.mem.length<1000000000/\m.ins.length<1000000000/\m.outs.length<1000000000
abbrev m10(m : aH) : Int × Int × Bool × Bool × Int × Int × List Int × List Int × List Int × List Int × Unit := (m.pc, m.save, m.dV, m.waits, m.halt, m.count, m.regs, m.mem, m.ins, m.outs, ())
abbrev mB(m : aH) : Int × Int × Bool × Bool × Int × List Int × Int × List Int × List Int × List Int × Unit := (m.pc, m.save, m.dV, m.waits, m.halt, m.ins, m.count, m.regs, m.mem, m.outs, ())
abbrev mR(x : aH × Bool) : Int × Int × Bool × Bool × Int × Int × Bool × List Int × List Int × List Int × List Int × Unit := (x.1.pc, x.1.save, x.1.dV, x.1.waits, x.1.halt, x.1.count, x.2, x.1.regs, x.1.mem, x.1.ins, x.1.outs, ())
def MRB:(∀m:aH,lK .iK 0 .i64 m=m.regs)/\(∀m:aH,iB .iK 1 m=m.pc)/\(∀m:aH,lK .iK 2 .i64 m=m.mem)/\(∀m:aH,iB .iK 3 m=m.save)/\(∀m:aH,afF .iK 4 m=m.dV)/\(∀m:aH,afF .iK 5 m=m.waits)/\(∀m:aH,iB .iK 6 m=m.halt)/\(∀m:aH,lK .iK 7 .i64 m=m.ins)/\(∀m:aH,lK .iK 8 .i64 m=m.outs)/\(∀m:aH,iB .iK 9 m=m.count):=
 ⟨λ_=>rfl,λ_=>rfl,λ_=>rfl,λ_=>rfl,λ_=>rfl,λ_=>rfl,λ_=>rfl,λ_=>rfl,λ_=>rfl,λ_=>rfl⟩
def BX{a b c:Int}:inB a b c=bp (b<=a/\a<=c):=by rw [jc];simp only [inB,uI]
structure alW(pp:List Int×Unit->Bool)(ff:List Int×Unit->Bool×Unit):Prop where
 hp:∀l,l.length<1000000000->pp (l,())=true
 hf:∀l,l.length<1000000000->ff (l,())=(bp (Wos l),())
def arB{p1 f1 p2 f2 p3 f3}(U1:Y9 p1 f1)(U2:Y1 p2 f2)(U3:alW p3 f3)(m:aH)(h:MSh m):abk.F (p1,f1,p2,f2,p3,f3,()) (m,()) (λy=>y=(bp (MOK m),())):=by
 obtain⟨a1,a2,a3,a4⟩:=h;dsimp only [abk,gm];simp (disch:=omega) only [RR,MRB,U1.hp,U1.hf,U2.hp,U2.hf,U3.hp _ a1,U3.hf _ a1,U3.hp _ a2,U3.hf _ a2,U3.hp _ a3,U3.hf _ a3,U3.hp _ a4,U3.hf _ a4,BX,uI];simp only [<-jc];refine Prod.ext (jV ⟨λh=> ?_,λh=> ?_⟩) rfl
 .obtain⟨⟨⟨⟨⟨⟨⟨⟨⟨h1,h2⟩,h3⟩,h4⟩,h5⟩,h6⟩,h7⟩,h8⟩,h9⟩,h10⟩:=h;exact⟨ah,h3,ah,h4,h5,h6,h7,h8,h9,h10⟩
 .exact⟨⟨⟨⟨⟨⟨⟨⟨⟨by have:=h.r4;omega,by have:=h.m64;omega⟩,h.rw⟩,h.mw⟩,h.pc⟩,h.sv⟩,h.iw⟩,h.ow⟩,h.ha⟩,h.ct⟩
def arC{p1:List Int×Unit->Bool}{f1:List Int×Unit->List Int×Unit}(hp1:∀l,l.length<=1073741824->p1 (l,())=true)(hf1:∀l,l.length<=1073741824->f1 (l,())=(l,()))(m:aH)(h:MSh m):abl.F (p1,f1,()) (m,()) (λy=>y=m10 m):=by
 obtain⟨a1,a2,a3,a4⟩:=h;dsimp only [abl,gm];simp (disch:=omega) only [RR,MRB,hp1 m.regs ah,hf1 m.regs ah,hp1 m.mem ah,hf1 m.mem ah,hp1 m.ins ah,hf1 m.ins ah,hp1 m.outs ah,hf1 m.outs ah]
def aif(pc sv:Int)(lt wt:Bool)(ha:Int)(ins:List Int)(ct:Int)(regs mem outs:List Int)(h:ins.length<1000000000):abm.F () (pc,sv,lt,wt,ha,ins,ct,regs,mem,outs,()) (λy=>y=(ins.getD 0 default,pc,sv,lt,wt,ha,ins.drop 1,ct,regs,mem,outs,())):=by
 dsimp only [abm,gm];simp (disch:=omega) only [RR];refine⟨λe=> ?_,λe=> ?_⟩
 .have:ins=[]:=List.eq_nil_of_length_eq_zero ah;subst this;rfl
 .exact⟨ah,ah,ah,ah,ah,by rw [List.take_of_length_le ah];rfl⟩
def arD{p1 f1}(U1:Y32 p1 f1)(a b:aH)(h:MSh a):abq.F (p1,f1,()) (a,b,()) (λy=>y=(bp (a=b),())):=by
 obtain⟨a1,a2,a3,a4⟩:=h;dsimp only [abq,gm];simp (disch:=omega) only [RR,MRB,U1.hp _ b.regs a1,U1.hf _ b.regs a1,U1.hp _ b.mem a2,U1.hf _ b.mem a2,U1.hp _ b.ins a3,U1.hf _ b.ins a3,U1.hp _ b.outs a4,U1.hf _ b.outs a4,uI];refine Prod.ext ?_ rfl;have eb:∀x y:Bool,(x==y)=bp (x=y):=λx y=>by cases x<;>cases y<;>simp [bp]
 simp only [eb,<-jc];refine jV ?_;cases a;cases b;simp only [aH.mk.injEq];constructor<;>(intro h;simp only [h,and_self])
def Wos.set{l:List Int}(h:Wos l){n:Int}(w:Wo n)(i:Nat):Wos (l.set i n):=λx hx=>(List.mem_or_eq_of_mem_set hx).elim (h x) (λe=>e▸w)
def Wos.drop{l:List Int}(h:Wos l)(i:Nat):Wos (l.drop i):=λx hx=>h x (List.mem_of_mem_drop hx)
def Wos.snoc{l:List Int}(h:Wos l){n:Int}(w:Wo n):Wos (l++ [n]):=λx hx=>by
 rw [List.mem_append,List.mem_singleton]at hx;exact hx.elim (h x) (λe=>e▸w)
def wo0:Wo 0:=⟨by decide,by decide⟩
def acE{s:MS}(h:Wos s.vals)(o:IOp):Wo (vx s o):=by
 unfold vx;split
 .exact h.at _
 .exact wo0
def aii{s:MS}(h:Wos s.vals)(o:IOp):Wo (vy s o):=by
 unfold vy;split
 .exact h.at _
 .exact wo0
def Wos.hd{l:List Int}(h:Wos l):Wo (l.getD 0 default):=h.at 0
def aij{s:MS}{o:IOp}(h:Wos s.vals)(k:MOK s.m)(k1:o.kind=1->0<=o.k/\o.k<=65535):Wo (mV s o):=by
 unfold mV;split
 .exact k1 ‹_›
 split
 .exact k.rw.at _
 split
 .exact Dz _ _ _
 split
 .exact k.mw.at _
 split
 .exact k.iw.hd
 .exact wo0
def aik{s:MS}(h:Wos s.vals)(k:MOK s.m)(o:IOp):MOK (mM s o):=by
 unfold mM;split
 .exact {k with m64:=by rw [List.length_set];exact k.m64,mw:=k.mw.set (aii h o) _}
 split
 .exact {k with iw:=k.iw.drop 1}
 split
 .exact {k with ow:=k.ow.snoc (acE h o)}
 split
 .exact {k with r4:=by rw [List.length_set];exact k.r4,rw:=k.rw.set (acE h o) _}
 .exact k
def acF(s:MS)(o:IOp):(mM s o).ins.length<=s.m.ins.length/\(mM s o).outs.length<=s.m.outs.length+1/\(mM s o).regs.length=s.m.regs.length/\(mM s o).mem.length=s.m.mem.length:=by
 unfold mM;split
 .exact⟨Nat.le_refl _,Nat.le_succ _,rfl,List.length_set⟩
 split
 .exact⟨by rw [List.length_drop];omega,Nat.le_succ _,rfl,rfl⟩
 split
 .exact⟨Nat.le_refl _,by rw [List.length_append];exact Nat.le_refl _,rfl,rfl⟩
 split
 .exact⟨Nat.le_refl _,Nat.le_succ _,List.length_set,rfl⟩
 .exact⟨Nat.le_refl _,Nat.le_succ _,rfl,rfl⟩
def arE(b:Blk)(s:MS)(o:IOp):(bO b s o).m.ins.length<=s.m.ins.length/\(bO b s o).m.outs.length<=s.m.outs.length+1/\(bO b s o).m.regs.length=s.m.regs.length/\(bO b s o).m.mem.length=s.m.mem.length:=by
 unfold bO;split
 .exact⟨Nat.le_refl _,Nat.le_succ _,rfl,rfl⟩
 split
 .exact⟨Nat.le_refl _,Nat.le_succ _,rfl,rfl⟩
 split
 .exact acF s o
 .exact acF s o
def Vz(b:Blk):∀(l:List IOp) (s:MS),(l.foldl (bO b) s).m.ins.length<=s.m.ins.length/\(l.foldl (bO b) s).m.outs.length<=s.m.outs.length+l.length/\(l.foldl (bO b) s).m.regs.length=s.m.regs.length/\(l.foldl (bO b) s).m.mem.length=s.m.mem.length
 | [],s=>⟨Nat.le_refl _,Nat.le_refl _,rfl,rfl⟩
 | o::l,s=>by
  rw [List.foldl_cons];have h:=Vz b l (bO b s o);have k:=arE b s o;simp only [List.length_cons];exact⟨ah,ah,ah,ah⟩
def VA{b:Blk}{m:aH}(hb:dO b)(hs:MSh m)(ho:m.outs.length<900000000):MSh (Af b (b.ops.foldl (bO b) ⟨m,[],false⟩)):=by
 have h:=Vz b b.ops ⟨m,[],false⟩;have sz:=hb.sz;obtain⟨s1,s2,s3,s4⟩:=hs;dsimp only at h;unfold Af;split<;>refine⟨?_,?_,?_,?_⟩<;>(try dsimp only)<;>omega
def SM(b:Blk)(m0:aH)(i:Nat):MS:=(b.ops.take i).foldl (bO b) ⟨m0,[],false⟩
structure RJ(b:Blk)(m0:aH)(i:Nat)(S:MS):Prop where
 e:S=SM b m0 i
 lf:S.left=false
 ln:S.vals.length=i
 wv:Wos S.vals
 ok:MOK S.m
 li:S.m.ins.length<1000000000
 lo:S.m.outs.length<=m0.outs.length+i
def VB{b:Blk}{m0:aH}{i:Nat}(hi:i<b.ops.length):SM b m0 (i+1)=bO b (SM b m0 i) (b.ops.getD i default):=by
 unfold SM;rw [List.take_succ_eq_append_getElem hi,List.foldl_append,getD_lt hi];rfl
def agF{b:Blk}{m0:aH}{i:Nat}{m:aH}{v:List Int}(h:SM b m0 i=⟨m,v,true⟩):b.ops.foldl (bO b) ⟨m0,[],false⟩=⟨m,v,true⟩:=by
 conv=>lhs;rw [<-List.take_append_drop i b.ops]
 rw [List.foldl_append,show(b.ops.take i).foldl (bO b) ⟨m0,[],false⟩=_ from h];exact JQ b m v _
def RJ.next{b:Blk}{m0:aH}{i:Nat}{S:MS}{o:IOp}(h:RJ b m0 i S)(hi:i<b.ops.length)(ho:b.ops.getD i default=o)(k1:o.kind=1->0<=o.k/\o.k<=65535)
  (c1:¬((o.kind=4\/o.kind=5)/\64<=vx S o)) (c2:¬(o.kind=5/\b.pc+o.at_+1<=vx S o/\vx S o<=b.pc+b.len-1)):RJ b m0 (i+1) ⟨mM S o,S.vals++ [mV S o],false⟩:=by
 have l:=acF S o;refine⟨?_,rfl,by rw [List.length_append,h.ln];rfl,h.wv.snoc (aij h.wv h.ok k1),aik h.wv h.ok o,by have:=h.li;dsimp only;omega,by have:=h.lo;dsimp only;omega⟩;rw [VB hi,<-h.e,ho];unfold bO;rw [if_neg (by rw [h.lf];decide),if_neg c1,if_neg c2]
def alX{l:List Int}{i n:Nat}(hl:l.length=i)(hi:i<n)(v:Int):(l++List.replicate (n-i) 0).set i v=(l++ [v])++List.replicate (n- (i+1)) 0:=by
 rw [List.set_append_right _ _ ah,hl,Nat.sub_self,show n-i=(n- (i+1))+1 by omega,List.replicate_succ,List.set_cons_zero,List.append_assoc];rfl
def agG{l:List Int}{i n:Nat}(hi:i<n):l++List.replicate (n-i) 0=(l++ [0])++List.replicate (n- (i+1)) 0:=by
 rw [show n-i=(n- (i+1))+1 by omega,List.replicate_succ,List.append_assoc];rfl
def arF{l:List Int}{i n:Nat}{x:Int}(hl:l.length=i)(h0:0<=x)(h:x<i):((l++List.replicate (n-i) 0).getD (x).toNat default)=((l).getD (x).toNat default):=by
 rw [List.getD_eq_getElem?_getD,List.getElem?_append_left ah,<-List.getD_eq_getElem?_getD]
def alY{l:List Int}{i n:Nat}(hl:l.length=i)(h:i<=n):(l++List.replicate (n-i) 0).length=n:=by
 rw [List.length_append,List.length_replicate];omega
def Sl(a b:Int):FV 1 a b=(inB a 0 65535&&inB b 0 65535&&decide (a=b)):=by unfold FV;simp
def Sn(a b:Int):FV 2 a b=(inB a 0 65535&&inB b 0 65535&&decide (a<b)):=by unfold FV;simp
def RT(b:Blk)(m0:aH)(y:List IOp×Int×Int×Int×Int×Bool×Bool×Int×List Int×Int×List Int×List Int×Blk×List Int×List Int×Unit):Prop:=
 ∃(i:Nat) (S:MS),i<=b.ops.length/\RJ b m0 i S/\y=(b.ops,(b.ops.length:Int),(i:Int),S.m.pc,S.m.save,S.m.dV,S.m.waits,S.m.halt,S.m.ins,S.m.count,S.m.regs,S.m.mem,b,S.vals++List.replicate (b.ops.length-i) 0,S.m.outs,())
def RT.next{b:Blk}{m0:aH}{i:Nat}{S:MS}{o:IOp}{y:List IOp×Int×Int×Int×Int×Bool×Bool×Int×List Int×Int×List Int×List Int×Blk×List Int×List Int×Unit}(h:RJ b m0 i S)(hi:i<b.ops.length)(ho:b.ops.getD i default=o)(k1:o.kind=1->0<=o.k/\o.k<=65535)
  (c1:¬((o.kind=4\/o.kind=5)/\64<=vx S o)) (c2:¬(o.kind=5/\b.pc+o.at_+1<=vx S o/\vx S o<=b.pc+b.len-1))
  (e:y=(b.ops,(b.ops.length:Int),(i:Int)+1,(mM S o).pc,(mM S o).save,(mM S o).dV,(mM S o).waits,(mM S o).halt,(mM S o).ins,(mM S o).count,(mM S o).regs,(mM S o).mem,b,(S.vals++ [mV S o])++List.replicate (b.ops.length- (i+1)) 0,(mM S o).outs,())):
  RT b m0 y/\(b.ops.length-y.2.2.1).toNat< (b.ops.length- (i:Int)).toNat:=by
 subst e;exact⟨⟨i+1,_,hi,h.next hi ho k1 c1 c2,rfl⟩,by dsimp only;omega⟩
structure auK(pp:Int×Int×Bool×Bool×Int×List Int×Int×List Int×List Int×List Int×Unit->Bool)(ff:Int×Int×Bool×Bool×Int×List Int×Int×List Int×List Int×List Int×Unit->Int×Int×Int×Bool×Bool×Int×List Int×Int×List Int×List Int×List Int×Unit):Prop where
 hp:∀(pc sv:Int) (lt wt:Bool) (ha:Int) (ins:List Int) (ct:Int) (regs mem outs:List Int),ins.length<1000000000->pp (pc,sv,lt,wt,ha,ins,ct,regs,mem,outs,())=true
 hf:∀(pc sv:Int) (lt wt:Bool) (ha:Int) (ins:List Int) (ct:Int) (regs mem outs:List Int),ins.length<1000000000->ff (pc,sv,lt,wt,ha,ins,ct,regs,mem,outs,())=(ins.getD 0 default,pc,sv,lt,wt,ha,ins.drop 1,ct,regs,mem,outs,())
set_option maxHeartbeats 2000000 in
theorem arG{p1 f1 p2 f2 p3 f3 p4 f4}(U1:auK p1 f1)(U2:Y24 p2 f2)(U3:Y59 p3 f3)(U4:Y1 p4 f4)(b:Blk)(m:aH)(hb:dO b)(hm:MOK m)(hs:MSh m)(ho:m.outs.length<900000000):abn.F (p1,f1,p2,f2,p3,f3,p4,f4,()) (b,m.pc,m.save,m.dV,m.waits,m.halt,m.ins,m.count,m.regs,m.mem,m.outs,()) (λy=>y=mB (Af b (b.ops.foldl (bO b) ⟨m,[],false⟩))):=by
 obtain⟨hp1,hf1⟩:=U1;obtain⟨hp2,hf2⟩:=U2;obtain⟨hp3,hf3⟩:=U3;obtain⟨hp4,hf4⟩:=U4;have sz:=hb.sz;dsimp only [abn,gm];simp (disch:=omega) only [RR,RB];refine⟨ah,ah,ak (RT b m) (λy=>(b.ops.length-y.2.2.1).toNat) ⟨0,⟨m,[],false⟩,Nat.zero_le _,⟨rfl,rfl,rfl,(by intro n hn;cases hn),hm,hs.2.2.1,Nat.le_add_right _ _⟩,rfl⟩ ?_⟩;rintro y ⟨i,S,hi,R,rfl⟩;dsimp only;have ok:=R.ok;have pw:0<=S.m.pc/\S.m.pc<=65535:=ok.pc;have cw:=ok.ct;have bl:=hb.ln;have bp':=hb.pc;have en:=hb.en;by_cases h7:i<b.ops.length
 case neg=>
  have ei:i=b.ops.length:=by omega
  have eS:b.ops.foldl (bO b) ⟨m,[],false⟩=S:=by rw [R.e,ei];unfold SM;rw [List.take_of_length_le (Nat.le_refl _)]
  have vl:(S.vals++List.replicate (b.ops.length-i) 0)=S.vals:=by rw [ei,Nat.sub_self];simp
  have ln:=R.ln;rw [eS];unfold Af;rw [R.lf,if_neg (by decide)];rw [vl];have hf:=en.f;have x1:=en.x1;have y1:=en.y1;unfold Vl at x1 y1;have hh:¬((i:Int)<b.ops.length):=by omega
  rcases(by omega:b.fin=1\/b.fin=2\/b.fin=3\/b.fin=4)with f | f | f | f
  all_goals simp (disch:=omega) only [RR,RB,f,Int.reduceEq,Int.reduceSub,Int.reduceAdd,hp3,hf3,false_and,hh]
  .have v:=x1 ah;exact⟨v.1,ah,v.1,ah⟩
  .have v:=x1 ah;have w:=y1 ah;refine⟨v.1,ah,v.1,ah,w.1,ah,w.1,ah,λh=> ?_,λh=> ?_⟩
   .rw [if_pos (by rw [Sl,h.1.1,h.1.2,h.2];simp)]
   .rw [if_neg (by rw [Sl,h];decide)]
  .have v:=x1 ah;have w:=y1 ah;refine⟨v.1,ah,v.1,ah,w.1,ah,w.1,ah,λh=> ?_,λh=> ?_⟩
   .rw [if_pos (by rw [Sn,h.1.1,h.1.2];simpa using h.2)]
   .rw [if_neg (by rw [Sn,h];decide)]
 have hop:=hb.op i ah ah;have eT:((i:Int)).toNat=i:=rfl;generalize hq:((b.ops).getD ((i:Int)).toNat default)=o at*;rw [eT]at hq;have kd:=hop.kd;have x1:=hop.x1;have y1:=hop.y1;unfold Vl at x1 y1;have k1:=hop.k1;have k2:=hop.k2;have k3:=hop.k3;have a1:=hop.a1;have a0:=hop.a0;have ln:=R.ln;have rl:=alY (n:=b.ops.length) ln hi;have nx:=λ{y} c1 c2 e=>RT.next (y:=y) R h7 hq k1 c1 c2 e
 have vs:∀v:Int,(S.vals++List.replicate (b.ops.length-i) 0).set i v=(S.vals++ [v])++List.replicate (b.ops.length- (i+1)) 0:=λv=>alX ln h7 v
 have v0:(S.vals++List.replicate (b.ops.length-i) 0)=(S.vals++ [0])++List.replicate (b.ops.length- (i+1)) 0:=agG h7;have va:∀x:Int,0<=x->x<i->((S.vals++List.replicate (b.ops.length-i) 0).getD (x).toNat default)=((S.vals).getD (x).toNat default):=λx a c=>arF ln a c
 have xb:0< (i:Int)->0<=o.x/\o.x<b.ops.length:=λ_=>by
  by_cases h:hX o
  .have:=x1 h;omega
  .have:=hop.x0 h;omega
 have yb:0< (i:Int)->0<=o.y/\o.y<b.ops.length:=λ_=>by
  by_cases h:hY o
  .have:=y1 h;omega
  .have:=hop.y0 h;omega
 have lv:∀mm:aH,bO b S o=⟨mm,S.vals,true⟩->b.ops.foldl (bO b) ⟨m,[],false⟩=⟨mm,S.vals,true⟩:=λmm h=>agF (i:=i+1) (by rw [VB h7,<-R.e,hq];exact h)
 have m64:=ok.m64;have r4:=ok.r4;have lo:=R.lo;have li:=R.li;have i0:(0:Int)<=i:=by omega
 have i1:(i:Int)<b.ops.length:=by omega
 generalize hV:S.vals++List.replicate (b.ops.length-i) 0=V at*;by_cases hz:0< (i:Int)
 case neg=>
  have nX:¬hX o:=λh=>by have:=x1 h;omega
  rcases(by omega:o.kind=1\/o.kind=2\/o.kind=6)with k | k | k
  .simp (disch:=omega) only [RR,RB,hq,eT,hz,k,Int.reduceEq,false_and,decide_false,decide_true,Bool.or_false,Bool.false_or,Bool.false_and,Bool.true_and,Bool.true_or,Bool.or_true,or_self,rl,i0,i1];exact nx (λh=>by omega) (λh=>by omega) (by rw [vs];simp [mM,mV,k])
  .have g:=k2 (Or.inl k);simp (disch:=omega) only [RR,RB,hq,eT,hz,k,Int.reduceEq,false_and,decide_false,decide_true,Bool.or_false,Bool.false_or,Bool.false_and,Bool.true_and,Bool.true_or,Bool.or_true,or_self,rl,i0,i1,r4];exact⟨g.1,ah,g.1,ah,nx (λh=>by omega) (λh=>by omega) (by rw [vs];simp [mM,mV,k])⟩
  .simp (disch:=omega) only [RR,RB,hq,eT,hz,k,Int.reduceEq,false_and,decide_false,decide_true,Bool.or_false,Bool.false_or,Bool.false_and,Bool.true_and,Bool.true_or,Bool.or_true,or_self,rl,i0,i1,hp1 _ _ _ _ _ _ _ _ _ _ li,hf1 _ _ _ _ _ _ _ _ _ _ li];exact nx (λh=>by omega) (λh=>by omega) (by rw [vs];simp [mM,mV,k])
 obtain⟨xb0,xb1⟩:=xb hz;obtain⟨yb0,yb1⟩:=yb hz;have ex:hX o->((V).getD (o.x).toNat default)=vx S o:=λh=>by
  have:=x1 h;unfold vx;rw [if_pos h];exact va o.x this.1 this.2.1
 have ey:hY o->((V).getD (o.y).toNat default)=vy S o:=λh=>by
  have:=y1 h;unfold vy;rw [if_pos h];exact va o.y this.1 this.2.1
 have wx:=acE R.wv o;have wy:=aii R.wv o;generalize hX':((V).getD (o.x).toNat default)=X at*;generalize hY':((V).getD (o.y).toNat default)=Y at*;rcases(by omega:o.kind=1\/o.kind=2\/o.kind=3\/o.kind=4\/o.kind=5\/o.kind=6\/o.kind=7\/o.kind=8)with k | k | k | k | k | k | k | k
 .simp (disch:=omega) only [RR,RB,hq,eT,hz,k,Int.reduceEq,false_and,decide_false,decide_true,Bool.or_false,Bool.false_or,Bool.false_and,Bool.true_and,Bool.true_or,Bool.or_true,or_self,rl,i0,i1,xb0,xb1,yb0,yb1,hX',hY'];exact nx (λh=>by omega) (λh=>by omega) (by rw [vs];simp [mM,mV,k])
 .have g:=k2 (Or.inl k);simp (disch:=omega) only [RR,RB,hq,eT,hz,k,Int.reduceEq,false_and,decide_false,decide_true,Bool.or_false,Bool.false_or,Bool.false_and,Bool.true_and,Bool.true_or,Bool.or_true,or_self,rl,i0,i1,xb0,xb1,yb0,yb1,hX',hY',r4];exact⟨g.1,ah,g.1,ah,nx (λh=>by omega) (λh=>by omega) (by rw [vs];simp [mM,mV,k])⟩
 .have e1:=ex (by unfold hX;omega);have e2:=ey (Or.inl k);simp (disch:=omega) only [RR,RB,hq,eT,hz,k,Int.reduceEq,false_and,decide_false,decide_true,Bool.or_false,Bool.false_or,Bool.false_and,Bool.true_and,Bool.true_or,Bool.or_true,or_self,rl,i0,i1,xb0,xb1,yb0,yb1,hX',hY',hp2,hf2];exact nx (λh=>by omega) (λh=>by omega) (by rw [vs];simp [mM,mV,k,e1,e2])
 .have e1:=ex (by unfold hX;omega);have g:=a1 (by unfold evO;omega);unfold Wo at wx;simp (disch:=omega) only [RR,RB,hq,eT,hz,k,Int.reduceEq,false_and,decide_false,decide_true,Bool.or_false,Bool.false_or,Bool.false_and,Bool.true_and,Bool.true_or,Bool.or_true,or_self,rl,i0,i1,xb0,xb1,yb0,yb1,hX',hY',m64];refine⟨λh=> ?_,λh=> ?_⟩
  .rw [lv (leave S.m o.at_ 3) (by unfold bO;rw [if_neg (by rw [R.lf];decide),if_pos ⟨Or.inl k,ah⟩])];simp [Af,leave,mB]
  .exact⟨ah,ah,ah,ah,nx (λh=>by omega) (λh=>by omega) (by rw [vs];simp [mM,mV,k,e1])⟩
 .have e1:=ex (by unfold hX;omega);have e2:=ey (Or.inr k);have g:=a1 (by unfold evO;omega);unfold Wo at wx;simp (disch:=omega) only [RR,RB,hq,eT,hz,k,Int.reduceEq,false_and,decide_false,decide_true,Bool.or_false,Bool.false_or,Bool.false_and,Bool.true_and,Bool.true_or,Bool.or_true,or_self,rl,i0,i1,xb0,xb1,yb0,yb1,hX',hY',m64,hp4,hf4,bQ,jh];refine⟨λh=> ?_,λh=>⟨ah,ah,ah,ah,λh2=> ?_,λh2=> ?_⟩⟩
  .rw [lv (leave S.m o.at_ 3) (by unfold bO;rw [if_neg (by rw [R.lf];decide),if_pos ⟨Or.inr k,ah⟩])];simp [Af,leave,mB]
  .rw [lv (leave (mM S o) (o.at_+1) (mM S o).halt) (by unfold bO;rw [if_neg (by rw [R.lf];decide),if_neg ah,if_pos ⟨k,ah⟩])];simp [Af,leave,mM,mB,k,e1,e2]
  .exact nx (λh=>by omega) (λh=>by omega) (by rw [v0];simp [mM,mV,k,e1,e2])
 .simp (disch:=omega) only [RR,RB,hq,eT,hz,k,Int.reduceEq,false_and,decide_false,decide_true,Bool.or_false,Bool.false_or,Bool.false_and,Bool.true_and,Bool.true_or,Bool.or_true,or_self,rl,i0,i1,xb0,xb1,yb0,yb1,hX',hY',hp1 _ _ _ _ _ _ _ _ _ _ li,hf1 _ _ _ _ _ _ _ _ _ _ li];exact nx (λh=>by omega) (λh=>by omega) (by rw [vs];simp [mM,mV,k])
 .have e1:=ex (by unfold hX;omega);simp (disch:=omega) only [RR,RB,hq,eT,hz,k,Int.reduceEq,false_and,decide_false,decide_true,Bool.or_false,Bool.false_or,Bool.false_and,Bool.true_and,Bool.true_or,Bool.or_true,or_self,rl,i0,i1,xb0,xb1,yb0,yb1,hX',hY',List.length_cons,List.length_nil];exact⟨ah,nx (λh=>by omega) (λh=>by omega) (by rw [v0];simp [mM,mV,k,e1])⟩
 .have e1:=ex (by unfold hX;omega);have g:=k2 (Or.inr k);simp (disch:=omega) only [RR,RB,hq,eT,hz,k,Int.reduceEq,false_and,decide_false,decide_true,Bool.or_false,Bool.false_or,Bool.false_and,Bool.true_and,Bool.true_or,Bool.or_true,or_self,rl,i0,i1,xb0,xb1,yb0,yb1,hX',hY',r4];exact⟨g.1,ah,g.1,ah,nx (λh=>by omega) (λh=>by omega) (by rw [v0];simp [mM,mV,k,e1])⟩
structure alZ(pp:aH×Unit->Bool)(ff:aH×Unit->Int×Int×Bool×Bool×Int×Int×List Int×List Int×List Int×List Int×Unit):Prop where
 hp:∀m,MSh m->pp (m,())=true
 hf:∀m,MSh m->ff (m,())=m10 m
structure agH(pp:aH×Unit->Bool)(ff:aH×Unit->Bool×Unit):Prop where
 hp:∀m,MSh m->pp (m,())=true
 hf:∀m,MSh m->ff (m,())=(bp (MOK m),())
theorem arH{p2 f2 p3 f3 p4 f4}{p1:Blk×Int×Int×Bool×Bool×Int×List Int×Int×List Int×List Int×List Int×Unit->Bool}{f1:Blk×Int×Int×Bool×Bool×Int×List Int×Int×List Int×List Int×List Int×Unit->Int×Int×Bool×Bool×Int×List Int×Int×List Int×List Int×List Int×Unit}(hp1:∀(b:Blk) (m:aH),dO b->MOK m->MSh m->m.outs.length<900000000->p1 (b,m.pc,m.save,m.dV,m.waits,m.halt,m.ins,m.count,m.regs,m.mem,m.outs,())=true)(hf1:∀(b:Blk) (m:aH),dO b->MOK m->MSh m->m.outs.length<900000000->f1 (b,m.pc,m.save,m.dV,m.waits,m.halt,m.ins,m.count,m.regs,m.mem,m.outs,())=mB (Af b (b.ops.foldl (bO b) ⟨m,[],false⟩)))(U2:Y60 p2 f2)(U3:alZ p3 f3)(U4:agH p4 f4)(b:Blk)(m:aH)(hb:b.ops.length<1000000000)(hs:MSh m)(ho:m.outs.length<900000000):abo.F (p1,f1,p2,f2,p3,f3,p4,f4,()) (b,m,()) (λy=>y=mR (iX b m)):=by
 obtain⟨hp2,hf2⟩:=U2;obtain⟨hp3,hf3⟩:=U3;obtain⟨hp4,hf4⟩:=U4;have mM':∀m:aH,Co.mk .iK (m.regs,m.pc,m.mem,m.save,m.dV,m.waits,m.halt,m.ins,m.outs,m.count,())=m:=λ_=>rfl
 unfold m10 at hf3;unfold mB at hf1;dsimp only [abo,gm,XH]at*;simp (disch:=omega) only [RR,RB,MRB,hp2 b hb,hf2 b hb,hp4 m hs,hf4 m hs,hp3 m hs,hf3 m hs];unfold iX;by_cases c:dO b/\MOK m
 case neg=>
  rw [bJ c];by_cases c1:dO b
  .simp [aU c1,bJ (λg=>c ⟨c1,g⟩),JO]
  .simp [bJ c1,JO]
 rw [aU c];obtain⟨c1,c2⟩:=c;have bl:=c1.ln;have sh:=VA c1 hs ho;simp (disch:=omega) only [RR,aU c1,aU c2,hp1 b m c1 c2 hs ho,hf1 b m c1 c2 hs ho,mM',hp3 _ sh,hf3 _ sh];refine⟨λh=> ?_,λh=> ?_⟩
 .rw [if_pos (show m.halt≠0\/m.pc≠b.pc\/1000000-b.len<m.count from h.elim (λg=>g.elim Or.inl λk=>Or.inr (Or.inl k)) λk=>Or.inr (Or.inr k))]
 .rw [if_neg (show¬(m.halt≠0\/m.pc≠b.pc\/1000000-b.len<m.count)from λg=>g.elim (λk=>k h.1.1) λg=>g.elim (λk=>k h.1.2) λk=>h.2 k)]
structure arI(pp:Int×Unit->Bool)(ff:Int×Unit->Bool×Unit):Prop where
 hp:∀a,pp (a,())=true
 hf:∀a,ff (a,())=(inB a 11 13,())
structure agI(pp:Ins×Unit->Bool)(ff:Ins×Unit->Bool×Unit):Prop where
 hp:∀i,pp (i,())=true
 hf:∀i,ff (i,())=(bp (dL i),())
structure avq(pp:Int×Int×Int×Int×Int×Int×Int×Int×Int×Int×Int×List IOp×Unit->Bool)(ff:Int×Int×Int×Int×Int×Int×Int×Int×Int×Int×Int×List IOp×Unit->Int×Int×Int×Int×Int×Int×Int×Int×List IOp×Unit):Prop where
 hp:∀(kd x y k a1 a2 a3 a4 a5 a6 a:Int) (ops:List IOp),ops.length<1000000->pp (kd,x,y,k,a1,a2,a3,a4,a5,a6,a,ops,())=true
 hf:∀(kd x y k a1 a2 a3 a4 a5 a6 a:Int) (ops:List IOp),ops.length<1000000->ff (kd,x,y,k,a1,a2,a3,a4,a5,a6,a,ops,())=((ops.length:Int),a1,a2,a3,a4,a5,a6,a,ops++ [⟨kd,x,y,k,if 4<=kd/\kd<=7 then a else 0⟩],())
def acG(n b:Int)(i:Ins):(gu n b i).length<=5:=by
 unfold gu;repeat' split
 all_goals simp only [List.length_cons,List.length_nil]
 all_goals omega
def acH(n:Int)(b:Blk)(i:Ins):(iI n b i).ops.length<=b.ops.length+5:=by
 have:=acG n b.ops.length i;unfold iI;repeat' split
 all_goals (dsimp only;rw [List.length_append];omega)
def BZ:∀(l:List Ins) (n:Int) (b:Blk) (i:Ins),oU n b (l++ [i])=iI (n+l.length) (oU n b l) i
 | [],n,b,i=>by simp [oU]
 | j::l,n,b,i=>by
  show oU (n+1) (iI n b j) (l++ [i])=iI _ (oU (n+1) (iI n b j) l) i;rw [BZ l (n+1) (iI n b j) i,List.length_cons,show n+1+(l.length:Int)=n+((l.length+1:Nat):Int) by omega]
def FW:∀(l:List Ins) (n:Int) (b:Blk),(oU n b l).ops.length<=b.ops.length+5*l.length
 | [],_,_=>Nat.le_refl _
 | i::l,n,b=>by
  show(oU (n+1) (iI n b i) l).ops.length<=_;have:=FW l (n+1) (iI n b i);have:=acH n b i;rw [List.length_cons];omega
structure avr(pp:Int×List Ins×Unit->Bool)(ff:Int×List Ins×Unit->Bool×Unit):Prop where
 hp:∀pc l,l.length<1000000000->pp (pc,l,())=true
 hf:∀pc l,l.length<1000000000->ff (pc,l,())=(bp (xg pc l),())
def OKS(ops:List IOp)(len:Int):Prop:=∀j:Int,0<=j->j<ops.length->mH ops len j ((ops).getD (j).toNat default)
theorem arJ{ops w:List IOp}{x:Int}(h0:0<=x)(h:x<ops.length):((ops++w).getD (x).toNat default)=((ops).getD (x).toNat default):=by
 rw [List.getD_eq_getElem?_getD,List.getElem?_append_left ah,<-List.getD_eq_getElem?_getD]
theorem arK{ops w:List IOp}{t:Nat}:((ops++w).getD ((ops.length:Int)+t).toNat default)=w.getD t default:=by
 rw [List.getD_eq_getElem?_getD,List.getElem?_append_right ah,<-List.getD_eq_getElem?_getD,show((ops.length:Int)+t).toNat-ops.length=t by omega]
theorem Vl.mono{ops w:List IOp}{x n n':Int}(h:Vl ops x n)(h1:n<=ops.length)(h2:n<=n'):Vl (ops++w) x n':=by
 obtain⟨a,b,c⟩:=h;exact⟨a,ah,by rw [arJ a ah];exact c⟩
theorem mH.mono{ops w:List IOp}{len i:Int}{o:IOp}(h:mH ops len i o)(h1:i<=ops.length):mH (ops++w) len i o:=
 {h with x1:=λg=>(h.x1 g).mono h1 (Int.le_refl _),y1:=λg=>(h.y1 g).mono h1 (Int.le_refl _)}
theorem OKS.app{ops w:List IOp}{len:Int}(h:OKS ops len)(hw:∀t:Nat,t<w.length->mH (ops++w) len ((ops.length:Int)+t) (w.getD t default)):OKS (ops++w) len:=λj j0 j1=>by
 rw [List.length_append]at j1;by_cases c:j<ops.length
 .rw [arJ j0 c];exact(h j j0 c).mono ah
 .obtain⟨t,rfl⟩:∃t:Nat,j=(ops.length:Int)+t:=⟨(j-ops.length).toNat,ah⟩;rw [arK];exact hw t ah
theorem VD(ops w:List IOp)(s t:Nat)(h:s<t)(m:mkV (w.getD s default)):Vl (ops++w) ((ops.length:Int)+s) ((ops.length:Int)+t):=⟨ah,ah,by rw [arK];exact m⟩
section
variable {ops:List IOp} {len i x y k n:Int}
theorem ok1(h:0<=k/\k<=65535):mH ops len i ⟨1,0,0,k,0⟩:=by constructor<;>simp [hX,hY,evO]<;>omega
theorem ok2(h:0<=k/\k<=3):mH ops len i ⟨2,0,0,k,0⟩:=by constructor<;>simp [hX,hY,evO]<;>omega
theorem ok3(h:1<=k/\k<=5)(hx:Vl ops x i)(hy:Vl ops y i):mH ops len i ⟨3,x,y,k,0⟩:=by constructor<;>simp [hX,hY,evO,hx,hy]<;>omega
theorem ok4(h:0<=n/\n<len)(hx:Vl ops x i):mH ops len i ⟨4,x,0,0,n⟩:=by constructor<;>simp [hX,hY,evO,hx]<;>omega
theorem ok5(h:0<=n/\n<len)(hx:Vl ops x i)(hy:Vl ops y i):mH ops len i ⟨5,x,y,0,n⟩:=by constructor<;>simp [hX,hY,evO,hx,hy]<;>omega
theorem ok6(h:0<=n/\n<len):mH ops len i ⟨6,0,0,0,n⟩:=by constructor<;>simp [hX,hY,evO]<;>omega
theorem ok7(h:0<=n/\n<len)(hx:Vl ops x i):mH ops len i ⟨7,x,0,0,n⟩:=by constructor<;>simp [hX,hY,evO,hx]<;>omega
theorem ok8(h:0<=k/\k<=3)(hx:Vl ops x i):mH ops len i ⟨8,x,0,k,0⟩:=by constructor<;>simp [hX,hY,evO,hx]<;>omega
end
theorem VE{ops:List IOp}{len n:Int}{i:Ins}(h:OKS ops len)(hi:dL i)(h0:i.op≠0)(hn:0<=n/\n<len):OKS (ops++gu n ops.length i) len/\
  (i.op=11\/i.op=12->Vl (ops++gu n ops.length i) ops.length ((ops++gu n ops.length i).length)/\Vl (ops++gu n ops.length i) (ops.length+1) ((ops++gu n ops.length i).length))/\
  (i.op=13->Vl (ops++gu n ops.length i) ops.length ((ops++gu n ops.length i).length)):=by
 obtain⟨⟨o0,o1⟩,⟨d0,d1⟩,⟨a0,a1⟩,k0,_,r1,r2,r3,r8,r9,r13,r14⟩:=hi;have v0:=λ(w:List IOp) (t:Nat) (h:0<t) (m:mkV (w.getD 0 default))=>show Vl (ops++w) (ops.length:Int) ((ops.length:Int)+t)from by have:=VD ops w 0 t h m;rwa [Int.natCast_zero,Int.add_zero]at this
 have v1:=λ(w:List IOp) (t:Nat) (h:1<t) (m:mkV (w.getD 1 default))=>VD ops w 1 t h m
 have v2:=λ(w:List IOp) (t:Nat) (h:2<t) (m:mkV (w.getD 2 default))=>VD ops w 2 t h m
 have v3:=λ(w:List IOp) (t:Nat) (h:3<t) (m:mkV (w.getD 3 default))=>VD ops w 3 t h m
 have m1:∀a b c d:Int,mkV ⟨1,a,b,c,d⟩:=λ_ _ _ _=>by unfold mkV;dsimp only;omega
 have m2:∀a b c d:Int,mkV ⟨2,a,b,c,d⟩:=λ_ _ _ _=>by unfold mkV;dsimp only;omega
 have m3:∀a b c d:Int,mkV ⟨3,a,b,c,d⟩:=λ_ _ _ _=>by unfold mkV;dsimp only;omega
 have m4:∀a b c d:Int,mkV ⟨4,a,b,c,d⟩:=λ_ _ _ _=>by unfold mkV;dsimp only;omega
 have m6:∀a b c d:Int,mkV ⟨6,a,b,c,d⟩:=λ_ _ _ _=>Or.inr rfl
 rcases(by omega:i.op=1\/i.op=2\/(3<=i.op/\i.op<=7)\/i.op=8\/i.op=9\/i.op=10\/(i.op=11\/i.op=12)\/i.op=13\/i.op=14\/i.op=15)with c | c | c | c | c | c | c | c | c | c
 .have e:gu n ops.length i=[⟨1,0,0,i.k,0⟩,⟨8,ops.length,0,i.d,0⟩]:=by unfold gu;rw [if_pos c]
  rw [e];refine⟨h.app λt ht=> ?_,λg=>by omega,λg=>by omega⟩;rcases t with _ | _ | t
  .exact ok1 (by have:=r1 c;omega)
  .exact ok8 ⟨d0,d1⟩ (v0 _ 1 (by decide) (m1 _ _ _ _))
  .simp only [List.length_cons,List.length_nil]at ht;omega
 .have e:gu n ops.length i=[⟨2,0,0,i.a,0⟩,⟨8,ops.length,0,i.d,0⟩]:=by unfold gu;rw [if_neg ah,if_pos c]
  rw [e];refine⟨h.app λt ht=> ?_,λg=>by omega,λg=>by omega⟩;rcases t with _ | _ | t
  .exact ok2 ⟨a0,a1⟩
  .exact ok8 ⟨d0,d1⟩ (v0 _ 1 (by decide) (m2 _ _ _ _))
  .simp only [List.length_cons,List.length_nil]at ht;omega
 .have e:gu n ops.length i=[⟨2,0,0,i.a,0⟩,⟨2,0,0,i.k,0⟩,⟨3,ops.length,ops.length+1,i.op-2,0⟩,⟨8,ops.length+2,0,i.d,0⟩]:=by
   unfold gu
   iterate 9 rw [if_neg ah]
  rw [e];refine⟨h.app λt ht=> ?_,λg=>by omega,λg=>by omega⟩;rcases t with _ | _ | _ | _ | t
  .exact ok2 ⟨a0,a1⟩
  .exact ok2 ⟨k0,r3 c⟩
  .exact ok3 ah (v0 _ 2 (by decide) (m2 _ _ _ _)) (v1 _ 2 (by decide) (m2 _ _ _ _))
  .exact ok8 ⟨d0,d1⟩ (v2 _ 3 (by decide) (m3 _ _ _ _))
  .simp only [List.length_cons,List.length_nil]at ht;omega
 .have e:gu n ops.length i=[⟨2,0,0,i.a,0⟩,⟨1,0,0,2^i.k.toNat,0⟩,⟨3,ops.length,ops.length+1,3,0⟩,⟨8,ops.length+2,0,i.d,0⟩]:=by
   unfold gu;rw [if_neg ah,if_neg ah,if_pos c]
  rw [e];refine⟨h.app λt ht=> ?_,λg=>by omega,λg=>by omega⟩;rcases t with _ | _ | _ | _ | t
  .exact ok2 ⟨a0,a1⟩
  .exact ok1 (acD k0 (r8 c))
  .exact ok3 (by decide) (v0 _ 2 (by decide) (m2 _ _ _ _)) (v1 _ 2 (by decide) (m1 _ _ _ _))
  .exact ok8 ⟨d0,d1⟩ (v2 _ 3 (by decide) (m3 _ _ _ _))
  .simp only [List.length_cons,List.length_nil]at ht;omega
 .have e:gu n ops.length i=[⟨2,0,0,i.a,0⟩,⟨1,0,0,i.k,0⟩,⟨3,ops.length,ops.length+1,1,0⟩,⟨4,ops.length+2,0,0,n⟩,⟨8,ops.length+3,0,i.d,0⟩]:=by
   unfold gu;rw [if_neg ah,if_neg ah,if_neg ah,if_pos c]
  have r:=r9 ah;rw [e];refine⟨h.app λt ht=> ?_,λg=>by omega,λg=>by omega⟩;rcases t with _ | _ | _ | _ | _ | t
  .exact ok2 ⟨a0,a1⟩
  .exact ok1 ah
  .exact ok3 (by decide) (v0 _ 2 (by decide) (m2 _ _ _ _)) (v1 _ 2 (by decide) (m1 _ _ _ _))
  .exact ok4 hn (v2 _ 3 (by decide) (m3 _ _ _ _))
  .exact ok8 ⟨d0,d1⟩ (v3 _ 4 (by decide) (m4 _ _ _ _))
  .simp only [List.length_cons,List.length_nil]at ht;omega
 .have e:gu n ops.length i=[⟨2,0,0,i.a,0⟩,⟨1,0,0,i.k,0⟩,⟨3,ops.length,ops.length+1,1,0⟩,⟨2,0,0,i.d,0⟩,⟨5,ops.length+2,ops.length+3,0,n⟩]:=by
   unfold gu;rw [if_neg ah,if_neg ah,if_neg ah,if_neg ah,if_pos c]
  have r:=r9 ah;rw [e];refine⟨h.app λt ht=> ?_,λg=>by omega,λg=>by omega⟩;rcases t with _ | _ | _ | _ | _ | t
  .exact ok2 ⟨a0,a1⟩
  .exact ok1 ah
  .exact ok3 (by decide) (v0 _ 2 (by decide) (m2 _ _ _ _)) (v1 _ 2 (by decide) (m1 _ _ _ _))
  .exact ok2 ⟨d0,d1⟩
  .exact ok5 hn (v2 _ 4 (by decide) (m3 _ _ _ _)) (v3 _ 4 (by decide) (m2 _ _ _ _))
  .simp only [List.length_cons,List.length_nil]at ht;omega
 .have e:gu n ops.length i=[⟨2,0,0,i.d,0⟩,⟨2,0,0,i.a,0⟩]:=by
   unfold gu
   iterate 7 rw [if_neg ah]
   rw [if_pos c]
  have el:∀a b:IOp,(((ops++ [a,b]).length:Nat):Int)=(ops.length:Int)+((2:Nat):Int):=λa b=>by rw [List.length_append];rfl
  rw [e];refine⟨h.app λt ht=> ?_,λg=> ?_,λg=>by omega⟩
  .rcases t with _ | _ | t
   .exact ok2 ⟨d0,d1⟩
   .exact ok2 ⟨a0,a1⟩
   .simp only [List.length_cons,List.length_nil]at ht;omega
  .rw [el];exact⟨v0 _ 2 (by decide) (m2 _ _ _ _),v1 _ 2 (by decide) (m2 _ _ _ _)⟩
 .have e:gu n ops.length i=[⟨2,0,0,i.a,0⟩]:=by
   unfold gu
   iterate 8 rw [if_neg ah]
   rw [if_pos c]
  have el:∀a:IOp,(((ops++ [a]).length:Nat):Int)=(ops.length:Int)+((1:Nat):Int):=λa=>by rw [List.length_append];rfl
  rw [e];refine⟨h.app λt ht=> ?_,λg=>by omega,λg=> ?_⟩
  .rcases t with _ | t
   .exact ok2 ⟨a0,a1⟩
   .simp only [List.length_cons,List.length_nil]at ht;omega
  .rw [el];exact v0 _ 1 (by decide) (m2 _ _ _ _)
 .have e:gu n ops.length i=[⟨2,0,0,i.d,0⟩,⟨7,ops.length,0,0,n⟩]:=by
   unfold gu
   iterate 5 rw [if_neg ah]
   rw [if_pos c]
  rw [e];refine⟨h.app λt ht=> ?_,λg=>by omega,λg=>by omega⟩;rcases t with _ | _ | t
  .exact ok2 ⟨d0,d1⟩
  .exact ok7 hn (v0 _ 1 (by decide) (m2 _ _ _ _))
  .simp only [List.length_cons,List.length_nil]at ht;omega
 .have e:gu n ops.length i=[⟨6,0,0,0,n⟩,⟨8,ops.length,0,i.d,0⟩]:=by
   unfold gu
   iterate 6 rw [if_neg ah]
   rw [if_pos c]
  rw [e];refine⟨h.app λt ht=> ?_,λg=>by omega,λg=>by omega⟩;rcases t with _ | _ | t
  .exact ok6 hn
  .exact ok8 ⟨d0,d1⟩ (v0 _ 1 (by decide) (m6 _ _ _ _))
  .simp only [List.length_cons,List.length_nil]at ht;omega
end Go.TX.F
namespace Go.TX.F
open Go Go.AE Go.TX
def Mid(i:Ins):Prop:=dL i/\i.op≠0/\¬(11<=i.op/\i.op<=13)
def acI{n:Int}{b:Blk}{i:Ins}(h:Mid i):iI n b i={b with ops:=b.ops++gu n b.ops.length i}:=by
 obtain⟨_,_,h3⟩:=h;unfold iI;rw [if_neg ah,if_neg ah]
def Mw:∀(r:List Ins) (n:Int) (b:Blk),(∀i∈r,Mid i)->OKS b.ops b.len->0<=n->n+r.length<=b.len->OKS (oU n b r).ops b.len/\oU n b r={b with ops:=(oU n b r).ops}
 | [],n,b,_,h,_,_=>⟨h,rfl⟩
 | i::r,n,b,hr,h,h0,h1=>by
  have hi:=hr i (List.mem_cons_self ..);simp only [List.length_cons]at h1;have k:=VE (n:=n) h hi.1 hi.2.1 ⟨h0,ah⟩;have e:=acI (n:=n) (b:=b) hi;show OKS (oU (n+1) (iI n b i) r).ops b.len/\oU (n+1) (iI n b i) r={b with ops:=(oU (n+1) (iI n b i) r).ops};have ih:=Mw r (n+1) (iI n b i) (λj hj=>hr j (List.mem_cons_of_mem _ hj)) (by rw [e];exact k.1) ah (by rw [e];dsimp only;omega);rw [e]at ih ⊢;exact ih
def acJ(n:Int)(b:Blk)(i:Ins):(iI n b i).ops=b.ops++gu n b.ops.length i:=by
 unfold iI;split
 .rfl
 split<;>rfl
def Xh{pc:Int}{l:List Ins}(h:xg pc l):∃r i,l=r++ [i]/\(∀j∈r,Mid j)/\dL i/\i.op≠0:=by
 have ln:=h.ln;rcases List.eq_nil_or_concat l with e | ⟨r,i,e⟩
 .subst e;simp at ln
 rw [List.concat_eq_append]at e;subst e;refine⟨r,i,rfl,λj hj=> ?_,?_,?_⟩
 .obtain⟨t,ht,rfl⟩:=List.getElem_of_mem hj;have:=h.ok t (by rw [List.length_append];omega);rw [List.getD_eq_getElem?_getD,List.getElem?_append_left ht,List.getElem?_eq_getElem ht]at this;obtain⟨a,b,c⟩:=this;refine⟨a,b,λg=> ?_⟩;have:=c g;rw [List.length_append,List.length_singleton]at this;omega
 .have:=h.ok r.length (by rw [List.length_append,List.length_singleton];omega);rw [List.getD_eq_getElem?_getD,List.getElem?_append_right (Nat.le_refl _),Nat.sub_self]at this;exact this.1
 .have:=h.ok r.length (by rw [List.length_append,List.length_singleton];omega);rw [List.getD_eq_getElem?_getD,List.getElem?_append_right (Nat.le_refl _),Nat.sub_self]at this;exact this.2.1
theorem FX{pc:Int}{l:List Ins}(h:xg pc l):dO (lower pc l):=by
 have ln:=h.ln;have hp:=h.pc;have e0:lower pc l=oU 0 (Ag pc l) l:=by unfold lower;rw [aU h,if_pos rfl]
 have sz:=FW l 0 (Ag pc l);obtain⟨r,i,e,hr,hi,h0⟩:=Xh h;have rl:l.length=r.length+1:=by rw [e,List.length_append,List.length_singleton]
 have k0:OKS (Ag pc l).ops (Ag pc l).len:=λj j0 j1=>absurd j1 (by show¬j< ((0:Nat):Int);omega)
 obtain⟨a1,a2⟩:=Mw r 0 (Ag pc l) hr k0 ah (by show 0+(r.length:Int)<=(l.length:Int);omega);have e1:lower pc l=iI r.length (oU 0 (Ag pc l) r) i:=by
  rw [e0]
  conv=>lhs;rw [e]
  rw [BZ,<-e];simp
 obtain⟨b1,b2,b3⟩:=VE (n:=r.length) a1 hi h0 ⟨ah,by show(r.length:Int)< (l.length:Int);omega⟩;have eo:=acJ r.length (oU 0 (Ag pc l) r) i;rw [<-e0]at sz;generalize hB:(oU 0 (Ag pc l) r).ops=ops at*;have z0:(Ag pc l).ops.length=0:=rfl;have F:(lower pc l).pc=pc/\(lower pc l).len=l.length:=by
  rw [e1,a2];unfold iI;split
  .exact⟨rfl,rfl⟩
  split<;>exact⟨rfl,rfl⟩
 have O:(lower pc l).ops=ops++gu r.length ops.length i:=by rw [e1];exact eo
 refine⟨by rw [F.2];omega,by rw [F.1,F.2];omega,ah,?_,?_⟩
 .rw [O,F.2];exact λj j0 j1=>b1 j j0 j1
 .by_cases c:i.op=11\/i.op=12
  .obtain⟨v1,v2⟩:=b2 c;have E:lower pc l=⟨pc,l.length,ops++gu r.length ops.length i,i.op-8,ops.length,ops.length+1,i.k⟩:=by rw [e1,a2];unfold iI;rw [if_pos c];rfl
   have kk:=hi.2.2.2.2.2.2.2.2.2.1;rw [E];refine⟨by dsimp only;omega,λ_=>v1,λg=>by dsimp only at g;omega,λ_=>v2,λg=>by dsimp only at g;omega,λ_=> ?_,λg=>by dsimp only at g;omega⟩;have:=hi.2.2.2.1;have:=kk ah;dsimp only;omega
  by_cases d:i.op=13
  .have v1:=b3 d;have E:lower pc l=⟨pc,l.length,ops++gu r.length ops.length i,2,ops.length,0,0⟩:=by rw [e1,a2];unfold iI;rw [if_neg c,if_pos d];rfl
   rw [E];exact⟨by dsimp only;omega,λ_=>v1,λg=>by dsimp only at g;omega,λg=>by dsimp only at g;omega,λ_=>rfl,λg=>absurd rfl g,λ_=>rfl⟩
  .have E:lower pc l=⟨pc,l.length,ops++gu r.length ops.length i,1,0,0,pc+l.length⟩:=by rw [e1,a2];unfold iI;rw [if_neg c,if_neg d];rfl
   rw [E];exact⟨by dsimp only;omega,λg=>absurd rfl g,λ_=>rfl,λg=>by dsimp only at g;omega,λ_=>rfl,λ_=>by dsimp only;omega,λg=>by dsimp only at g;omega⟩
def al0{m:aH}(h:MOK m){i:Ins}(hi:dL i):MOK (eff m i):=by
 obtain⟨⟨o0,o1⟩,⟨d0,d1⟩,⟨a0,a1⟩,k0,r0,r1,r2,r3,r8,r9,r13,r14⟩:=hi;have rs:∀(j:Nat) (v:Int),Wo v->MOK {m with regs:=m.regs.set j v}:=λj v w=> {h with r4:=by rw [List.length_set];exact h.r4,rw:=h.rw.set w j}
 unfold eff;split
 .exact rs _ _ ⟨k0,by have:=r1 ‹_›;omega⟩
 split
 .exact rs _ _ (h.rw.at _)
 split
 .exact rs _ _ (by unfold Wo;omega)
 split
 .exact rs _ _ (h.mw.at _)
 split
 .exact {h with m64:=by rw [List.length_set];exact h.m64,mw:=h.mw.set (h.rw.at _) _}
 split
 .exact {h with ow:=h.ow.snoc (h.rw.at _)}
 split
 .exact {rs i.d.toNat (m.ins.getD 0 default) h.iw.hd with iw:=h.iw.drop 1}
 split
 .split
  .exact {h with ha:=⟨show(0:Int)<=1 by decide,show(1:Int)<=4 by decide⟩}
  split
  .exact {h with}
  .exact {h with}
 split
 .exact h
 .exact rs _ _ (Dz _ _ _)
def agJ(B:Blk){S:MS}(h:S.left=true)(w:List IOp):w.foldl (bO B) S=S:=by
 obtain⟨m,v,l⟩:=S;dsimp only at h;subst h;exact JQ B m v w
def epc(pc len:Int)(m:aH)(i:Ins):Int:=if i.op=11\/i.op=12 then(if FV (i.op-10) ((m.regs).getD (i.d).toNat default) ((m.regs).getD (i.a).toNat default)=true then i.k else pc+len)else if i.op=13 then((m.regs).getD (i.a).toNat default)else pc+len
abbrev upd(m : aH)(u v : Int) : aH := { m with count := u, pc := v }
def agK{b:Blk}{m:aH}(h:(iX b m).2=true):dO b/\MOK m/\m.halt=0/\m.pc=b.pc/\m.count<=1000000-b.len:=by
 unfold iX at h;by_cases c:dO b/\MOK m
 .rw [aU c,if_pos rfl]at h;by_cases d:m.halt≠0\/m.pc≠b.pc\/1000000-b.len<m.count
  .rw [if_pos d]at h;cases h
  .exact⟨c.1,c.2,ah,ah,ah⟩
 .rw [bJ c,if_neg (by decide)]at h;cases h
abbrev mD(y : Blk × Int × List Int × Int × Bool × Bool × Int × List Int × Int × List Int × List Int × Unit) : aH := ⟨y.2.2.2.2.2.2.2.2.2.1, y.2.1, y.2.2.1, y.2.2.2.1, y.2.2.2.2.1, y.2.2.2.2.2.1, y.2.2.2.2.2.2.1, y.2.2.2.2.2.2.2.1, y.2.2.2.2.2.2.2.2.2.2.1, y.2.2.2.2.2.2.2.2.1⟩
def acK{b:Blk}{m M:aH}(h:iX b m=(M,true))(hs:MSh m)(ho:m.outs.length<900000000):MSh M:=by
 obtain⟨ok,hm,g0,g1,g2⟩:=agK (b:=b) (m:=m) (by rw [h]);unfold iX at h;rw [aU ⟨ok,hm⟩,if_pos rfl,if_neg ah]at h;have e:M=Af b (b.ops.foldl (bO b) ⟨m,[],false⟩):=(congrArg Prod.fst h).symm;rw [e];exact VA ok hs ho
structure avs(pp:Int×List Ins×Unit->Bool)(ff:Int×List Ins×Unit->Int×Int×Int×Int×Int×Int×List IOp×Unit):Prop where
 hp:∀pc l,l.length<1000000000->pp (pc,l,())=true
 hf:∀pc l,l.length<1000000000->ff (pc,l,())=bk7 (lower pc l)
structure auL(pp:Blk×aH×Unit->Bool)(ff:Blk×aH×Unit->Int×Int×Bool×Bool×Int×Int×Bool×List Int×List Int×List Int×List Int×Unit):Prop where
 hp:∀b m,b.ops.length<1000000000->MSh m->m.outs.length<900000000->pp (b,m,())=true
 hf:∀b m,b.ops.length<1000000000->MSh m->m.outs.length<900000000->ff (b,m,())=mR (iX b m)
structure auM(pp:aH×aH×Unit->Bool)(ff:aH×aH×Unit->Bool×Unit):Prop where
 hp:∀a b,MSh a->pp (a,b,())=true
 hf:∀a b,MSh a->ff (a,b,())=(bp (a=b),())
structure avt(pp:List Int×Unit->Bool)(ff:List Int×Unit->Int×List Ins×Unit):Prop where
 hp:∀c,By c->c.length<1000000000->pp (c,())=true
 hf:∀c,By c->c.length<1000000000->(ff (c,())).2.1.length<1000
structure auN(pp:List Int×Unit->Bool)(ff:List Int×Unit->Blk×Int×List Int×Int×Bool×Bool×Int×List Int×Int×List Int×List Int×Unit):Prop where
 hp:∀c,By c->c.length<1000000000->pp (c,())=true
 hf:∀c,By c->c.length<1000000000->MSh (mD (ff (c,())))/\(mD (ff (c,()))).outs.length<800000000/\(ff (c,())).1.ops.length<1000000
def al1{p1 f1}(U1:Y9 p1 f1)(l:List Int)(h:l.length<1000000000):Q8.F (p1,f1,()) (l,()) (λy=>y=(bp (Wos l),())):=by
 dsimp only [Q8,gm];simp (disch:=omega) only [RR];refine ak (λ(y:List Int×Int×Unit)=>y.1=l/\0<=y.2.1/\y.2.1<=l.length/\Wos (l.take y.2.1.toNat)) (λy=>(l.length-y.2.1).toNat) ⟨rfl,by simp,by simp,by intro n hn;cases hn⟩ ?_;rintro⟨(l:List Int),(i:Int),⟨⟩⟩ hI;dsimp only at hI ⊢;obtain⟨rfl,h1,h2,h3⟩:=hI;simp (disch:=omega) only [RR,U1.hp,U1.hf,bQ,jh];refine⟨λg=>⟨h1,g,λe=> ?_,λe=>⟨⟨ah,ah,?_⟩,ah⟩⟩,λg=> ?_⟩
 .rw [bJ];intro v;exact e (v _ (dw h1 g))
 .rw [show(i+1).toNat=i.toNat+1 by omega];intro n hn;rw [List.take_succ_eq_append_getElem ah,List.mem_append,List.mem_singleton]at hn;rcases hn with hn | rfl
  .exact h3 n hn
  .rw [getD_lt ah]at e;exact e
 .rw [List.take_of_length_le ah]at h3;rw [aU h3]
def al2{p1 f1 p2 f2 p3 f3}(U1:Y9 p1 f1)(U2:Y1 p2 f2)(U3:alW p3 f3)(m:aH)(h:MSh m):Rk.F (p1,f1,p2,f2,p3,f3,()) (m,()) (λy=>y=(bp (MOK m),())):=by
 obtain⟨a1,a2,a3,a4⟩:=h;dsimp only [Rk,gm];simp (disch:=omega) only [RR,MRB,U1.hp,U1.hf,U2.hp,U2.hf,U3.hp _ a1,U3.hf _ a1,U3.hp _ a2,U3.hf _ a2,U3.hp _ a3,U3.hf _ a3,U3.hp _ a4,U3.hf _ a4,BX,uI];simp only [<-jc];refine Prod.ext (jV ⟨λh=> ?_,λh=> ?_⟩) rfl
 .obtain⟨⟨⟨⟨⟨⟨⟨⟨⟨h1,h2⟩,h3⟩,h4⟩,h5⟩,h6⟩,h7⟩,h8⟩,h9⟩,h10⟩:=h;exact⟨ah,h2,ah,h5,h3,h6,h8,h9,h7,h10⟩
 .exact⟨⟨⟨⟨⟨⟨⟨⟨⟨by have:=h.r4;omega,h.rw⟩,h.pc⟩,by have:=h.m64;omega⟩,h.mw⟩,h.sv⟩,h.ha⟩,h.iw⟩,h.ow⟩,h.ct⟩
def acL(m:aH)(h:MSh m):Rl.F () (m,()) (λy=>y=m10 m):=by
 obtain⟨a1,a2,a3,a4⟩:=h;dsimp only [Rl,gm];simp (disch:=omega) only [RR,MRB,List.nil_append,List.length_nil];exact⟨ah,ah,ah,ah⟩
def acM(m:aH)(h:Int):Ro.F () (m.pc,m.save,m.dV,m.waits,m.halt,m.ins,m.count,h,m.regs,m.mem,m.outs,()) (λy=>y=mB {m with halt:=h}):=by
 dsimp only [Ro,gm]
def al3{p1 f1}(U1:Y10 p1 f1)(m:aH)(n:Int)(h:0<=m.count/\m.count<=1000000):Rp.F (p1,f1,()) (m.pc,m.save,m.dV,m.waits,m.halt,m.ins,m.count,n,m.regs,m.mem,m.outs,()) (λy=>y=mB {m with pc:=n%65536,count:=m.count+1}):=by
 dsimp only [Rp,gm];simp (disch:=omega) only [RR,U1.hp,U1.hf]
structure acN(pp:Int×Int×Bool×Bool×Int×List Int×Int×Int×List Int×List Int×List Int×Unit->Bool)(ff:Int×Int×Bool×Bool×Int×List Int×Int×Int×List Int×List Int×List Int×Unit->Int×Int×Bool×Bool×Int×List Int×Int×List Int×List Int×List Int×Unit):Prop where
 hp:∀(m:aH) (n:Int),(0<=m.count/\m.count<=1000000)->pp (m.pc,m.save,m.dV,m.waits,m.halt,m.ins,m.count,n,m.regs,m.mem,m.outs,())=true
 hf:∀(m:aH) (n:Int),(0<=m.count/\m.count<=1000000)->ff (m.pc,m.save,m.dV,m.waits,m.halt,m.ins,m.count,n,m.regs,m.mem,m.outs,())=mB {m with pc:=n%65536,count:=m.count+1}
def acO{p1 f1}(U1:acN p1 f1)(m:aH)(d v:Int)(h:MOK m)(d0:0<=d)(d1:d<=3):Rs.F (p1,f1,()) (m.pc,m.save,m.dV,m.waits,m.halt,m.ins,m.count,d,v,m.regs,m.mem,m.outs,()) (λy=>y=mB {m with regs:=m.regs.set d.toNat v,pc:=(m.pc+1)%65536,count:=m.count+1}):=by
 have r4:=h.r4;have c:=h.ct;have pw:0<=m.pc/\m.pc<=65535:=h.pc;have H:=U1.hf {m with regs:=m.regs.set d.toNat v} (m.pc+1) c;have P:=U1.hp {m with regs:=m.regs.set d.toNat v} (m.pc+1) c;dsimp only at H P;dsimp only [Rs,gm];simp (disch:=omega) only [RR,H,P,r4,d0];omega
def dbl(v:Int)(j:Nat):(v*2^j%65536+v*2^j%65536)%65536=v*2^ (j+1)%65536:=by
 rw [Int.pow_succ,<-Int.mul_assoc];omega
def al4{p1 f1}(U1:Y10 p1 f1)(v k:Int)(h:Wo v)(k0:0<=k)(k1:k<=15):Rt.F (p1,f1,()) (v,k,()) (λy=>y=(v*2^k.toNat%65536,())):=by
 dsimp only [Rt,gm];simp (disch:=omega) only [RR];refine ak (λ(y:Int×Int×Int×Unit)=>y.1=k/\0<=y.2.2.1/\y.2.2.1<=k/\y.2.1=v*2^y.2.2.1.toNat%65536) (λy=>(k-y.2.2.1).toNat) ⟨rfl,by simp,k0,by have:=h.1;have:=h.2;dsimp only;rw [show Int.toNat 0=0 from rfl,Int.pow_zero];omega⟩ ?_;rintro⟨(z:Int),(a:Int),(i:Int),⟨⟩⟩ hI;dsimp only at hI ⊢;obtain⟨rfl,j1,j2,rfl⟩:=hI;by_cases g:i<z
 .simp (disch:=omega) only [RR,U1.hp,U1.hf,g];exact⟨⟨ah,ah,by rw [show(i+1).toNat=i.toNat+1 by omega];exact dbl v i.toNat⟩,ah⟩
 .simp (disch:=omega) only [RR,U1.hp,U1.hf,g];rw [show i=z by omega]
def IR:(∀i:Ins,iB .ins 0 i=i.op)/\(∀i:Ins,iB .ins 1 i=i.d)/\(∀i:Ins,iB .ins 2 i=i.a)/\(∀i:Ins,iB .ins 3 i=i.k):=⟨λ_=>rfl,λ_=>rfl,λ_=>rfl,λ_=>rfl⟩
def VF{m:aH}{i:Ins}{u:aH}(h:exec m i=u):mB u=mB (exec m i):=by rw [h]
def fZ{m:aH}{i:Ins}(h:¬((i.op=9\/i.op=10)/\64<=adr m i)){u:aH}(e:eff m i=u){n:Int}(f:nxt m i=n):mB {u with pc:=n,count:=m.count+1}=mB (exec m i):=by
 refine VF ?_;unfold exec;rw [if_neg h,e,f]
def ef0{m:aH}{i:Ins}(e:i.op=0):eff m i=(if i.k=0 then {m with halt:=1}else if i.k=1 then {m with dV:=true}else {m with dV:=decide (i.k=2)}):=by
 unfold eff;(iterate 7 rw [if_neg ah]);rw [if_pos e]
def ef1{m:aH}{i:Ins}(e:i.op=1):eff m i={m with regs:=m.regs.set i.d.toNat i.k}:=by unfold eff;rw [if_pos e]
def ef2{m:aH}{i:Ins}(e:i.op=2):eff m i={m with regs:=m.regs.set i.d.toNat ((m.regs).getD (i.a).toNat default)}:=by unfold eff;rw [if_neg ah,if_pos e]
def ef8{m:aH}{i:Ins}(e:i.op=8):eff m i={m with regs:=m.regs.set i.d.toNat (((m.regs).getD (i.a).toNat default)*2^i.k.toNat%65536)}:=by unfold eff;(iterate 2 rw [if_neg ah]);rw [if_pos e]
def ef9{m:aH}{i:Ins}(e:i.op=9):eff m i={m with regs:=m.regs.set i.d.toNat ((m.mem).getD (adr m i).toNat default)}:=by unfold eff;(iterate 3 rw [if_neg ah]);rw [if_pos e]
def auO{m:aH}{i:Ins}(e:i.op=10):eff m i={m with mem:=m.mem.set (adr m i).toNat ((m.regs).getD (i.d).toNat default)}:=by unfold eff;(iterate 4 rw [if_neg ah]);rw [if_pos e]
def auP{m:aH}{i:Ins}(e:i.op=14):eff m i={m with outs:=m.outs++ [((m.regs).getD (i.d).toNat default)]}:=by unfold eff;(iterate 5 rw [if_neg ah]);rw [if_pos e]
def arL{m:aH}{i:Ins}(e:i.op=15):eff m i={m with regs:=m.regs.set i.d.toNat (m.ins.getD 0 default),ins:=m.ins.drop 1}:=by unfold eff;(iterate 6 rw [if_neg ah]);rw [if_pos e]
def efj{m:aH}{i:Ins}(e:11<=i.op/\i.op<=13):eff m i=m:=by unfold eff;(iterate 8 rw [if_neg ah]);rw [if_pos ah]
def efd{m:aH}{i:Ins}(e:3<=i.op/\i.op<=7):eff m i={m with regs:=m.regs.set i.d.toNat (wdo (i.op-2) ((m.regs).getD (i.a).toNat default) ((m.regs).getD (i.k).toNat default))}:=by unfold eff;(iterate 9 rw [if_neg ah])
def nxp{m:aH}{i:Ins}(h:(i.op=0->i.k≠1)/\¬(11<=i.op/\i.op<=13)):nxt m i=(m.pc+1)%65536:=by unfold nxt;rw [if_neg (λq=>h.1 q.1 q.2),if_neg (λq=>h.2 ah),if_neg ah]
def n9{m:aH}{i:Ins}(h:¬(i.op=9\/i.op=10)):¬((i.op=9\/i.op=10)/\64<=adr m i):=λq=>h q.1
structure al5(pp:Int×Int×Bool×Bool×Int×List Int×Int×Int×List Int×List Int×List Int×Unit->Bool)(ff:Int×Int×Bool×Bool×Int×List Int×Int×Int×List Int×List Int×List Int×Unit->Int×Int×Bool×Bool×Int×List Int×Int×List Int×List Int×List Int×Unit):Prop where
 hp:∀(m:aH) (h:Int),pp (m.pc,m.save,m.dV,m.waits,m.halt,m.ins,m.count,h,m.regs,m.mem,m.outs,())=true
 hf:∀(m:aH) (h:Int),ff (m.pc,m.save,m.dV,m.waits,m.halt,m.ins,m.count,h,m.regs,m.mem,m.outs,())=mB {m with halt:=h}
structure al6(pp:Int×Int×Bool×Bool×Int×List Int×Int×Int×Int×List Int×List Int×List Int×Unit->Bool)(ff:Int×Int×Bool×Bool×Int×List Int×Int×Int×Int×List Int×List Int×List Int×Unit->Int×Int×Bool×Bool×Int×List Int×Int×List Int×List Int×List Int×Unit):Prop where
 hp:∀(m:aH) (d v:Int),MOK m->0<=d->d<=3->pp (m.pc,m.save,m.dV,m.waits,m.halt,m.ins,m.count,d,v,m.regs,m.mem,m.outs,())=true
 hf:∀(m:aH) (d v:Int),MOK m->0<=d->d<=3->ff (m.pc,m.save,m.dV,m.waits,m.halt,m.ins,m.count,d,v,m.regs,m.mem,m.outs,())=mB {m with regs:=m.regs.set d.toNat v,pc:=(m.pc+1)%65536,count:=m.count+1}
theorem al7{p1 f1 p2 f2 p3 f3 p4 f4}(U1:Y10 p1 f1)(U2:al5 p2 f2)(U3:acN p3 f3)(U4:al6 p4 f4)(m:aH)(i:Ins)(h:MOK m)(hi:dL i)(ho:i.op=9\/i.op=10):Rv.F (p1,f1,p2,f2,p3,f3,p4,f4,()) (m.pc,m.save,m.dV,m.waits,m.halt,m.ins,m.count,i,m.regs,m.mem,m.outs,()) (λy=>y=mB (exec m i)):=by
 obtain⟨_,⟨d0,d1⟩,⟨a0,a1⟩,k0,_,_,_,_,_,r9,_⟩:=hi;have k1:=r9 ah;have r4:=h.r4;have m6:=h.m64;have c:=h.ct;have pw:0<=m.pc/\m.pc<=65535:=h.pc;have H3:=λmem=>U3.hf {m with mem:=mem} (m.pc+1) c
 have P3:=λmem=>U3.hp {m with mem:=mem} (m.pc+1) c
 dsimp only at H3 P3;have H4:=λv=>U4.hf m i.d v h d0 d1
 have P4:=λv=>U4.hp m i.d v h d0 d1
 have wa:0<=((m.regs).getD (i.a).toNat default)/\((m.regs).getD (i.a).toNat default)<=65535:=h.rw.at i.a;dsimp only [Rv,gm];simp (disch:=omega) only [RR,IR,U1.hp,U1.hf,U2.hp,U2.hf,H3,P3,H4,P4,r4,m6,d0,a0,qU];have ad:(((m.regs).getD (i.a).toNat default)+i.k)%65536=adr m i:=rfl;rw [ad];have a0':0<=adr m i:=by unfold adr;omega
 refine⟨ah,ah,λg=>VF (by unfold exec;rw [if_pos ⟨ho,g⟩]),λg=>⟨λe=>⟨ah,ah,ah,ah,?_⟩,λe=>⟨ah,ah,ah,ah,ah,ah,?_⟩⟩⟩
 .exact fZ (u:={m with regs:=m.regs.set i.d.toNat ((m.mem).getD (adr m i).toNat default)}) (λq=>by omega) (ef9 e) (nxp ah)
 .exact fZ (u:={m with mem:=m.mem.set (adr m i).toNat ((m.regs).getD (i.d).toNat default)}) (λq=>by omega) (auO (ho.resolve_left e)) (nxp ah)
def al8{p1 f1 p2 f2}(U1:acN p1 f1)(U2:al6 p2 f2)(m:aH)(i:Ins)(h:MOK m)(hi:dL i)(hq:i.op=14\/i.op=15)(hn:m.ins.length<1000000000)(ho:m.outs.length<900000000):Rw.F (p1,f1,p2,f2,()) (m.pc,m.save,m.dV,m.waits,m.halt,m.ins,m.count,i,m.regs,m.mem,m.outs,()) (λy=>y=mB (exec m i)):=by
 obtain⟨_,⟨d0,d1⟩,⟨a0,a1⟩,k0,_⟩:=hi;have r4:=h.r4;have m6:=h.m64;have c:=h.ct;have pw:0<=m.pc/\m.pc<=65535:=h.pc;have H3:=λo=>U1.hf {m with outs:=o} (m.pc+1) c
 have P3:=λo=>U1.hp {m with outs:=o} (m.pc+1) c
 dsimp only at H3 P3;have mk:∀l:List Int,l=m.ins\/l=m.ins.drop 1->MOK {m with ins:=l}:=λl hl=> {h with iw:=by rcases hl with rfl | rfl;exact h.iw;exact h.iw.drop 1}
 have H4:=λv=>U2.hf m i.d v h d0 d1
 have P4:=λv=>U2.hp m i.d v h d0 d1
 have H5:=λv=>U2.hf {m with ins:=m.ins.drop 1} i.d v (mk _ (Or.inr rfl)) d0 d1
 have P5:=λv=>U2.hp {m with ins:=m.ins.drop 1} i.d v (mk _ (Or.inr rfl)) d0 d1
 dsimp only at H5 P5;have e1:List.drop (Int.toNat 1) (List.take (Int.toNat (m.ins.length:Int)) m.ins)=m.ins.drop 1:=by rw [show Int.toNat (m.ins.length:Int)=m.ins.length by omega,List.take_of_length_le (Nat.le_refl _)];rfl
 dsimp only [Rw,gm];simp (disch:=omega) only [RR,IR,H3,P3,H4,P4,H5,P5,e1,r4,m6,d0,List.length_cons,List.length_nil,qU];have n9:¬((i.op=9\/i.op=10)/\64<=adr m i):=n9 ah;have nx:nxt m i=(m.pc+1)%65536:=nxp ah;refine⟨λe=>⟨ah,ah,ah,?_⟩,λe=>⟨λg=>⟨ah,g,ah,ah,ah,?_⟩,λg=> ?_⟩⟩
 .exact fZ (u:={m with outs:=m.outs++ [((m.regs).getD (i.d).toNat default)]}) n9 (auP e) nx
 .exact fZ (u:={m with regs:=m.regs.set i.d.toNat (m.ins.getD 0 default),ins:=m.ins.drop 1}) n9 (arL (hq.resolve_left e)) nx
 .have e0:m.ins=[]:=by
   cases hm:m.ins with
   | nil=>rfl
   | cons a r=>rw [hm]at g;simp only [List.length_cons]at g;omega
  have:=fZ (u:={m with regs:=m.regs.set i.d.toNat (m.ins.getD 0 default),ins:=m.ins.drop 1}) n9 (arL (hq.resolve_left e)) nx;rw [e0]at this;rw [<-this,e0];rfl
def al9{p1 f1 p2 f2}(U1:al5 p1 f1)(U2:acN p2 f2)(m:aH)(i:Ins)(h:MOK m)(ho:i.op=0):Rq.F (p1,f1,p2,f2,()) (m.pc,m.save,m.dV,m.waits,m.halt,m.ins,m.count,i.k,m.regs,m.mem,m.outs,()) (λy=>i.k<=3->0<=i.k->y=mB (exec m i)):=by
 have c:=h.ct;have pw:0<=m.pc/\m.pc<=65535:=h.pc;have sw:0<=m.save/\m.save<=65535:=h.sv;have H1:=U1.hf m 1;have P1:=U1.hp m 1;have H2:=λb n=>U2.hf {m with dV:=b} n c
 have P2:=λb n=>U2.hp {m with dV:=b} n c
 have H3:=λn=>U2.hf {m with halt:=1} n c
 have P3:=λn=>U2.hp {m with halt:=1} n c
 dsimp only at H2 P2 H3 P3;have n9:¬((i.op=9\/i.op=10)/\64<=adr m i):=n9 ah;have ef:=ef0 (m:=m) ho;have nx:i.k≠1->nxt m i=(m.pc+1)%65536:=λe=>nxp ⟨λ_=>e,ah⟩
 dsimp only [Rq,gm];simp (disch:=omega) only [RR,H1,P1,H2,P2,H3,P3];refine⟨λe _ _=> ?_,λe=>⟨λe2 _ _=> ?_,λe2=>⟨λe3 _ _=> ?_,λe3 g0 g1=> ?_⟩⟩⟩
 .rw [show m.save%65536=m.save by omega];exact fZ (u:={m with dV:=true}) n9 (by rw [ef,if_neg ah,if_pos e]) (by unfold nxt;rw [if_pos ⟨ho,e⟩])
 .exact fZ (u:={m with dV:=true}) n9 (by rw [ef,if_neg ah,if_neg ah,e2];rfl) (nx ah)
 .exact fZ (u:={m with dV:=false}) n9 (by rw [ef,if_neg ah,if_neg ah,e3];rfl) (nx ah)
 .exact fZ (u:={m with halt:=1}) n9 (by rw [ef,if_pos ah]) (nx ah)
def VG{a b:Int}(ha:Wo a)(hb:Wo b):(FV 1 a b=true↔a=b)/\(FV 2 a b=true↔a<b):=by
 rw [Sl,Sn,BX,BX,aU (show 0<=a/\a<=65535 from ha),aU (show 0<=b/\b<=65535 from hb)];simp
def ama{p1 f1 p2 f2 p5 f5}(U1:Y24 p1 f1)(U2:acN p2 f2){p3:Int×Int×Bool×Bool×Int×List Int×Int×Ins×List Int×List Int×List Int×Unit->Bool}{f3:Int×Int×Bool×Bool×Int×List Int×Int×Ins×List Int×List Int×List Int×Unit->Int×Int×Bool×Bool×Int×List Int×Int×List Int×List Int×List Int×Unit}(hp3:∀(m:aH) (i:Ins),MOK m->dL i->(i.op=14\/i.op=15)->m.ins.length<1000000000->m.outs.length<900000000->p3 (m.pc,m.save,m.dV,m.waits,m.halt,m.ins,m.count,i,m.regs,m.mem,m.outs,())=true)(hf3:∀(m:aH) (i:Ins),MOK m->dL i->(i.op=14\/i.op=15)->m.ins.length<1000000000->m.outs.length<900000000->f3 (m.pc,m.save,m.dV,m.waits,m.halt,m.ins,m.count,i,m.regs,m.mem,m.outs,())=mB (exec m i)){p4:Int×Int×Bool×Bool×Int×List Int×Int×Ins×List Int×List Int×List Int×Unit->Bool}{f4:Int×Int×Bool×Bool×Int×List Int×Int×Ins×List Int×List Int×List Int×Unit->Int×Int×Bool×Bool×Int×List Int×Int×List Int×List Int×List Int×Unit}(hp4:∀(m:aH) (i:Ins),MOK m->dL i->(i.op=9\/i.op=10)->p4 (m.pc,m.save,m.dV,m.waits,m.halt,m.ins,m.count,i,m.regs,m.mem,m.outs,())=true)(hf4:∀(m:aH) (i:Ins),MOK m->dL i->(i.op=9\/i.op=10)->f4 (m.pc,m.save,m.dV,m.waits,m.halt,m.ins,m.count,i,m.regs,m.mem,m.outs,())=mB (exec m i))(U5:al6 p5 f5){p6:Int×Int×Unit->Bool}{f6:Int×Int×Unit->Int×Unit}(hp6:∀(v k:Int),Wo v->0<=k->k<=15->p6 (v,k,())=true)(hf6:∀(v k:Int),Wo v->0<=k->k<=15->f6 (v,k,())=(v*2^k.toNat%65536,())){p7:Int×Int×Bool×Bool×Int×List Int×Int×Int×List Int×List Int×List Int×Unit->Bool}{f7:Int×Int×Bool×Bool×Int×List Int×Int×Int×List Int×List Int×List Int×Unit->Int×Int×Bool×Bool×Int×List Int×Int×List Int×List Int×List Int×Unit}(hp7:∀(m:aH) (i:Ins),MOK m->i.op=0->p7 (m.pc,m.save,m.dV,m.waits,m.halt,m.ins,m.count,i.k,m.regs,m.mem,m.outs,())=true)(hf7:∀(m:aH) (i:Ins),MOK m->i.op=0->i.k<=3->0<=i.k->f7 (m.pc,m.save,m.dV,m.waits,m.halt,m.ins,m.count,i.k,m.regs,m.mem,m.outs,())=mB (exec m i))(m:aH)(i:Ins)(h:MOK m)(hi:dL i)(hn:m.ins.length<1000000000)(ho:m.outs.length<900000000):Rx.F (p1,f1,p2,f2,p3,f3,p4,f4,p5,f5,p6,f6,p7,f7,()) (m.pc,m.save,m.dV,m.waits,m.halt,m.ins,m.count,i,m.regs,m.mem,m.outs,()) (λy=>y=mB (exec m i)):=by
 have hi':=hi;obtain⟨⟨o0,o1⟩,⟨d0,d1⟩,⟨a0,a1⟩,k0,r0,r1,r2,r3,r8,r9,_⟩:=hi;have r4:=h.r4;have c:=h.ct;have pw:0<=m.pc/\m.pc<=65535:=h.pc;have wa:=h.rw.at i.a;have wd:=h.rw.at i.d;obtain⟨q1,q2⟩:=VG wd wa;have wa':0<=((m.regs).getD (i.a).toNat default)/\((m.regs).getD (i.a).toNat default)<=65535:=wa;have H5:=λv=>U5.hf m i.d v h d0 d1
 have P5:=λv=>U5.hp m i.d v h d0 d1
 have H2:=λn=>U2.hf m n c
 have P2:=λn=>U2.hp m n c
 dsimp only [Rx,gm];rcases(by omega:i.op=0\/i.op=1\/i.op=2\/(3<=i.op/\i.op<=7)\/i.op=8\/(i.op=9\/i.op=10)\/i.op=11\/i.op=12\/i.op=13\/(i.op=14\/i.op=15))with e | e | e | e | e | e | e | e | e | e
 case inr.inr.inr.inl=>
  have n0:∀z:Int,z<3\/7<z->¬i.op=z:=λz g q=>by omega
  have kk:=r3 e;simp (disch:=omega) only [RR,IR,n0 0 ah,n0 1 ah,n0 2 ah,n0 8 ah,n0 9 ah,n0 10 ah,n0 11 ah,n0 12 ah,n0 13 ah,n0 14 ah,n0 15 ah,U1.hp,U1.hf,H5,P5,r4,d0,a0,k0];refine⟨ah,ah,ah,ah,?_⟩;rw [show i.op-3+1=i.op-2 by omega];exact fZ (u:={m with regs:=m.regs.set i.d.toNat (wdo (i.op-2) ((m.regs).getD (i.a).toNat default) ((m.regs).getD (i.k).toNat default))}) (n9 ah) (efd e) (nxp ah)
 case inr.inr.inr.inr.inr.inl=>
  rcases e with e | e<;>simp (disch:=omega) only [RR,IR,e,Int.reduceEq,hp4 m i h hi' ah,hf4 m i h hi' ah,r4,d0,a0,k0]
  all_goals exact⟨ah,ah⟩
 case inr.inr.inr.inr.inr.inr.inr.inr.inr=>
  rcases e with e | e<;>simp (disch:=omega) only [RR,IR,e,Int.reduceEq,hp3 m i h hi' ah hn ho,hf3 m i h hi' ah hn ho,r4,d0,a0,k0]
  all_goals exact⟨ah,ah⟩
 case inl=>
  simp (disch:=omega) only [RR,IR,e,Int.reduceEq,hp7 m i h e,r4,d0,a0,k0];exact⟨ah,ah,hf7 m i h e (r0 e).2.2 k0⟩
 case inr.inr.inr.inr.inl=>
  simp (disch:=omega) only [RR,IR,e,Int.reduceEq,hp6 _ _ wa k0 (r8 e),hf6 _ _ wa k0 (r8 e),H5,P5,r4,d0,a0,k0];exact⟨ah,ah,fZ (u:={m with regs:=m.regs.set i.d.toNat (((m.regs).getD (i.a).toNat default)*2^i.k.toNat%65536)}) (n9 ah) (ef8 e) (nxp ah)⟩
 all_goals simp (disch:=omega) only [RR,IR,e,Int.reduceEq,H5,P5,H2,P2,r4,d0,a0,k0]
 .exact⟨ah,ah,fZ (u:={m with regs:=m.regs.set i.d.toNat i.k}) (n9 ah) (ef1 e) (nxp ah)⟩
 .exact⟨ah,ah,fZ (u:={m with regs:=m.regs.set i.d.toNat ((m.regs).getD (i.a).toNat default)}) (n9 ah) (ef2 e) (nxp ah)⟩
 .have ef:eff m i=m:=efj ah;have k1:=r9 ah;refine⟨ah,ah,ah,ah,λg=> ?_,λg=> ?_⟩
  .rw [show i.k%65536=i.k by omega];exact fZ (u:=m) (n9 ah) ef (by unfold nxt;rw [if_neg ah,if_pos ⟨Or.inl e,by rw [e];exact q1.2 g⟩])
  .exact fZ (u:=m) (n9 ah) ef (by unfold nxt;rw [if_neg ah,if_neg (λq=>g (q1.1 (by have:=q.2;rw [e]at this;exact this))),if_neg ah])
 .have ef:eff m i=m:=efj ah;have k1:=r9 ah;refine⟨ah,ah,ah,ah,λg=> ?_,λg=> ?_⟩
  .rw [show i.k%65536=i.k by omega];exact fZ (u:=m) (n9 ah) ef (by unfold nxt;rw [if_neg ah,if_pos ⟨Or.inr e,by rw [e];exact q2.2 g⟩])
  .exact fZ (u:=m) (n9 ah) ef (by unfold nxt;rw [if_neg ah,if_neg (λq=>g (q2.1 (by have:=q.2;rw [e]at this;exact this))),if_neg ah])
 .have ef:eff m i=m:=efj ah;rw [show((m.regs).getD (i.a).toNat default)%65536=((m.regs).getD (i.a).toNat default) by omega];exact⟨ah,ah,fZ (u:=m) (n9 ah) ef (by unfold nxt;rw [if_neg ah,if_neg ah,if_pos e];rfl)⟩
def smp(m:aH)(b:Bool):aH:=if(m.waits || b)=true/\m.dV=true then {m with waits:=false,dV:=false,save:=m.pc,pc:=48}else {m with waits:=m.waits || b}
def acP(m:aH)(b:Bool):Rn.F () (m.pc,m.save,m.dV,m.waits,m.halt,m.ins,m.count,b,m.regs,m.mem,m.outs,()) (λy=>y=mB (smp m b)):=by
 dsimp only [Rn,gm];unfold smp;cases hw:m.waits<;>cases hb:b<;>cases hl:m.dV<;>simp
def acQ(l:List Int)(n:Int)(h:l.length<1000000000):Rz.F () (l,n,()) (λy=>y=(bp (n∈l),())):=by
 dsimp only [Rz,gm];simp (disch:=omega) only [RR];refine ak (λ(y:List Int×Int×Int×Unit)=>y.1=l/\y.2.1=n/\0<=y.2.2.1/\y.2.2.1<=l.length/\n∉l.take y.2.2.1.toNat) (λy=>(l.length-y.2.2.1).toNat) ⟨rfl,rfl,by simp,by simp,by simp⟩ ?_;rintro⟨(l:List Int),(n:Int),(i:Int),⟨⟩⟩ hI;dsimp only at hI ⊢;obtain⟨rfl,rfl,h1,h2,h3⟩:=hI;simp (disch:=omega) only [RR];refine⟨λg=>⟨h1,g,λe=> ?_,λe=>⟨⟨ah,ah,λq=> ?_⟩,ah⟩⟩,λg=> ?_⟩
 .rw [aU (by rw [<-e];exact dw h1 g)]
 .rw [show(i+1).toNat=i.toNat+1 by omega,List.take_succ_eq_append_getElem ah,List.mem_append,List.mem_singleton,<-getD_lt (d:=default) (show i.toNat<l.length by omega)]at q;exact q.elim h3 (λz=>e z.symm)
 .rw [List.take_of_length_le ah]at h3;rw [bJ h3]
def fm(i:Ins):Bool:=if i.op=0 then decide (i.d=0)&&decide (i.a=0)&&decide (i.k<=3)else if i.op=1 then decide (i.a=0)else if i.op=2 then decide (i.k=0)else if 3<=i.op/\i.op<=7 then decide (i.k<4)else if i.op=8 then decide (i.k<16)else if i.op=13 then decide (i.d=0)&&decide (i.k=0)else if i.op=14\/i.op=15 then decide (i.a=0)&&decide (i.k=0)else true
def auQ(b:Bool):bp (b=true)=b:=by
 cases b with
 | true=>exact aU rfl
 | false=>exact bJ (by decide)
def amb(i:Ins):(inB i.op 0 15&&inB i.d 0 3&&inB i.a 0 3&&inB i.k 0 255&&fm i)=bp (dL i):=by
 have h:((0<=i.op/\i.op<=15)/\(0<=i.d/\i.d<=3)/\(0<=i.a/\i.a<=3)/\(0<=i.k/\i.k<=255)/\fm i=true)↔dL i:=by
  unfold dL fm;split
  .simp only [Bool.and_eq_true,decide_eq_true_eq];omega
  split
  .simp only [decide_eq_true_eq];omega
  split
  .simp only [decide_eq_true_eq];omega
  split
  .simp only [decide_eq_true_eq];omega
  split
  .simp only [decide_eq_true_eq];omega
  split
  .simp only [Bool.and_eq_true,decide_eq_true_eq];omega
  split
  .simp only [Bool.and_eq_true,decide_eq_true_eq];omega
  .simp only [eq_self,and_true];omega
 rw [<-jV h];simp only [BX,jc,Bool.and_assoc,auQ]
def uK(i:Ins):OZ.F () (i,()) (λy=>y=(fm i,())):=by
 dsimp only [OZ,gm];rcases(by omega:(i.op=0\/i.op=1\/i.op=2\/i.op=3\/i.op=4\/i.op=5\/i.op=6\/i.op=7\/i.op=8\/i.op=13\/i.op=14\/i.op=15)\/(¬(0<=i.op/\i.op<=8)/\¬(13<=i.op/\i.op<=15)))with(e | e | e | e | e | e | e | e | e | e | e | e) | ⟨n1,n2⟩
 case inr=>
  have n:∀z:Int,(0<=z/\z<=8)\/(13<=z/\z<=15)->¬i.op=z:=λz g q=>by omega
  have n3:¬(3<=i.op/\i.op<=7):=λq=>by omega
  simp (disch:=omega) only [RR,IR,n];unfold fm;simp (disch:=omega) only [n,n3,if_false,or_self]
 all_goals simp (disch:=omega) only [RR,IR,e,Int.reduceEq]
 all_goals unfold fm
 all_goals simp [e]
def Gq{p1 f1}(U1:Y1 p1 f1){p2:Ins×Unit->Bool}{f2:Ins×Unit->Bool×Unit}(hp2:∀i,p2 (i,())=true)(hf2:∀i,f2 (i,())=(fm i,()))(i:Ins):O5.F (p1,f1,p2,f2,()) (i,()) (λy=>y=(bp (dL i),())):=by
 dsimp only [O5,gm];simp (disch:=omega) only [RR,IR,U1.hp,U1.hf,hp2,hf2];rw [amb]
noncomputable def tkI (w:Int):Int×Int×Int×Int×Bool×Unit:=if bp (Wo w/\dL (sQ w))=true then((sQ w).op,(sQ w).d,(sQ w).a,(sQ w).k,true,())else(0,0,0,0,false,())
theorem amc{p1 f1 p2 f2}(U1:agI p1 f1)(U2:Y9 p2 f2)(w:Int):Rm.F (p1,f1,p2,f2,()) (w,()) (λy=>y=tkI w):=by
 dsimp only [Rm,gm];simp (disch:=omega) only [RR,U1.hp,U1.hf,U2.hp,U2.hf,BX];by_cases h:Wo w
 .obtain⟨w0,w1⟩:=id h;have e:∀x y z u:Int,Co.mk .ins (x,y,z,u,())=⟨x,y,z,u⟩:=λ_ _ _ _=>rfl
  have q:∀n:Int,0<n->0<=w/n/\w/n<=65535:=λn hn=>⟨Int.ediv_nonneg w0 ah,Int.le_trans (Int.ediv_le_self _ w0) w1⟩
  have q1:=q 4096 (by decide);have q2:=q 1024 (by decide);have q3:=q 256 (by decide);rw [aU (show 0<=w/\w<=65535 from h)];simp (disch:=omega) only [RR,e,Int.tdiv_eq_ediv_of_nonneg,Int.tmod_eq_emod_of_nonneg];have ed:(⟨w/4096,w/1024%4,w/256%4,w%256⟩:Ins)=sQ w:=rfl;unfold tkI;by_cases k:dL (sQ w)
  .rw [ed,aU k,aU ⟨h,k⟩];simp;rfl
  .rw [ed,bJ k,bJ (λg=>k g.2)];simp
 .rw [bJ (show¬(0<=w/\w<=65535)from h)];unfold tkI;rw [bJ (λg=>h g.1)];simp
noncomputable def FY (i:Ins):Int:=if bp (dL i)=true then Sk i else 0
def Ah(i:Ins):Wo (FY i):=by
 unfold FY;split
 .rename_i h;obtain⟨⟨o0,o1⟩,⟨d0,d1⟩,⟨a0,a1⟩,k0,h⟩:=aT.1 h;unfold Sk Wo;omega
 .exact wo0
def amd{p1 f1}(U1:agI p1 f1)(i:Ins):Ra.F (p1,f1,()) (i,()) (λy=>y=(FY i,())):=by
 dsimp only [Ra,gm];simp (disch:=omega) only [RR,IR,U1.hp,U1.hf];unfold FY Sk;refine⟨λh=>by rw [h];rfl,λh=> ?_⟩;rw [if_pos h];obtain⟨⟨o0,o1⟩,⟨d0,d1⟩,⟨a0,a1⟩,k0,h⟩:=aT.1 h;have k1:i.k<=255:=by omega
 simp (disch:=omega) only [w64]
structure arM(pp:Ins×Unit->Bool)(ff:Ins×Unit->Int×Unit):Prop where
 hp:∀i,pp (i,())=true
 hf:∀i,ff (i,())=(FY i,())
def ame{p1 f1}(U1:arM p1 f1)(l:List Ins)(hl:l.length<1000000):Rb.F (p1,f1,()) (l,()) (λy=>y=(l.map FY,())):=by
 dsimp only [Rb,gm];simp (disch:=omega) only [RR,List.length_nil];refine ak (λ(y:List Ins×Int×List Int×Unit)=>y.1=l/\0<=y.2.1/\y.2.1<=l.length/\y.2.2.1=(l.take y.2.1.toNat).map FY) (λy=>(l.length-y.2.1).toNat) ⟨rfl,by simp,by simp,by simp⟩ ?_;rintro⟨(l:List Ins),(i:Int),(o:List Int),⟨⟩⟩ hI;dsimp only at hI ⊢;obtain⟨rfl,h1,h2,rfl⟩:=hI;simp (disch:=omega) only [RR,U1.hp,U1.hf,List.length_map,List.length_cons,List.length_nil];have h3:=List.length_take_le' i.toNat l;refine⟨λh4=>⟨ah,ah,ah,⟨ah,ah,?_⟩,ah⟩,λh4=>by rw [List.take_of_length_le ah]⟩;rw [<-bP (d:=default) h1 h4 rfl,List.map_append];rfl
def amf{l:List Int}(h:Wos l){n:Int}(w:Wo n):Wos (n::l):=λx hx=>(List.mem_cons.1 hx).elim (λe=>e▸w) (h x)
noncomputable def jY (w i:List Int):aH:=if bp (w.length<=64/\Wos w/\Wos i)=true then⟨[0,0,0,0],0,w++List.replicate (64-w.length) 0,0,false,false,0,i,[],0⟩else JO
def agL{w i:List Int}(h:w.length<=64)(hw:Wos w)(hi:Wos i):MOK (jY w i):=by
 unfold jY;rw [aU ⟨h,hw,hi⟩,if_pos rfl];have z:∀n:Nat,Wos (List.replicate n 0):=λn x hx=>by rw [List.eq_of_mem_replicate hx];exact wo0
 exact⟨rfl,z 4,by show(w++List.replicate (64-w.length) 0).length=64;rw [List.length_append,List.length_replicate];omega,λx hx=>(List.mem_append.1 hx).elim (hw x) (z _ x),wo0,wo0,hi,λx hx=>(by cases hx),⟨show(0:Int)<=0 by decide,show(0:Int)<=4 by decide⟩,⟨show(0:Int)<=0 by decide,show(0:Int)<=1000000 by decide⟩⟩
def amg{p1 f1}(U1:alW p1 f1)(w i:List Int)(hw:w.length<1000000)(hi:i.length<1000000):Q9.F (p1,f1,()) (w,i,()) (λy=>y=((jY w i).pc,(jY w i).save,(jY w i).dV,(jY w i).waits,(jY w i).halt,(jY w i).count,(jY w i).regs,(jY w i).mem,(jY w i).ins,())):=by
 have P:=U1.hp w ah;have P':=U1.hp i ah;have Q:=U1.hf w ah;have Q':=U1.hf i ah;dsimp only [Q9,gm];simp (disch:=omega) only [RR,P,P',Q,Q',qU,List.nil_append,List.length_nil];by_cases c:w.length<=64/\Wos w/\Wos i
 .have e:jY w i=⟨[0,0,0,0],0,w++List.replicate (64-w.length) 0,0,false,false,0,i,[],0⟩:=by unfold jY;rw [aU c,if_pos rfl]
  obtain⟨c1,c2,c3⟩:=c;rw [e,aU c2,aU c3];refine⟨λq=>absurd q (by simp;omega),λ_=>⟨ah,?_⟩⟩;have lm:(w++List.replicate (64-w.length) (0:Int)).length=64:=by rw [List.length_append,List.length_replicate];omega
  have am:∀k:Nat,k<64->(w++List.replicate (64-w.length) (0:Int))[k]? =some (if k<w.length then w.getD k default else 0):=λk hk=>by
   by_cases g:k<w.length
   .rw [if_pos g,List.getElem?_append_left g,List.getElem?_eq_getElem g,getD_lt g]
   .rw [if_neg g,List.getElem?_append_right ah,List.getElem?_replicate,if_pos ah]
  generalize w++List.replicate (64-w.length) (0:Int)=M at lm am;refine ak (λ(y:List Int×Int×Int×Int×Bool×Bool×Int×Int×Int×Int×Bool×Bool×Int×Int×List Int×List Int×List Int×Unit)=>y.1=w/\0<=y.2.1/\y.2.1<=64/\y.2.2.2.2.2.2.2.2=(0,0,false,false,0,0,[0,0,0,0],M.take y.2.1.toNat,i,())) (λy=>(64-y.2.1).toNat) ⟨rfl,by simp,by simp,rfl⟩ ?_;rintro⟨(w:List Int),(k:Int),u1,u2,u3,u4,u5,u6,v1,v2,v3,v4,v5,v6,r,l,j,⟨⟩⟩ hI;dsimp only at hI ⊢;obtain⟨rfl,h1,h2,h3⟩:=hI;simp only [Prod.mk.injEq,and_true]at h3;obtain⟨rfl,rfl,rfl,rfl,rfl,rfl,rfl,rfl,rfl⟩:=h3;have tl:(M.take k.toNat).length<=64:=by rw [List.length_take];omega
  have nx:k<64->M.take (k+1).toNat=M.take k.toNat++ [if k.toNat<w.length then w.getD k.toNat default else 0]:=λg=>by
   rw [show(k+1).toNat=k.toNat+1 by omega,List.take_add_one,am _ ah];rfl
  simp (disch:=omega) only [RR,List.length_cons,List.length_nil];refine⟨λg=>⟨λg2=>⟨h1,g2,ah,⟨ah,ah,?_⟩,ah⟩,λg2=>⟨ah,⟨ah,ah,?_⟩,ah⟩⟩,λg=> ?_⟩
  .rw [nx g,if_pos ah]
  .rw [nx g,if_neg ah]
  .rw [List.take_of_length_le ah]
 .have e:jY w i=JO:=by unfold jY;rw [bJ c,if_neg (by decide)]
  rw [e];refine⟨λ_=>rfl,λg=>absurd ⟨ah,aT.1 g.1.2,aT.1 g.2⟩ c⟩
theorem FZ(m:aH)(b:Bool):stepM m b=(if 64<=(smp m b).pc then {smp m b with halt:=4}else if bp (dL (sQ (((smp m b).mem).getD ((smp m b).pc).toNat default)))=false then {smp m b with halt:=2}else exec (smp m b) (sQ (((smp m b).mem).getD ((smp m b).pc).toNat default))):=rfl
def acR{m:aH}(h:MOK m)(b:Bool):MOK (smp m b):=by
 unfold smp;split
 .exact {h with sv:=h.pc,pc:=⟨show(0:Int)<=48 by decide,show(48:Int)<=65535 by decide⟩}
 .exact {h with}
def Sq(m:aH)(b:Bool):(smp m b).ins=m.ins/\(smp m b).outs=m.outs/\(smp m b).count=m.count:=by unfold smp;split<;>exact⟨rfl,rfl,rfl⟩
def amh{m:aH}(h:MOK m){i:Ins}(hi:dL i):Wo (nxt m i):=by
 obtain⟨_,_,_,k0,_,_,_,_,_,r9,_⟩:=hi;unfold nxt;split
 .exact h.sv
 split
 .rename_i c;exact⟨k0,by have:=r9 ah;omega⟩
 split
 .exact h.rw.at _
 .unfold Wo;omega
def agM(m:aH)(i:Ins):(eff m i).count=m.count/\(eff m i).ins.length<=m.ins.length/\(eff m i).outs.length<=m.outs.length+1:=by
 unfold eff
 repeat' split
 all_goals refine⟨rfl,?_,?_⟩
 all_goals first | exact Nat.le_refl _ | exact Nat.le_succ _ | (simp only [List.length_append,List.length_cons,List.length_nil];omega) | (simp only [List.length_drop];omega)
def mF{m:aH}(h:MOK m){i:Ins}(hi:dL i)(c:m.count<1000000):MOK (exec m i):=by
 unfold exec;split
 .exact {h with ha:=⟨show(0:Int)<=3 by decide,show(3:Int)<=4 by decide⟩}
 .have:=h.ct;exact {al0 h hi with pc:=amh h hi,ct:=⟨show 0<=m.count+1 by omega,show m.count+1<=1000000 by omega⟩}
def agN(m:aH)(i:Ins):(exec m i).ins.length<=m.ins.length/\(exec m i).outs.length<=m.outs.length+1:=by
 unfold exec;split
 .exact⟨Nat.le_refl _,Nat.le_succ _⟩
 .exact(agM m i).2
def Mx{m:aH}(h:MOK m)(c:m.count<1000000)(b:Bool):MOK (stepM m b):=by
 have s:=acR h b;rw [FZ];split
 .exact {s with ha:=⟨show(0:Int)<=4 by decide,show(4:Int)<=4 by decide⟩}
 split
 .exact {s with ha:=⟨show(0:Int)<=2 by decide,show(2:Int)<=4 by decide⟩}
 .rename_i g;exact mF s (aT.1 (by simpa using g)) (by rw [(Sq m b).2.2];exact c)
def MB(m:aH)(b:Bool):(stepM m b).ins.length<=m.ins.length/\(stepM m b).outs.length<=m.outs.length+1:=by
 obtain⟨e1,e2,_⟩:=Sq m b;rw [FZ];split
 .exact⟨by rw [<-e1];exact Nat.le_refl _,by rw [<-e2];exact Nat.le_succ _⟩
 split
 .exact⟨by rw [<-e1];exact Nat.le_refl _,by rw [<-e2];exact Nat.le_succ _⟩
 .rw [<-e1,<-e2];exact agN _ _
noncomputable def stS (m:aH) (b:Bool):aH:=if bp (MOK m)=true then(if m.halt≠0\/m.count=1000000 then m else stepM m b)else JO
structure auR(pp:Int×Unit->Bool)(ff:Int×Unit->Int×Int×Int×Int×Bool×Unit):Prop where
 hp:∀w,pp (w,())=true
 hf:∀w,ff (w,())=tkI w
def ami{p1 f1 p2 f2 p3 f3 p5 f5}(U1:auR p1 f1)(U2:agH p2 f2)(U3:alZ p3 f3){p4:Int×Int×Bool×Bool×Int×List Int×Int×Ins×List Int×List Int×List Int×Unit->Bool}{f4:Int×Int×Bool×Bool×Int×List Int×Int×Ins×List Int×List Int×List Int×Unit->Int×Int×Bool×Bool×Int×List Int×Int×List Int×List Int×List Int×Unit}(hp4:∀(m:aH) (i:Ins),MOK m->dL i->m.ins.length<1000000000->m.outs.length<900000000->p4 (m.pc,m.save,m.dV,m.waits,m.halt,m.ins,m.count,i,m.regs,m.mem,m.outs,())=true)(hf4:∀(m:aH) (i:Ins),MOK m->dL i->m.ins.length<1000000000->m.outs.length<900000000->f4 (m.pc,m.save,m.dV,m.waits,m.halt,m.ins,m.count,i,m.regs,m.mem,m.outs,())=mB (exec m i))(U5:al5 p5 f5){p6:Int×Int×Bool×Bool×Int×List Int×Int×Bool×List Int×List Int×List Int×Unit->Bool}{f6:Int×Int×Bool×Bool×Int×List Int×Int×Bool×List Int×List Int×List Int×Unit->Int×Int×Bool×Bool×Int×List Int×Int×List Int×List Int×List Int×Unit}(hp6:∀(m:aH) (b:Bool),p6 (m.pc,m.save,m.dV,m.waits,m.halt,m.ins,m.count,b,m.regs,m.mem,m.outs,())=true)(hf6:∀(m:aH) (b:Bool),f6 (m.pc,m.save,m.dV,m.waits,m.halt,m.ins,m.count,b,m.regs,m.mem,m.outs,())=mB (smp m b))(m:aH)(b:Bool)(h:MSh m)(ho:m.outs.length<900000000):Ry.F (p1,f1,p2,f2,p3,f3,p4,f4,p5,f5,p6,f6,()) (m,b,()) (λy=>y=mB (stS m b)):=by
 have P6:=hp6 m b;have H6:=hf6 m b;dsimp only [Ry,gm];simp (disch:=omega) only [RR,MRB,U1.hp,U1.hf,U2.hp m h,U2.hf m h,U3.hp m h,U3.hf m h,P6,H6];unfold stS;refine⟨λg=>by rw [if_neg (by rw [g];decide)];rfl,λg=> ?_⟩;have ok:=aT.1 g;have s:=acR ok b;obtain⟨e1,e2,_⟩:=Sq m b;have m64:=s.m64;have pw:0<=(smp m b).pc/\(smp m b).pc<=65535:=s.pc;have P5:=U5.hp (smp m b);have H5:=U5.hf (smp m b);rw [if_pos g];refine⟨λq=>by rw [if_pos q],λq=> ?_⟩;rw [if_neg ah,FZ];have wm:=s.mw.at (smp m b).pc;simp only [P5,H5];refine⟨λq=>⟨trivial,by rw [if_pos q]⟩,λq=>⟨ah,ah,ah,ah,?_⟩⟩;rw [if_neg ah];by_cases k:dL (sQ (((smp m b).mem).getD ((smp m b).pc).toNat default))
 .have t:tkI (((smp m b).mem).getD ((smp m b).pc).toNat default)=((sQ (((smp m b).mem).getD ((smp m b).pc).toNat default)).op,(sQ (((smp m b).mem).getD ((smp m b).pc).toNat default)).d,(sQ (((smp m b).mem).getD ((smp m b).pc).toNat default)).a,(sQ (((smp m b).mem).getD ((smp m b).pc).toNat default)).k,true,()):=by unfold tkI;rw [aU ⟨wm,k⟩,if_pos rfl]
  rw [t,aU k,if_neg (by decide)];have P4:=hp4 (smp m b) _ s k (by rw [e1];exact h.2.2.1) (by rw [e2];exact ho);have H4:=hf4 (smp m b) _ s k (by rw [e1];exact h.2.2.1) (by rw [e2];exact ho);exact⟨λc=>(by cases c),λ_=>⟨P4,H4⟩⟩
 .have t:tkI (((smp m b).mem).getD ((smp m b).pc).toNat default)=(0,0,0,0,false,()):=by unfold tkI;rw [bJ (λq=>k q.2),if_neg (by decide)]
  rw [t,bJ k,if_pos rfl];exact⟨λ_=>⟨trivial,rfl⟩,λc=>(by cases c)⟩
noncomputable def Dp (q:List Int):Nat->aH->aH
 | 0,m=>m
 | k+1,m=>if m.halt=0/\m.count<1000000 then Dp q k (stepM m (bp (m.count∈q)))else m
def VH(q:List Int):∀(k:Nat) {m:aH},MOK m->MOK (Dp q k m)
 | 0,m,h=>h
 | k+1,m,h=>by
  unfold Dp;split
  .rename_i c;exact VH q k (Mx h c.2 _)
  .exact h
def VI(q:List Int):∀(k:Nat) (m:aH),(Dp q k m).ins.length<=m.ins.length/\(Dp q k m).outs.length<=m.outs.length+k
 | 0,m=>⟨Nat.le_refl _,Nat.le_refl _⟩
 | k+1,m=>by
  unfold Dp;split
  .have a:=VI q k (stepM m (bp (m.count∈q)));have b:=MB m (bp (m.count∈q));omega
  .omega
noncomputable def pK (q:List Int) (n:Int) (m:aH):aH:=if bp (MOK m/\n<=400)=true then Dp q n.toNat m else JO
structure auS(pp:List Int×Int×Unit->Bool)(ff:List Int×Int×Unit->Bool×Unit):Prop where
 hp:∀l n,l.length<1000000000->pp (l,n,())=true
 hf:∀l n,l.length<1000000000->ff (l,n,())=(bp (n∈l),())
theorem amj{p1 f1 p3 f3 p4 f4}(U1:agH p1 f1){p2:aH×Bool×Unit->Bool}{f2:aH×Bool×Unit->Int×Int×Bool×Bool×Int×List Int×Int×List Int×List Int×List Int×Unit}(hp2:∀m b,MSh m->m.outs.length<900000000->p2 (m,b,())=true)(hf2:∀m b,MSh m->m.outs.length<900000000->f2 (m,b,())=mB (stS m b))(U3:alZ p3 f3)(U4:auS p4 f4)(m:aH)(q:List Int)(n:Int)(h:MSh m)(hq:q.length<1000000000)(ho:m.outs.length<800000000):RA.F (p1,f1,p2,f2,p3,f3,p4,f4,()) (m,q,n,()) (λy=>y=mB (pK q n m)):=by
 dsimp only [RA,gm];simp (disch:=omega) only [RR,MRB,U1.hp m h,U1.hf m h,U3.hp m h,U3.hf m h];refine⟨λg=> ?_,λg=> ?_⟩
 .unfold pK;rw [jc,if_neg]
  .rfl
  .rcases g with g | g
   .rw [g];simp
   .rw [bJ (show¬n<=400 by omega)];simp
 have ok:=aT.1 g.1;have e:pK q n m=Dp q n.toNat m:=by unfold pK;rw [aU ⟨ok,ah⟩,if_pos rfl]
 rw [e];have n4:n<=400:=by omega
 refine ak (λ(y:List Int×Int×Int×Int×Int×Bool×Bool×Int×Int×Int×Int×Bool×Bool×Int×List Int×Int×List Int×List Int×List Int×Unit)=>∃(x:aH) (k:Nat),y.1=q/\y.2.1=n/\y.2.2.1=k/\k<=n.toNat/\y.2.2.2.2.2.2.2.2.2=mB x/\MOK x/\x.ins.length<=m.ins.length/\x.outs.length<=m.outs.length+k/\Dp q (n.toNat-k) x=Dp q n.toNat m) (λy=>(n-y.2.2.1).toNat)
  ⟨m,0,rfl,rfl,rfl,ah,rfl,ok,Nat.le_refl _,Nat.le_refl _,rfl⟩ ?_
 rintro⟨(q:List Int),(n:Int),(i:Int),u1,u2,u3,u4,u5,u6,v1,v2,v3,v4,v5,v6,v7,v8,v9,v10,⟨⟩⟩ ⟨x,k,hI⟩;dsimp only at hI ⊢;obtain⟨rfl,rfl,rfl,h1,h2,h3,h4,h5,h6⟩:=hI;simp only [Prod.mk.injEq,and_true]at h2;obtain⟨rfl,rfl,rfl,rfl,rfl,rfl,rfl,rfl,rfl,rfl⟩:=h2;have xs:MSh x:=⟨by rw [h3.r4];decide,by rw [h3.m64];decide,by have:=h.2.2.1;omega,ah⟩;have mK:Co.mk .iK (x.regs,x.pc,x.mem,x.save,x.dV,x.waits,x.halt,x.ins,x.outs,x.count,())=x:=rfl;simp (disch:=omega) only [RR,mK,U4.hp _ _ hq,U4.hf _ _ hq,hp2 x _ xs ah,hf2 x _ xs ah];refine⟨λg=> ?_,λg=> ?_⟩
 .have e:stS x (bp (x.count∈q))=stepM x (bp (x.count∈q)):=by unfold stS;rw [aU h3,if_pos rfl,if_neg ah]
  rw [e];have l:=MB x (bp (x.count∈q));refine⟨⟨stepM x (bp (x.count∈q)),k+1,rfl,ah,rfl,Mx h3 ah _,ah,ah,?_⟩,ah⟩;rw [<-h6,show n.toNat-k=(n.toNat- (k+1))+1 by omega]
  conv=>rhs;unfold Dp
  rw [if_pos ah]
 .rw [<-h6];by_cases c:(k:Int)<n
  .rw [show n.toNat-k=(n.toNat- (k+1))+1 by omega];unfold Dp;rw [if_neg (λz=>by rw [decide_eq_true c,decide_eq_true z.1,decide_eq_true z.2]at g;cases g)]
  .rw [show n.toNat-k=0 by omega];rfl
def amk{p1 f1}(U1:Y38 p1 f1)(b:List Int)(p:Int)(hb:Bt b)(h1:0<=p)(h2:p<900000000):RD.F (p1,f1,()) (b,p,()) (λ(y:List Int×Int×List Int×Unit)=>y.1=b/\p<=y.2.1/\y.2.1<=p+10/\y.2.2.1.length<=5):=by
 obtain⟨a1,a2,a3,a4⟩:=U1.hf 5 b p hb h1 ah;dsimp only [RD,gm];simp (disch:=omega) only [RR,U1.hp 5 b p hb h1 ah,a1,a2,List.length_nil];refine ak (λ(y:Int×List Int×Int×List Int×Unit)=>0<=y.1/\y.1<=5/\y.2.1=b/\p<=y.2.2.1/\y.2.2.1+y.1<=p+6/\(y.2.2.2.1.length:Int)+y.1<=5) (λy=>y.1.toNat) ⟨a3,by dsimp only;omega,rfl,by dsimp only;omega,by dsimp only;omega,by dsimp only [List.length_nil];omega⟩ ?_;rintro⟨(k:Int),(b':List Int),(q:Int),(l:List Int),⟨⟩⟩ hI;dsimp only at hI ⊢;obtain⟨k1,k2,rfl,k3,k4,k5⟩:=hI;obtain⟨c1,c2,_,_⟩:=U1.hf 50 b' q hb ah ah;simp (disch:=omega) only [RR,U1.hp 50 b' q hb ah ah,c1,c2,List.length_cons,List.length_nil,List.length_append];exact⟨λg=>⟨ah,⟨ah,ah,ah,ah,ah⟩,ah⟩,λg=>⟨ah,ah,ah⟩⟩
def aml{p1 f1}(U1:Y38 p1 f1)(t:Int)(b:List Int)(p:Int)(hb:Bt b)(t0:0<=t/\t<=1000)(h1:0<=p)(h2:p<900000000):Rh.F (p1,f1,()) (t,b,p,()) (λ(y:List Int×Int×List Ins×Unit)=>y.1=b/\p<=y.2.1/\y.2.1<=p+500/\y.2.2.1.length<=10):=by
 have R:=pkR hb U1.hf;have P:=λn p h1 h2=>U1.hp n b p hb h1 h2
 dsimp only [Rh,gm];simp (disch:=omega) only [RR,R,P,List.length_cons,List.length_nil];exact⟨ah,ah,ah⟩
def amm{p1 f1 p2 f2}(U1:Y71 p1 f1)(U2:Y38 p2 f2)(t:Int)(b:List Int)(p:Int)(hb:Bt b)(t0:0<=t/\t<=1000)(h1:0<=p)(h2:p<700000000):Rf.F (p1,f1,p2,f2,()) (t,b,p,()) (λ(y:List Int×Int×List Ins×Unit)=>y.1=b/\p<=y.2.1/\y.2.1<=p+500/\y.2.2.1.length<=10):=by
 have R:=pkR hb U2.hf;have P:=λn p h1 h2=>U2.hp n b p hb h1 h2
 obtain⟨_,_,a3,a4⟩:=U2.hf 4 b (p+1+1) hb ah ah;dsimp only [Rf,gm];simp (disch:=omega) only [RR,R,P,List.length_cons,List.length_nil,List.length_append];refine ak (λ(y:Int×Int×List Int×Int×List Ins×Unit)=>0<=y.2.1/\y.2.1<=4/\y.2.2.1=b/\p<=y.2.2.2.1/\y.2.2.2.1+50*y.2.1<=p+300/\(y.2.2.2.2.1.length:Int)+y.2.1<=7) (λy=>y.2.1.toNat) ⟨a3,by dsimp only;omega,rfl,by dsimp only;omega,by dsimp only;omega,by dsimp only [List.length_cons,List.length_nil];omega⟩ ?_;rintro⟨(t:Int),(k:Int),(b':List Int),(q:Int),(l:List Ins),⟨⟩⟩ hI;dsimp only at hI ⊢;obtain⟨k1,k2,rfl,k3,k4,k5⟩:=hI;obtain⟨c1,c2,c3,c4⟩:=U1.hf b' q hb ah ah;simp (disch:=omega) only [RR,U1.hp b' q hb ah ah,c1,List.length_cons,List.length_nil,List.length_append];refine⟨λg=>⟨λ_=>⟨ah,⟨ah,ah,ah,ah,ah⟩,ah⟩,λ_=>⟨ah,⟨ah,ah,ah,ah,ah⟩,ah⟩⟩,λg=>⟨ah,ah,ah,ah⟩⟩
structure ImD(b:List Int)(p:Int)(y:List Int×Int×List Int×Unit):Prop where
 b:y.1=b
 lo:p<=y.2.1
 hi:y.2.1<=p+8000
 len:y.2.2.1.length<=64
 w:Wos y.2.2.1
structure auT(pp:List Ins×Unit->Bool)(ff:List Ins×Unit->List Int×Unit):Prop where
 hp:∀l,l.length<1000000->pp (l,())=true
 hf:∀l,l.length<1000000->ff (l,())=(l.map FY,())
def amn{p1 f1 p2 f2 p4 f4 p5 f5 p7 f7 p8 f8 p9 f9}(U1:auT p1 f1)(U2:arM p2 f2){p3:Int×List Int×Int×Unit->Bool}{f3:Int×List Int×Int×Unit->List Int×Int×List Ins×Unit}(hp3:∀t b p,Bt b->(0<=t/\t<=1000)->0<=p->p<700000000->p3 (t,b,p,())=true)(hf3:∀t b p,Bt b->(0<=t/\t<=1000)->0<=p->p<700000000->(f3 (t,b,p,())).1=b/\p<=(f3 (t,b,p,())).2.1/\(f3 (t,b,p,())).2.1<=p+500/\(f3 (t,b,p,())).2.2.1.length<=10)(U4:Y71 p4 f4)(U5:Y70 p5 f5){p6:Int×List Int×Int×Unit->Bool}{f6:Int×List Int×Int×Unit->List Int×Int×List Ins×Unit}(hp6:∀t b p,Bt b->(0<=t/\t<=1000)->0<=p->p<900000000->p6 (t,b,p,())=true)(hf6:∀t b p,Bt b->(0<=t/\t<=1000)->0<=p->p<900000000->(f6 (t,b,p,())).1=b/\p<=(f6 (t,b,p,())).2.1/\(f6 (t,b,p,())).2.1<=p+500/\(f6 (t,b,p,())).2.2.1.length<=10)(U7:Y39 p7 f7)(U8:Y38 p8 f8)(U9:Y40 p9 f9)(b:List Int)(p:Int)(hb:Bt b)(h1:0<=p)(h2:p<600000000):Ri.F (p1,f1,p2,f2,p3,f3,p4,f4,p5,f5,p6,f6,p7,f7,p8,f8,p9,f9,()) (b,p,()) (λy=>ImD b p y):=by
 have R:=pkR hb U8.hf;have P:=λn p h1 h2=>U8.hp n b p hb h1 h2
 obtain⟨_,_,a3,a4⟩:=U8.hf 5 b (p+1) hb ah ah;dsimp only [Ri,gm];simp (disch:=omega) only [RR,R,P,List.length_cons,List.length_nil,List.length_append];refine⟨λ_=>⟨ah,?_⟩,λ_=> ?_⟩
 all_goals refine ak (λ(y:Int×List Int×Int×List Ins×Unit)=>0<=y.1/\y.1<=5/\y.2.1=b/\p<=y.2.2.1/\y.2.2.1+550*y.1<=p+2800/\(y.2.2.2.1.length:Int)<=44) (λy=>y.1.toNat) ⟨by dsimp only;omega,by dsimp only;omega,rfl,by dsimp only;omega,by dsimp only;omega,by simp⟩ ?_
 all_goals
  rintro⟨(k:Int),(b':List Int),(q:Int),(l:List Ins),⟨⟩⟩ hI;dsimp only at hI ⊢;obtain⟨k1,k2,rfl,k3,k4,k5⟩:=hI;obtain⟨_,_,d3,d4⟩:=U8.hf 8 b' (q+1) hb ah ah;simp (disch:=omega) only [RR,R,P,List.length_cons,List.length_nil,List.length_append];refine⟨λg=>⟨λ_=> ?_,λ_=>⟨λ_=> ?_,λ_=> ?_⟩⟩,λg=>⟨ah,U1.hp _ (by simp;omega),?_⟩⟩
  .obtain⟨z1,z2,z3,z4⟩:=hf3 l.length b' (q+1) hb ah ah ah;exact⟨hp3 l.length b' (q+1) hb ah ah ah,ah,⟨ah,ah,z1,ah,ah,ah⟩,ah⟩
  .obtain⟨z1,z2,z3,z4⟩:=hf6 l.length b' (q+1) hb ah ah ah;exact⟨hp6 l.length b' (q+1) hb ah ah ah,ah,⟨ah,ah,z1,ah,ah,ah⟩,ah⟩
  .refine ak (λ(y:Int×Int×List Int×Int×List Ins×Unit)=>y.1=k/\0<=y.2.1/\y.2.1<=8/\y.2.2.1=b'/\q<=y.2.2.2.1/\y.2.2.2.1+30*y.2.1<=q+300/\(y.2.2.2.2.1.length:Int)+y.2.1<=42) (λy=>y.2.1.toNat) ⟨rfl,by dsimp only;omega,by dsimp only;omega,rfl,by dsimp only;omega,by dsimp only;omega,by dsimp only;omega⟩ ?_;rintro⟨(k:Int),(j:Int),(b'':List Int),(q':Int),(l':List Ins),⟨⟩⟩ hI;dsimp only at hI ⊢;obtain⟨rfl,j1,j2,rfl,j3,j4,j5⟩:=hI;obtain⟨c1,c2,c3,_⟩:=U5.hf b'' q' hb ah ah;simp (disch:=omega) only [RR,U5.hp b'' q' hb ah ah,c1,List.length_cons,List.length_nil,List.length_append];exact⟨λ_=>⟨ah,⟨ah,ah,ah,ah,ah⟩,ah⟩,λ_=>⟨⟨ah,ah,ah,ah,ah⟩,ah⟩⟩
  .rw [U1.hf _ (by simp;omega)];have ww:∀l:List Ins,Wos (l.map FY):=λl x hx=>by obtain⟨i,_,rfl⟩:=List.mem_map.1 hx;exact Ah i
   refine ak (λ(y:List Int×Int×List Int×Unit)=>y.1=b'/\q<=y.2.1/\y.2.1<=q+40*y.2.2.1.length/\y.2.2.1.length<=48/\Wos y.2.2.1) (λy=>48-y.2.2.1.length) ⟨rfl,by dsimp only;omega,by dsimp only;omega,by simp;omega,ww _⟩ ?_;rintro⟨(b'':List Int),(r:Int),(o:List Int),⟨⟩⟩ hI;dsimp only at hI ⊢;obtain⟨rfl,j1,j2,j3,j4⟩:=hI;obtain⟨e1,e2,e3,e4⟩:=U9.hf b'' r hb ah ah;obtain⟨c1,c2,c3,_⟩:=U5.hf b'' (f9 (b'',r,())).2.2.1 hb ah ah;have p5':=U5.hp b'' (f9 (b'',r,())).2.2.1 hb ah ah;obtain⟨_,_,g3,g4⟩:=U8.hf 4 b'' r hb ah ah;simp (disch:=omega) only [RR,R,P,U9.hp b'' r hb ah ah,e1,p5',c1,U2.hp,U2.hf,List.length_cons,List.length_nil,List.length_append,qU];refine⟨λ_=>⟨ah,⟨ah,ah,ah,j4.snoc (Wos.at (amf (amf (amf (λ_ h=>(by cases h)) (Ah _)) e4) wo0) _)⟩,ah⟩,λ_=>⟨ah,ah,ah,ah,ah,?_⟩⟩;refine ak (λ(y:Int×List Int×Int×List Int×Unit)=>0<=y.1/\y.1<=4/\y.2.1=b''/\r<=y.2.2.1/\y.2.2.1+50*y.1<=r+300/\(y.2.2.2.1.length:Int)+y.1<=52/\Wos y.2.2.2.1) (λy=>y.1.toNat) ⟨g3,by dsimp only;omega,rfl,by dsimp only;omega,by dsimp only;omega,by simp only [List.length_drop,List.length_take];omega,λx hx=>j4 x (List.mem_of_mem_take (List.mem_of_mem_drop hx))⟩ ?_;rintro⟨(m:Int),(b3:List Int),(t:Int),(u:List Int),⟨⟩⟩ hI;dsimp only at hI ⊢;obtain⟨m1,m2,rfl,m3,m4,m5,m6⟩:=hI;obtain⟨c1,c2,c3,_⟩:=U4.hf b3 t hb ah ah;obtain⟨o1,o2⟩:=U7.hf 9 b3 t hb ah ah;have OP:=U7.hp 9 b3 t hb ah ah;obtain⟨_,_,n3,n4⟩:=U8.hf (u.length+2) b3 (t+1) hb ah ah;obtain⟨e1,e2,e3,e4⟩:=U9.hf b3 (t+1+1) hb ah ah;have W9:=U9.hp b3 (t+1+1) hb ah ah;simp (disch:=omega) only [RR,R,P,U4.hp b3 t hb ah ah,c1,U2.hp,U2.hf,OP,o1,o2,W9,e1,List.length_cons,List.length_nil,List.length_append,qU];have w2:Wos (u++ [FY (Co.mk .ins (14,3,0,0,())),FY (Co.mk .ins (0,0,0,1,()))]):=by
    rw [show∀x y:Int,u++ [x,y]=(u++ [x])++ [y] by simp];exact(m6.snoc (Ah _)).snoc (Ah _)
   refine⟨λ_=>⟨ah,⟨ah,ah,ah,ah,ah,m6.snoc (Ah _)⟩,ah⟩,λ_=>⟨ah,λ_=>⟨rfl,?_,?_,?_,w2.set e4 _⟩,λ_=>⟨rfl,?_,?_,?_,w2⟩⟩⟩
   .dsimp only;omega
   .dsimp only;omega
   .dsimp only;rw [List.length_set,List.length_append,List.length_cons,List.length_cons,List.length_nil];omega
   .dsimp only;omega
   .dsimp only;omega
   .dsimp only;rw [List.length_append,List.length_cons,List.length_cons,List.length_nil];omega
abbrev YMc:=Int×Int×Bool×Bool×Int×List Int×Int×List Int×Int×List Int×List Int×List Int×Unit
abbrev mE(y : YMc) : aH := ⟨y.2.2.2.2.2.2.2.2.2.1, y.1, y.2.2.2.2.2.2.2.2.2.2.1, y.2.1, y.2.2.1, y.2.2.2.1, y.2.2.2.2.1, y.2.2.2.2.2.1, y.2.2.2.2.2.2.2.2.2.2.2.1, y.2.2.2.2.2.2.1⟩
structure McD(b:List Int)(p:Int)(y:YMc):Prop where
 b:y.2.2.2.2.2.2.2.1=b
 lo:p<=y.2.2.2.2.2.2.2.2.1
 hi:y.2.2.2.2.2.2.2.2.1<=p+9500
 ok:MOK (mE y)
 i:(mE y).ins.length<=10
 o:(mE y).outs.length<=100
def arN{X:aH}(h:MOK X){r:List Int}{pc ha:Int}{l w:Bool}(h1:Wo pc)(h2:0<=ha/\ha<=4)(h3:r.length=4)(h4:Wos r):MOK ⟨r,pc,X.mem,X.save,l,w,ha,X.ins,X.outs,X.count⟩:=
 {h with r4:=h3,rw:=h4,pc:=h1,ha:=h2}
def amo{p5 f5 p6 f6}{p1:List Int×List Int×Unit->Bool}{f1:List Int×List Int×Unit->Int×Int×Bool×Bool×Int×Int×List Int×List Int×List Int×Unit}(hp1:∀w i,w.length<1000000->i.length<1000000->p1 (w,i,())=true)(hf1:∀w i,w.length<1000000->i.length<1000000->f1 (w,i,())=((jY w i).pc,(jY w i).save,(jY w i).dV,(jY w i).waits,(jY w i).halt,(jY w i).count,(jY w i).regs,(jY w i).mem,(jY w i).ins,())){p2:aH×List Int×Int×Unit->Bool}{f2:aH×List Int×Int×Unit->Int×Int×Bool×Bool×Int×List Int×Int×List Int×List Int×List Int×Unit}(hp2:∀m q n,MSh m->q.length<1000000000->m.outs.length<800000000->p2 (m,q,n,())=true)(hf2:∀m q n,MSh m->q.length<1000000000->m.outs.length<800000000->f2 (m,q,n,())=mB (pK q n m)){p3:List Int×Int×Unit->Bool}{f3:List Int×Int×Unit->List Int×Int×List Int×Unit}(hp3:∀b p,Bt b->0<=p->p<600000000->p3 (b,p,())=true)(hf3:∀b p,Bt b->0<=p->p<600000000->ImD b p (f3 (b,p,()))){p4:List Int×Int×Unit->Bool}{f4:List Int×Int×Unit->List Int×Int×List Int×Unit}(hp4:∀b p,Bt b->0<=p->p<900000000->p4 (b,p,())=true)(hf4:∀b p,Bt b->0<=p->p<900000000->(f4 (b,p,())).1=b/\p<=(f4 (b,p,())).2.1/\(f4 (b,p,())).2.1<=p+10/\(f4 (b,p,())).2.2.1.length<=5)(U5:Y39 p5 f5)(U6:Y38 p6 f6){p7:Int×List Int×Int×Unit->Bool}{f7:Int×List Int×Int×Unit->List Int×Int×List Int×Unit}(hp7:∀n b p,Bt b->(0<=n/\n<=100)->0<=p->p<800000000->p7 (n,b,p,())=true)(hf7:∀n b p,Bt b->(0<=n/\n<=100)->0<=p->p<800000000->(f7 (n,b,p,())).1=b/\p<=(f7 (n,b,p,())).2.1/\(f7 (n,b,p,())).2.1<=p+300/\(f7 (n,b,p,())).2.2.1.length=n/\wOK (f7 (n,b,p,())).2.2.1)(b:List Int)(p:Int)(hb:Bt b)(h1:0<=p)(h2:p<500000000):RF.F (p1,f1,p2,f2,p3,f3,p4,f4,p5,f5,p6,f6,p7,f7,()) (b,p,()) (λy=>McD b p y):=by
 obtain⟨i1,i2,i3,i4,i5⟩:=hf3 b p hb h1 ah;have P3:=hp3 b p hb h1 ah;generalize hy:f3 (b,p,())=y at i1 i2 i3 i4 i5;obtain⟨b',q0,w,⟨⟩⟩:=y;dsimp only at i1 i2 i3 i4 i5;subst i1;have R:=pkR hb U6.hf;have P:=λn p h1 h2=>U6.hp n b' p hb h1 h2
 obtain⟨_,_,a3,a4⟩:=U6.hf 5 b' q0 hb ah ah;obtain⟨w1,w2,w3,w4,w5⟩:=hf7 (f6 (5,b',q0,())).1 b' (q0+1) hb ah ah ah;have P7:=hp7 (f6 (5,b',q0,())).1 b' (q0+1) hb ah ah ah;generalize hz:f7 ((f6 (5,b',q0,())).1,b',q0+1,())=z at w1 w2 w3 w4 w5;obtain⟨b2,q1,is,⟨⟩⟩:=z;dsimp only at w1 w2 w3 w4 w5;subst w1;have P1:=hp1 w is ah ah;have H1:=hf1 w is ah ah;have ok:=agL i4 i5 w5;have oe:(jY w is).outs=[]:=by unfold jY;split<;>rfl
 have ie:(jY w is).ins.length<=10:=by unfold jY;split;(dsimp only;omega);exact Nat.zero_le _
 generalize jY w is=M at P1 H1 ok oe ie;have mK:Co.mk .iK (M.regs,M.pc,M.mem,M.save,M.dV,M.waits,M.halt,M.ins,[],M.count,())=M:=by cases M;dsimp only at oe;subst oe;rfl
 have P4:=hp4 b2 q1 hb ah ah;obtain⟨q1',q2',q3',q4'⟩:=hf4 b2 q1 hb ah ah;generalize hr:f4 (b2,q1,())=r at q1' q2' q3' q4';obtain⟨b3,q2,qs,⟨⟩⟩:=r;dsimp only at q1' q2' q3' q4';subst q1';have ms:MSh M:=⟨by rw [ok.r4];decide,by rw [ok.m64];decide,ah,by rw [oe];decide⟩;obtain⟨_,_,n3,n4⟩:=U6.hf 40 b3 q2 hb ah ah;have P2:=hp2 M qs (f6 (40,b3,q2,())).1 ms ah (by rw [oe];decide);have H2:=hf2 M qs (f6 (40,b3,q2,())).1 ms ah (by rw [oe];decide);have hX:MOK (pK qs (f6 (40,b3,q2,())).1 M):=by unfold pK;rw [aU ⟨ok,ah⟩,if_pos rfl];exact VH _ _ ok
 have lX:(pK qs (f6 (40,b3,q2,())).1 M).ins.length<=10/\(pK qs (f6 (40,b3,q2,())).1 M).outs.length<=100:=by
  unfold pK;rw [aU ⟨ok,ah⟩,if_pos rfl];have:=VI qs (f6 (40,b3,q2,())).1.toNat M;rw [oe]at this;simp only [List.length_nil]at this;omega
 generalize pK qs (f6 (40,b3,q2,())).1 M=X at P2 H2 hX lX;obtain⟨v1,v2,v3,v4,v5⟩:=hf7 4 b3 (q2+1+1) hb ah ah ah;have P7':=hp7 4 b3 (q2+1+1) hb ah ah ah;generalize hv:f7 (4,b3,q2+1+1,())=v at v1 v2 v3 v4 v5;obtain⟨b4,q3,vs,⟨⟩⟩:=v;dsimp only at v1 v2 v3 v4 v5;subst v1;have O:=λn p h1 h2=>(U5.hf n b4 p hb h1 h2).1
 have O':=λn p h1 h2=>(U5.hf n b4 p hb h1 h2).2
 have OP:=λn p h1 h2=>U5.hp n b4 p hb h1 h2
 dsimp only [RF,gm];simp (disch:=omega) only [RR,P3,hy,R,P,P7,hz,P1,H1,mK,P4,hr,P2,H2,P7',hv,O,O',OP];have pk:∀t:Int,0<=t->t<1000000000->Wo (f6 (66,b4,t,())).1:=λt h1 h2=>by obtain⟨_,_,c3,c4⟩:=U6.hf 66 b4 t hb h1 h2;unfold Wo;omega
 have v4':vs.length=4:=by omega
 repeat' (first | (refine⟨?_,?_⟩) | intro _)
 all_goals first | omega | (refine⟨rfl,by dsimp only;omega,by dsimp only;omega,arN hX (by first | exact hX.pc | exact pk _ ah ah) (by first | exact hX.ha | exact⟨show(0:Int)<=0 by decide,show(0:Int)<=4 by decide⟩) (by first | exact hX.r4 | exact v4') (by first | exact hX.rw | exact v5),lX.1,lX.2⟩)
abbrev YMo:=Int×List Int×Int×Bool×Bool×Int×List Int×Int×List Int×Int×List Int×List Int×Unit
structure MoD(b:List Int)(p:Int)(y:YMo):Prop where
 b:y.2.2.2.2.2.2.2.2.1=b
 lo:p<=y.2.2.2.2.2.2.2.2.2.1
 hi:y.2.2.2.2.2.2.2.2.2.1<=p+9600
 r:y.2.2.2.2.2.2.2.2.2.2.1.length<=10
 m:y.2.1.length<=64
 i:y.2.2.2.2.2.2.1.length<=10
 o:y.2.2.2.2.2.2.2.2.2.2.2.1.length<=110
structure arO(pp:List Int×Int×Unit->Bool)(ff:List Int×Int×Unit->YMc):Prop where
 hp:∀b p,Bt b->0<=p->p<500000000->pp (b,p,())=true
 hf:∀b p,Bt b->0<=p->p<500000000->McD b p (ff (b,p,()))
def amq{p1 f1 p2 f2 p3 f3}(U1:arO p1 f1)(U2:Y39 p2 f2)(U3:Y38 p3 f3)(n:Int)(b:List Int)(p:Int)(hb:Bt b)(h1:0<=p)(h2:p<400000000):RL.F (p1,f1,p2,f2,p3,f3,()) (n,b,p,()) (λy=>MoD b p y):=by
 obtain⟨i1,i2,i3,i4,i5,i6⟩:=U1.hf b p hb h1 ah;have P1:=U1.hp b p hb h1 ah;generalize hy:f1 (b,p,())=y at i1 i2 i3 i4 i5 i6;obtain⟨pc,sv,lt,wt,ha,ins,ct,b',q,regs,mem,outs,⟨⟩⟩:=y;have r4:=i4.r4;have m6:=i4.m64;dsimp only at i1 i2 i3 i5 i6 r4 m6;subst i1;have R:=pkR hb U3.hf;have P:=λn p h1 h2=>U3.hp n b' p hb h1 h2
 obtain⟨O,O'⟩:=U2.hf n b' q hb ah ah;have OP:=U2.hp n b' q hb ah ah;dsimp only [RL,gm];simp (disch:=omega) only [RR,P1,hy,R,P,O,O',OP,List.length_cons,List.length_nil];have tl:∀n:Nat,(List.drop (Int.toNat 1) (List.take n mem)).length<=64:=λn=>by rw [List.length_drop,List.length_take];omega
 repeat' (first | (refine⟨?_,?_⟩) | intro _)
 all_goals first | omega | (refine⟨rfl,by dsimp only;omega,by dsimp only;omega,?_,?_,by dsimp only;omega,?_⟩<;>first | (dsimp only;omega) | exact tl _ | (dsimp only;simp only [List.length_append,List.length_set,List.length_cons,List.length_nil];omega))
structure MaD(b:List Int)(p:Int)(y:YMc):Prop where
 b:y.2.2.2.2.2.2.2.1=b
 lo:p<=y.2.2.2.2.2.2.2.2.1
 hi:y.2.2.2.2.2.2.2.2.1<=p+9700
 r:(mE y).regs.length=4
 m:(mE y).mem.length=64
 i:(mE y).ins.length<=10
 o:(mE y).outs.length<=100
def amr{p1 f1 p2 f2}(U1:arO p1 f1)(U2:Y38 p2 f2)(c:Blk)(b:List Int)(p:Int)(hb:Bt b)(h1:0<=p)(h2:p<400000000):RG.F (p1,f1,p2,f2,()) (c,b,p,()) (λy=>MaD b p y):=by
 obtain⟨i1,i2,i3,i4,i5,i6⟩:=U1.hf b p hb h1 ah;have P1:=U1.hp b p hb h1 ah;generalize hy:f1 (b,p,())=y at i1 i2 i3 i4 i5 i6;obtain⟨pc,sv,lt,wt,ha,ins,ct,b',q,regs,mem,outs,⟨⟩⟩:=y;have r4:=i4.r4;have m6:=i4.m64;dsimp only at i1 i2 i3 i5 i6 r4 m6;subst i1;dsimp only [RG,gm];simp (disch:=omega) only [RR,P1,hy];refine ak (λ(y:Int×List Int×Int×Blk×Int×Int×Bool×Bool×Int×Int×Int×Int×Bool×Bool×Int×List Int×Int×List Int×List Int×List Int×Unit)=>0<=y.1/\y.1<=4/\y.2.1=b'/\q<=y.2.2.1/\y.2.2.1<=q+3*y.1/\y.2.2.2.2.2.2.2.2.2.2.2.2.2.2.2.1.length<=10/\y.2.2.2.2.2.2.2.2.2.2.2.2.2.2.2.2.2.1.length=4/\y.2.2.2.2.2.2.2.2.2.2.2.2.2.2.2.2.2.2.1.length=64/\y.2.2.2.2.2.2.2.2.2.2.2.2.2.2.2.2.2.2.2.1.length<=100) (λy=>(4-y.1).toNat) ⟨by dsimp only;omega,by dsimp only;omega,rfl,by dsimp only;omega,by dsimp only;omega,i5,r4,m6,i6⟩ ?_;rintro⟨(k:Int),(b2:List Int),(t:Int),(c:Blk),u1,u2,u3,u4,u5,u6,v1,v2,v3,v4,v5,(v6:List Int),v7,(r:List Int),(m:List Int),(o:List Int),⟨⟩⟩ hI;dsimp only at hI ⊢;obtain⟨k1,k2,rfl,k3,k4,k5,k6,k7,k8⟩:=hI;have R:=pkR hb U2.hf;have P:=λn p h1 h2=>U2.hp n b2 p hb h1 h2
 simp (disch:=omega) only [RR,R,P,List.length_cons,List.length_nil,List.length_set,k6];refine⟨λg=>⟨λ_=> ?_,λ_=> ?_⟩,λg=>⟨rfl,by dsimp only;omega,by dsimp only;omega,k6,k7,k5,k8⟩⟩
 .repeat' (first | (refine⟨?_,?_⟩) | intro _)
  all_goals omega
 .repeat' (first | (refine⟨?_,?_⟩) | intro _)
  all_goals omega
def xk(a1 a2 a3 a4 a5 a6:Int)(o:IOp)(ops:List IOp)(h:ops.length<1000000):Ph.F () (a1,a2,a3,a4,a5,a6,o,ops,()) (λy=>y=(a1,a2,a3,a4,a5,a6,(ops.length:Int),ops++ [o],())):=by
 dsimp only [Ph,gm];simp (disch:=omega) only [RR,List.length_append,List.length_cons,List.length_nil];rw [show((ops.length+(0+1):Nat):Int)-1=ops.length by omega];exact⟨ah,rfl⟩
structure acS(pp:Int×Int×Int×Int×Int×Int×IOp×List IOp×Unit->Bool)(ff:Int×Int×Int×Int×Int×Int×IOp×List IOp×Unit->Int×Int×Int×Int×Int×Int×Int×List IOp×Unit):Prop where
 hp:∀(a1 a2 a3 a4 a5 a6:Int) (o:IOp) (ops:List IOp),ops.length<1000000->pp (a1,a2,a3,a4,a5,a6,o,ops,())=true
 hf:∀(a1 a2 a3 a4 a5 a6:Int) (o:IOp) (ops:List IOp),ops.length<1000000->ff (a1,a2,a3,a4,a5,a6,o,ops,())=(a1,a2,a3,a4,a5,a6,(ops.length:Int),ops++ [o],())
def xq{p1 f1}(U1:acS p1 f1)(a1 a2 a3 a4 a5 a6 k:Int)(ops:List IOp)(h:ops.length<1000000):Pm.F (p1,f1,()) (a1,a2,a3,a4,a5,a6,k,ops,()) (λy=>y=(a1,a2,a3,a4,a5,a6,(ops.length:Int),ops++ [⟨2,0,0,k,0⟩],())):=by
 dsimp only [Pm,gm];simp (disch:=omega) only [RR,U1.hp,U1.hf,h];rfl
def xu{p1 f1}(U1:acS p1 f1)(a1 a2 a3 a4 a5 a6 k x:Int)(ops:List IOp)(h:ops.length<1000000):Pj.F (p1,f1,()) (a1,a2,a3,a4,a5,a6,k,x,ops,()) (λy=>y=(a1,a2,a3,a4,a5,a6,ops++ [⟨8,x,0,k,0⟩],())):=by
 dsimp only [Pj,gm];simp (disch:=omega) only [RR,U1.hp,U1.hf,h];rfl
def n1a(l:List IOp)(o:IOp):((l++ [o]).length:Int)=l.length+1:=by rw [List.length_append];rfl
structure agO(pp:Int×Int×Int×Int×Int×Int×Int×List IOp×Unit->Bool)(ff:Int×Int×Int×Int×Int×Int×Int×List IOp×Unit->Int×Int×Int×Int×Int×Int×Int×List IOp×Unit):Prop where
 hp:∀(a1 a2 a3 a4 a5 a6 k:Int) (ops:List IOp),ops.length<1000000->pp (a1,a2,a3,a4,a5,a6,k,ops,())=true
 hf:∀(a1 a2 a3 a4 a5 a6 k:Int) (ops:List IOp),ops.length<1000000->ff (a1,a2,a3,a4,a5,a6,k,ops,())=(a1,a2,a3,a4,a5,a6,(ops.length:Int),ops++ [⟨2,0,0,k,0⟩],())
def Ca{p1 f1 p2 f2}(U1:agO p1 f1)(U2:acS p2 f2)(a1 a2 a3 a4 a5 a6 k a:Int)(o:IOp)(ops:List IOp)(h:ops.length<990000):Pn.F (p1,f1,p2,f2,()) (a1,a2,a3,a4,a5,a6,k,a,o,ops,()) (λy=>y=(a1,a2,a3,a4,a5,a6,(ops.length:Int)+2,ops++ [⟨2,0,0,a,0⟩,o,⟨3,ops.length,ops.length+1,k,0⟩],())):=by
 have m1:∀(l:List IOp) (o:IOp),l.length<990000->(l++ [o]).length<1000000:=λl o h=>by rw [List.length_append];simp only [List.length_cons,List.length_nil];omega
 have m2:∀(l:List IOp) (o o2:IOp),l.length<990000->((l++ [o])++ [o2]).length<1000000:=λl o o2 h=>by simp only [List.length_append,List.length_cons,List.length_nil];omega
 dsimp only [Pn,gm];simp (disch:=first | omega | (apply m1;omega) | (apply m2;omega)) only [RR,U1.hp,U1.hf,U2.hp,U2.hf,n1a];simp;rfl
structure arP(pp:Int×Int×Int×Int×Int×Int×Int×Int×IOp×List IOp×Unit->Bool)(ff:Int×Int×Int×Int×Int×Int×Int×Int×IOp×List IOp×Unit->Int×Int×Int×Int×Int×Int×Int×List IOp×Unit):Prop where
 hp:∀(a1 a2 a3 a4 a5 a6 k a:Int) (o:IOp) (ops:List IOp),ops.length<990000->pp (a1,a2,a3,a4,a5,a6,k,a,o,ops,())=true
 hf:∀(a1 a2 a3 a4 a5 a6 k a:Int) (o:IOp) (ops:List IOp),ops.length<990000->ff (a1,a2,a3,a4,a5,a6,k,a,o,ops,())=(a1,a2,a3,a4,a5,a6,(ops.length:Int)+2,ops++ [⟨2,0,0,a,0⟩,o,⟨3,ops.length,ops.length+1,k,0⟩],())
structure arQ(pp:Int×Int×Int×Int×Int×Int×Int×Int×List IOp×Unit->Bool)(ff:Int×Int×Int×Int×Int×Int×Int×Int×List IOp×Unit->Int×Int×Int×Int×Int×Int×List IOp×Unit):Prop where
 hp:∀(a1 a2 a3 a4 a5 a6 k x:Int) (ops:List IOp),ops.length<1000000->pp (a1,a2,a3,a4,a5,a6,k,x,ops,())=true
 hf:∀(a1 a2 a3 a4 a5 a6 k x:Int) (ops:List IOp),ops.length<1000000->ff (a1,a2,a3,a4,a5,a6,k,x,ops,())=(a1,a2,a3,a4,a5,a6,ops++ [⟨8,x,0,k,0⟩],())
def Dq{p1 f1 p2 f2 p3 f3 p4 f4}(U1:agO p1 f1)(U2:acS p2 f2)(U3:arP p3 f3)(U4:arQ p4 f4)(a1 a2 a3 a4 a5 a6:Int)(i:Ins)(n:Int)(ops:List IOp)(hi:i.op=9\/i.op=10)(h:ops.length<950000):Pp.F (p1,f1,p2,f2,p3,f3,p4,f4,()) (a1,a2,a3,a4,a5,a6,i,n,ops,()) (λy=>y=(a1,a2,a3,a4,a5,a6,ops++gu n ops.length i,())):=by
 have m3:∀(l:List IOp) (o1 o2 o3:IOp),l.length<950000->(l++ [o1,o2,o3]).length<1000000:=λl o1 o2 o3 h=>by simp only [List.length_append,List.length_cons,List.length_nil];omega
 have m4:∀(l:List IOp) (o1 o2 o3 o4:IOp),l.length<950000->((l++ [o1,o2,o3])++ [o4]).length<1000000:=λl o1 o2 o3 o4 h=>by simp only [List.length_append,List.length_cons,List.length_nil];omega
 have n3:∀(l:List IOp) (o1 o2 o3:IOp),((l++ [o1,o2,o3]).length:Int)=l.length+3:=λl o1 o2 o3=>by rw [List.length_append];rfl
 dsimp only [Pp,gm];simp (disch:=first | omega | (apply m3;omega) | (apply m4;omega)) only [RR,IR,U1.hp,U1.hf,U2.hp,U2.hf,U3.hp,U3.hf,U4.hp,U4.hf,n3];unfold gu;refine⟨λe=> ?_,λe=> ?_⟩
 .rw [if_neg ah,if_neg ah,if_neg ah,if_pos e];simp;rfl
 .rw [if_neg ah,if_neg ah,if_neg ah,if_neg ah,if_pos ah];simp;rfl
def rU(k:Int)(k0:0<=k)(k1:k<=15):Po.F () (k,()) (λy=>y=(2^k.toNat,())):=by
 dsimp only [Po,gm];simp (disch:=omega) only [RR];refine ak (λ(y:Int×Int×Int×Unit)=>y.1=k/\0<=y.2.2.1/\y.2.2.1<=k/\y.2.1=2^y.2.2.1.toNat) (λy=>(k-y.2.2.1).toNat) ⟨rfl,by simp,k0,rfl⟩ ?_;rintro⟨(z:Int),(a:Int),(i:Int),⟨⟩⟩ hI;dsimp only at hI ⊢;obtain⟨rfl,j1,j2,rfl⟩:=hI;have pw:=acD j1 ah;unfold Wo at pw;simp (disch:=omega) only [RR];refine⟨λg=>⟨⟨ah,ah,?_⟩,ah⟩,λg=>by rw [show i=z by omega]⟩;rw [show(i+1).toNat=i.toNat+1 by omega,Int.pow_succ];omega
def F3{p1 f1}(U1:agO p1 f1)(B:Blk)(i:Ins)(hi:11<=i.op/\i.op<=13)(h:B.ops.length<950000):Pq.F (p1,f1,()) (B.pc,B.len,B.fin,B.x,B.y,B.k,i,B.ops,()) (λy=>y=bk7 (iI 0 B i)):=by
 have m1:∀(l:List IOp) (o:IOp),l.length<950000->(l++ [o]).length<1000000:=λl o h=>by rw [List.length_append];simp only [List.length_cons,List.length_nil];omega
 dsimp only [Pq,gm];unfold iI gu;rcases(by omega:i.op=11\/i.op=12\/i.op=13)with e | e | e
 all_goals
  simp (disch:=first | omega | (apply m1;omega)) only [RR,IR,e,U1.hp,U1.hf,n1a,Int.reduceEq,or_self,true_or,or_true]
  try simp
def Gr{p1 f1 p3 f3 p5 f5 p6 f6}(U1:agO p1 f1){p2:Int×Int×Int×Int×Int×Int×Ins×List IOp×Unit->Bool}{f2:Int×Int×Int×Int×Int×Int×Ins×List IOp×Unit->Int×Int×Int×Int×Int×Int×List IOp×Unit}(hp2:∀(B:Blk) (i:Ins),(11<=i.op/\i.op<=13)->B.ops.length<950000->p2 (B.pc,B.len,B.fin,B.x,B.y,B.k,i,B.ops,())=true)(hf2:∀(B:Blk) (i:Ins),(11<=i.op/\i.op<=13)->B.ops.length<950000->f2 (B.pc,B.len,B.fin,B.x,B.y,B.k,i,B.ops,())=bk7 (iI 0 B i))(U3:acS p3 f3){p4:Int×Int×Int×Int×Int×Int×Ins×Int×List IOp×Unit->Bool}{f4:Int×Int×Int×Int×Int×Int×Ins×Int×List IOp×Unit->Int×Int×Int×Int×Int×Int×List IOp×Unit}(hp4:∀(a1 a2 a3 a4 a5 a6:Int) (i:Ins) (n:Int) (ops:List IOp),(i.op=9\/i.op=10)->ops.length<950000->p4 (a1,a2,a3,a4,a5,a6,i,n,ops,())=true)(hf4:∀(a1 a2 a3 a4 a5 a6:Int) (i:Ins) (n:Int) (ops:List IOp),(i.op=9\/i.op=10)->ops.length<950000->f4 (a1,a2,a3,a4,a5,a6,i,n,ops,())=(a1,a2,a3,a4,a5,a6,ops++gu n ops.length i,()))(U5:arP p5 f5)(U6:arQ p6 f6){p7:Int×Unit->Bool}{f7:Int×Unit->Int×Unit}(hp7:∀k,0<=k->k<=15->p7 (k,())=true)(hf7:∀k,0<=k->k<=15->f7 (k,())=(2^k.toNat,()))(B:Blk)(i:Ins)(n:Int)(hi:dL i)(h0:i.op≠0)(h:B.ops.length<900000):Pv.F (p1,f1,p2,f2,p3,f3,p4,f4,p5,f5,p6,f6,p7,f7,()) (B.pc,B.len,B.fin,B.x,B.y,B.k,i,n,B.ops,()) (λy=>y=bk7 (iI n B i)):=by
 have m1:∀(l:List IOp) (o:IOp),l.length<950000->(l++ [o]).length<1000000:=λl o h=>by rw [List.length_append];simp only [List.length_cons,List.length_nil];omega
 have m3:∀(l:List IOp) (o1 o2 o3:IOp),l.length<950000->(l++ [o1,o2,o3]).length<1000000:=λl o1 o2 o3 h=>by simp only [List.length_append,List.length_cons,List.length_nil];omega
 obtain⟨⟨o0,o1⟩,_,_,k0,_,_,_,r3,r8,_⟩:=hi;have P2:=hp2 B i;have H2:=hf2 B i;dsimp only [Pv,gm];rcases(by omega:i.op=1\/i.op=2\/i.op=8\/(i.op=9\/i.op=10)\/i.op=14\/i.op=15\/(i.op=11\/i.op=12\/i.op=13)\/(3<=i.op/\i.op<=7))with e | e | e | e | e | e | e | e
 case inr.inr.inr.inl=>
  have e':iI n B i={B with ops:=B.ops++gu n B.ops.length i}:=by unfold iI;rw [if_neg ah,if_neg ah]
  rw [e'];have P4:=hp4 B.pc B.len B.fin B.x B.y B.k i n B.ops e ah;have H4:=hf4 B.pc B.len B.fin B.x B.y B.k i n B.ops e ah;rcases e with e | e<;>simp (disch:=omega) only [RR,IR,e,Int.reduceEq,P4,H4,or_true,true_or]
 case inr.inr.inr.inr.inr.inr.inl=>
  have e':iI n B i=iI 0 B i:=by unfold iI gu;rcases e with e | e | e<;>simp [e]
  rw [e'];have P2:=P2 ah ah;have H2:=H2 ah ah;rcases e with e | e | e<;>simp (disch:=omega) only [RR,IR,e,Int.reduceEq,P2,H2,or_true,true_or]
 case inr.inr.inr.inr.inr.inr.inr=>
  have n0:∀z:Int,z<3\/7<z->¬i.op=z:=λz g q=>by omega
  have e':iI n B i={B with ops:=B.ops++ [⟨2,0,0,i.a,0⟩,⟨2,0,0,i.k,0⟩,⟨3,B.ops.length,B.ops.length+1,i.op-2,0⟩,⟨8,B.ops.length+2,0,i.d,0⟩]}:=by
   unfold iI gu;simp (disch:=omega) only [n0,if_false,or_self]
  rw [e'];simp (disch:=first | omega | (apply m3;omega)) only [RR,IR,n0,U5.hp,U5.hf,U6.hp,U6.hf,or_self];simp;rw [show i.op-3+1=i.op-2 by omega];rfl
 all_goals
  unfold iI gu;simp (disch:=first | omega | (apply m1;omega) | (apply m3;omega)) only [RR,IR,e,Int.reduceEq,U1.hp,U1.hf,U3.hp,U3.hf,U5.hp,U5.hf,U6.hp,U6.hf,hp7 i.k k0,hf7 i.k k0,r8,n1a,or_self,true_and,and_true]
  try simp
  try rfl
def rV(a:Int):O6.F () (a,()) (λy=>y=(inB a 11 13,())):=by
 dsimp only [O6,gm];refine Prod.ext ?_ rfl;dsimp only;rw [Bool.eq_iff_iff,bQ];simp [abt];omega
def Dr{p1 f1 p2 f2}(U1:arI p1 f1)(U2:agI p2 f2)(i:Ins):O7.F (p1,f1,p2,f2,()) (i,()) (λy=>y=(bp (dL i)&& !decide (i.op=0)&& !inB i.op 11 13,())):=by
 dsimp only [O7,gm];simp (disch:=omega) only [RR,IR,U1.hp,U1.hf,U2.hp,U2.hf]
def Gs{p1 f1 p2 f2 p3 f3}(U1:arI p1 f1)(U2:agI p2 f2)(U3:Y1 p3 f3){p4:Ins×Unit->Bool}{f4:Ins×Unit->Bool×Unit}(hp4:∀i,p4 (i,())=true)(hf4:∀i,f4 (i,())=(bp (dL i)&& !decide (i.op=0)&& !inB i.op 11 13,()))(pc:Int)(l:List Ins)(hl:(l.length:Int)<1000):Pf.F (p1,f1,p2,f2,p3,f3,p4,f4,()) (pc,l,()) (λy=>y=(bp (xg pc l),())):=by
 dsimp only [Pf,gm];simp (disch:=omega) only [RR,IR,U1.hp,U1.hf,U2.hp,U2.hf,U3.hp,U3.hf,hp4,hf4,bQ,jh];refine⟨λh=> ?_,λh=> ?_⟩
 .rw [bJ];intro g;have a:=g.ln;have c:=g.pc;omega
 refine ak (λ(y:List Ins×Int×Unit)=>y.1=l/\0<=y.2.1/\y.2.1<=l.length/\∀j:Nat,j<y.2.1->dL (l.getD j default)/\(l.getD j default).op≠0/\(11<=(l.getD j default).op/\(l.getD j default).op<=13->j+1=l.length)) (λy=>(l.length-y.2.1).toNat) ⟨rfl,by simp,by simp,λj hj=>absurd hj (by dsimp only;omega)⟩ ?_;rintro⟨(l:List Ins),(i:Int),⟨⟩⟩ hI;dsimp only at hI ⊢;obtain⟨rfl,h1,h2,h3⟩:=hI;by_cases g:i<l.length
 .have nx:dL ((l).getD (i).toNat default)/\(((l).getD (i).toNat default)).op≠0/\(11<=(((l).getD (i).toNat default)).op/\(((l).getD (i).toNat default)).op<=13->i+1=l.length)->∀j:Nat,(j:Int)<i+1->dL (l.getD j default)/\(l.getD j default).op≠0/\(11<=(l.getD j default).op/\(l.getD j default).op<=13->j+1=l.length):=λq j hj=>by
   by_cases c:(j:Int)<i
   .exact h3 j c
   .obtain rfl:j=i.toNat:=by omega
    exact⟨q.1,q.2.1,λz=>by have:=q.2.2 z;omega⟩
  have bad:¬(dL ((l).getD (i).toNat default)/\(((l).getD (i).toNat default)).op≠0/\(11<=(((l).getD (i).toNat default)).op/\(((l).getD (i).toNat default)).op<=13->i+1=l.length))->bp (xg pc l)=false:=λq=>bJ λv=>q (by
   have:=v.ok i.toNat ah;exact⟨this.1,this.2.1,λz=>by have:=this.2.2 z;omega⟩)
  have gi:(i< (l.length:Int)-1)↔¬(i+1=l.length):=by omega
  simp (disch:=omega) only [RR,IR,U1.hp,U1.hf,U2.hp,U2.hf,hp4,hf4,g];refine⟨h1,Or.inr h1,Or.inr h1,λe=> ?_,λe=>⟨⟨ah,ah,nx ?_⟩,ah⟩⟩
  .rw [bad];rintro⟨q1,q2,q3⟩;rw [aU q1,decide_eq_false q2]at e;have e1:=bQ.1 (show inB (((l).getD (i).toNat default)).op 11 13=true by simpa using e.1);have:=q3 e1;rcases e.2 with(z | z) | z
   .omega
   .cases z
   .exact z e1
  .have a:dL ((l).getD (i).toNat default):=Classical.byContradiction λn=>by rw [bJ n]at e;simp at e
   refine⟨a,λz=> ?_,λq=> ?_⟩
   .rw [z]at e;simp [inB]at e
   .rw [aU a,bQ.2 q]at e;simp at e;omega
 .simp (disch:=omega) only [RR,g];rw [aU ⟨ah,ah,λj hj=>h3 j ah⟩]
structure auU(pp:Int×List Ins×Unit->Bool)(ff:Int×List Ins×Unit->Bool×Unit):Prop where
 hp:∀(pc:Int) (l:List Ins),(l.length:Int)<1000->pp (pc,l,())=true
 hf:∀(pc:Int) (l:List Ins),(l.length:Int)<1000->ff (pc,l,())=(bp (xg pc l),())
theorem Cc{p1 f1}(U1:auU p1 f1){p2:Int×Int×Int×Int×Int×Int×Ins×Int×List IOp×Unit->Bool}{f2:Int×Int×Int×Int×Int×Int×Ins×Int×List IOp×Unit->Int×Int×Int×Int×Int×Int×List IOp×Unit}(hp2:∀(B:Blk) (i:Ins) (n:Int),dL i->i.op≠0->B.ops.length<900000->p2 (B.pc,B.len,B.fin,B.x,B.y,B.k,i,n,B.ops,())=true)(hf2:∀(B:Blk) (i:Ins) (n:Int),dL i->i.op≠0->B.ops.length<900000->f2 (B.pc,B.len,B.fin,B.x,B.y,B.k,i,n,B.ops,())=bk7 (iI n B i))(pc:Int)(l:List Ins)(hl:(l.length:Int)<1000):Pw.F (p1,f1,p2,f2,()) (pc,l,()) (λy=>y=bk7 (lower pc l)):=by
 dsimp only [Pw,gm];simp (disch:=omega) only [RR,U1.hp pc l hl,U1.hf pc l hl,aT,jg];unfold lower;refine⟨λh=>by rw [bJ h,if_neg (by decide)];rfl,λh=> ?_⟩;rw [aU h,if_pos rfl];have ln:=h.ln;have pp:=h.pc;refine ak (λ(y:List Ins×Int×Int×Int×Int×Int×Int×Int×Int×Int×Int×Int×Int×Int×List IOp×Unit)=>y.1=l/\0<=y.2.1/\y.2.1<=l.length/\y.2.2.2.2.2.2.2.2=bk7 (oU 0 (Ag pc l) (l.take y.2.1.toNat))) (λy=>(l.length-y.2.1).toNat) ⟨rfl,by simp,by simp,by rw [w64 ah ah];rfl⟩ ?_;rintro⟨(l':List Ins),(i:Int),z1,z2,z3,z4,z5,z6,q1,q2,q3,q4,q5,q6,q7,⟨⟩⟩ hI;dsimp only at hI ⊢;obtain⟨rfl,h1,h2,h3⟩:=hI;generalize eB:oU 0 (Ag pc l') (l'.take i.toNat)=B at h3;simp only [bk7,Prod.mk.injEq,and_true]at h3;obtain⟨rfl,rfl,rfl,rfl,rfl,rfl,rfl⟩:=h3;have bl:B.ops.length<=40:=by
  have:=FW (l'.take i.toNat) 0 (Ag pc l');rw [eB]at this;have t:=List.length_take_le i.toNat l';have:(Ag pc l').ops.length=0:=rfl;omega
 by_cases c:i<l'.length
 .obtain⟨o1,o2,o3⟩:=h.ok i.toNat ah;simp (disch:=omega) only [RR,c,hp2 B (((l').getD (i).toNat default)) i o1 o2 ah,hf2 B (((l').getD (i).toNat default)) i o1 o2 ah];refine⟨h1,⟨ah,ah,?_⟩,ah⟩;rw [<-bP (d:=default) h1 c rfl,BZ,eB,List.length_take,show(0:Int)+((min i.toNat l'.length:Nat):Int)=i by omega]
 .rw [List.take_of_length_le ah]at eB;simp (disch:=omega) only [RR,c,eB]
def acT(pc:Int)(l:List Ins):((lower pc l).ops.length:Int)<=5000:=by
 by_cases h:xg pc l
 .have:=(FX h).sz;omega
 .have e:lower pc l=R4:=by unfold lower;rw [bJ h,if_neg (by decide)]
  rw [e];decide
def agP{pc:Int}{l:List Ins}{y:Int×Int×Int×Int×Int×Int×List IOp×Unit}(h:y=bk7 (lower pc l)):(y.2.2.2.2.2.2.1.length:Int)<=5000:=by rw [h];exact acT pc l
abbrev YOw:=Int×Int×Int×Int×Int×Int×Int×Int×Bool×Bool×Int×List Int×Int×List Int×Int×List IOp×List Int×List Int×List Int×Unit
structure OwD(b:List Int)(p:Int)(y:YOw):Prop where
 b:y.2.2.2.2.2.2.2.2.2.2.2.2.2.1=b
 lo:p<=y.2.2.2.2.2.2.2.2.2.2.2.2.2.2.1
 hi:y.2.2.2.2.2.2.2.2.2.2.2.2.2.2.1<=p+12000
 r:y.2.2.2.2.2.2.2.2.2.2.2.2.2.2.2.2.1.length=4
 m:y.2.2.2.2.2.2.2.2.2.2.2.2.2.2.2.2.2.1.length=64
 i:y.2.2.2.2.2.2.2.2.2.2.2.1.length<=10
 o:y.2.2.2.2.2.2.2.2.2.2.2.2.2.2.2.2.2.2.1.length<=100
 k:y.2.2.2.2.2.2.2.2.2.2.2.2.2.2.2.1.length<1000000
structure auV(pp:Int×List Ins×Unit->Bool)(ff:Int×List Ins×Unit->Int×Int×Int×Int×Int×Int×List IOp×Unit):Prop where
 hp:∀(pc:Int) (l:List Ins),(l.length:Int)<1000->pp (pc,l,())=true
 hf:∀(pc:Int) (l:List Ins),(l.length:Int)<1000->ff (pc,l,())=bk7 (lower pc l)
structure arR(pp:Blk×List Int×Int×Unit->Bool)(ff:Blk×List Int×Int×Unit->YMc):Prop where
 hp:∀c b p,Bt b->0<=p->p<400000000->pp (c,b,p,())=true
 hf:∀c b p,Bt b->0<=p->p<400000000->MaD b p (ff (c,b,p,()))
theorem ams{p1 f1 p2 f2 p3 f3 p4 f4 p5 f5 p6 f6}(U1:auV p1 f1)(U2:Y81 p2 f2)(U3:Y38 p3 f3)(U4:arR p4 f4)(U5:Y82 p5 f5)(U6:Y63 p6 f6)(b:List Int)(p:Int)(hb:Bt b)(h1:0<=p)(h2:p<300000000):RH.F (p1,f1,p2,f2,p3,f3,p4,f4,p5,f5,p6,f6,()) (b,p,()) (λy=>OwD b p y):=by
  obtain⟨i1,i2,i3,i4,i5,i6⟩:=U5.hf b p hb h1 ah;have P5:=U5.hp b p hb h1 ah;generalize hy:f5 (b,p,())=y at i1 i2 i3 i4 i5 i6;obtain⟨b',q,l,⟨⟩⟩:=y;dsimp only at i1 i2 i3 i4 i5 i6;subst i1;have R:=pkR hb U3.hf;have P:=λn p h1 h2=>U3.hp n b' p hb h1 h2
  dsimp only [RH,gm];simp (disch:=omega) only [RR,P5,hy,R,P,U6.hp,List.length_cons,List.length_nil,List.length_append,List.length_set];generalize hL:List.drop (Int.toNat 0) (List.take (0+((if 7< (l.length:Int)then 7 else(l.length:Int))-0)).toNat l)=L;have l7:1<=L.length/\L.length<=7:=by
    rw [<-hL,List.length_drop,List.length_take];split<;>omega
  refine⟨ah,by split<;>omega,by split<;>omega,ah,by split<;>omega,by split<;>omega,ah,ah,?_⟩;have mE:∀c:Blk,Co.mk .blk (c.pc,c.len,c.ops,c.fin,c.x,c.y,c.k,())=c:=λ_=>rfl
  have lb:∀(pc:Int) (l:List Ins),(lower pc l).ops.length<1000000:=λpc l=>by
    by_cases h:xg pc l
    · have:=(FX h).sz;omega
    · have e:lower pc l=R4:=by unfold lower;rw [bJ h,if_neg (by decide)]
      rw [e];decide
  have M4:=λB t h1 h2=>U4.hf B b' t hb h1 h2
  have lt4:∀l:List Int,l.length=4->3< (l.length:Int):=λl h=>by omega
  have L0:∀B t,0<=t->t<400000000->(0<=(f4 (B,b',t,())).2.2.2.2.2.2.2.2.1)=True:=λB t h1 h2=>eq_true (Int.le_trans h1 (M4 B t h1 h2).lo)
  have L1:∀B t,0<=t->t<400000000->((f4 (B,b',t,())).2.2.2.2.2.2.2.2.1<1000000000)=True:=λB t h1 h2=>eq_true (Int.lt_of_le_of_lt (M4 B t h1 h2).hi ah)
  have A:=λB t h1 h2=>(U4.hf B b' t hb h1 h2).b
  simp (disch:=first | omega | exact lb _ _ | (simp only [List.length_set,List.length_append,List.length_cons,List.length_nil];omega) | (simp (disch:=omega) only [L0,L1])) only [RR,R,P,U1.hp,U1.hf,U2.hp,U2.hf,mE,lb,U4.hp,A]
  repeat' (first | (refine⟨?_,?_⟩) | intro _)
  all_goals first
    | omega
    | exact lt4 _ (M4 _ _ ah ah).r
    | (refine ⟨rfl, ?_, ?_, (List.length_set ..).trans (M4 _ _ ah ah).r, (M4 _ _ ah ah).m, (M4 _ _ ah ah).i, (M4 _ _ ah ah).o, by first | exact lb _ _ | exact Nat.lt_of_le_of_lt (BR _) (lb _ _)⟩
       · dsimp only;exact Int.le_trans (Int.le_trans ah (M4 _ _ ah ah).lo) (Int.le_add_one (Int.le_refl _))
       · dsimp only;exact Int.le_trans (Int.add_le_add_right (M4 _ _ ah ah).hi 1) ah)
def amt{p2 f2 p3 f3 p4 f4 p5 f5 p6 f6}{p1:Int×List Int×Int×Unit->Bool}{f1:Int×List Int×Int×Unit->YMo}(hp1:∀n b p,Bt b->0<=p->p<400000000->p1 (n,b,p,())=true)(hf1:∀n b p,Bt b->0<=p->p<400000000->MoD b p (f1 (n,b,p,())))(U2:Y41 p2 f2)(U3:Y39 p3 f3)(U4:Y38 p4 f4)(U5:arR p5 f5)(U6:Y85 p6 f6){p7:List Int×Int×Unit->Bool}{f7:List Int×Int×Unit->YOw}(hp7:∀b p,Bt b->0<=p->p<300000000->p7 (b,p,())=true)(hf7:∀b p,Bt b->0<=p->p<300000000->OwD b p (f7 (b,p,())))(c:List Int)(hc:By c)(hl:c.length<1000000000):RN.F (p1,f1,p2,f2,p3,f3,p4,f4,p5,f5,p6,f6,p7,f7,()) (c,()) (λy=>MSh (mD y)/\(mD y).outs.length<800000000/\y.1.ops.length<1000000):=by
 obtain⟨hb,e0⟩:=U2.hf c hc hl;generalize hbe:(f2 (c,())).1=b at hb;have R:=pkR hb U4.hf;have P:=λn p h1 h2=>U4.hp n b p hb h1 h2
 have OW:=hf7 b (0+1) hb ah ah;have OP:=hp7 b (0+1) hb ah ah;obtain⟨k1,k2,k3,k4⟩:=U6.hf 14 b (0+1) hb ah ah;have KP:=U6.hp 14 b (0+1) hb ah ah;generalize hk:f6 (14,b,0+1,())=k at k1 k2 k3 k4;obtain⟨B,b1,q1,⟨⟩⟩:=k;dsimp only at k1 k2 k3 k4;subst k2;have AT:=U5.hf B b1 q1 hb ah ah;have AP:=U5.hp B b1 q1 hb ah ah;generalize hm:f5 (B,b1,q1,())=m at AT;obtain⟨pc,sv,lt,wt,ha,ins,ct,b2,q2,regs,mem,outs,⟨⟩⟩:=m;obtain⟨a1,a2,a3,a4,a5,a6,a7⟩:=AT;dsimp only at a1 a2 a3 a4 a5 a6 a7;subst a1;obtain⟨o1,o2⟩:=U3.hf 14 b2 q2 hb ah ah;have O3:=U3.hp 14 b2 q2 hb ah ah;have MO:=hf1 2 b2 (q2+1) hb ah ah;have MP:=hp1 2 b2 (q2+1) hb ah ah;dsimp only [RN,gm];simp (disch:=omega) only [RR,U2.hp c hc hl,hbe,e0,R,P,OP,KP,hk,AP,hm,O3,o1,o2,MP];have m3:=MO.m;have m4:=MO.r;have m5:=MO.i;have m6:=MO.o;have w3:=OW.m;have w4:=OW.r;have w5:=OW.i;have w6:=OW.o;have w7:=OW.k;unfold MSh mD;refine⟨λ_=>⟨⟨?_,?_,?_,?_⟩,?_,?_⟩,λ_=>⟨λ_=>⟨⟨?_,?_,?_,?_⟩,?_,?_⟩,λ_=>⟨⟨?_,?_,?_,?_⟩,?_,?_⟩⟩⟩
 all_goals try dsimp only
 all_goals first | omega | exact w7
structure PS where
 m:aH
 L:List Int
 I:List Int
 left:Bool
def rz(x:aH)(rg:List (List aj))(v:List Int)(pc n h:Int):aH:={x with regs:=rg.map (evF v),pc:=pc,count:=x.count+n,halt:=h}
section
variable (T:List Atom) (r0:List Int) (pc len:Int)
def pv(s:PS):List Int:=tv r0 s.L s.I T
def kP(s:PS)(e:Ev):PS:=
 if s.left=true then s
 else if e.kind=7 then {s with m:={s.m with outs:=s.m.outs++ [evF (pv T r0 s) e.x]}}
 else if e.kind=6 then {s with m:={s.m with ins:=s.m.ins.drop 1},I:=s.I++ [s.m.ins.getD 0 default]}
 else if 64<=evF (pv T r0 s) e.x then⟨rz s.m e.regs (pv T r0 s) (pc+e.at_) e.at_ 3,s.L,s.I,true⟩
 else if e.kind=4 then {s with L:=s.L++ [((s.m.mem).getD (evF (pv T r0 s) e.x).toNat default)]}
 else if pc+e.at_<evF (pv T r0 s) e.x/\evF (pv T r0 s) e.x<pc+len then⟨rz {s.m with mem:=s.m.mem.set (evF (pv T r0 s) e.x).toNat (evF (pv T r0 s) e.y)} e.regs (pv T r0 s) (pc+e.at_+1) (e.at_+1) 0,s.L,s.I,true⟩
 else {s with m:={s.m with mem:=s.m.mem.set (evF (pv T r0 s) e.x).toNat (evF (pv T r0 s) e.y)}}
def JR(S:Sym)(p q:Int):Int:=if S.fin=2 then p else if S.fin=1\/S.fin=3/\p=q\/S.fin=4/\p<q then S.k else pc+len
def VJ(S:Sym)(s:PS):aH:=if s.left=true then s.m else rz s.m S.regs (pv T r0 s) (JR pc len S (evF (pv T r0 s) S.x) (evF (pv T r0 s) S.y)) len 0
def acU(S:Sym)(m:aH):aH:=VJ T m.regs pc len S (S.events.foldl (kP T m.regs pc len) ⟨m,[],[],false⟩)
theorem VK:∀(E:List Ev) (s:PS),s.left=true->E.foldl (kP T r0 pc len) s=s
 | [],_,_=>rfl
 | e::E,s,h=>by
  have:kP T r0 pc len s e=s:=by unfold kP;rw [if_pos h]
  rw [List.foldl_cons,this];exact VK E s h
end
theorem JU{α β:Type}[Inhabited α][Inhabited β]{f:α->β}(h:f default=default)(l:List α)(i:Int):(l.map f).getD i.toNat default=f (l.getD i.toNat default):=by
 rw [List.getD_eq_getElem?_getD,List.getElem?_map,List.getD_eq_getElem?_getD];cases l[i.toNat]? with
 | none=>exact h.symm
 | some x=>rfl
theorem amu{regs loads ins:List Int}{t:List Atom}{k:Int}(h0:0<=k)(h1:k<t.length):je (tv regs loads ins t) k=aVal regs loads ins (tv regs loads ins (t.take k.toNat)) ((t).getD (k).toNat default):=by
 have hs:t=(t.take k.toNat++ [((t).getD (k).toNat default)])++t.drop (k.toNat+1):=by
  rw [List.append_assoc,List.singleton_append,getD_lt (show k.toNat<t.length by omega),<-List.drop_eq_getElem_cons,List.take_append_drop]
 have hl:(t.take k.toNat).length=k.toNat:=by rw [List.length_take];omega
 obtain⟨c,hc⟩:=BP regs loads ins (t.drop (k.toNat+1)) (t.take k.toNat++ [((t).getD (k).toNat default)]);rw [<-hs,JD]at hc;have lv:=abV regs loads ins (t.take k.toNat);rw [hc,uH h0 (by rw [List.length_append,lv,hl];simp only [List.length_cons,List.length_nil];omega)];unfold je;rw [if_pos (by rw [List.length_append,lv,hl];simp only [List.length_cons,List.length_nil];omega),getD_lt (by rw [List.length_append,lv,hl];simp only [List.length_cons,List.length_nil];omega),List.getElem_append_right ah];simp only [lv,hl,Nat.sub_self,List.getElem_cons_zero]
theorem Sr{r0 L I:List Int}(w1:wOK r0)(w2:wOK L)(w3:wOK I){t T:List Atom}{a:Atom}(hT:aD T)(h:0<=(aI t a).2)(hp:(aI t a).1<+:T)(hk:a.kind=1\/a.kind=2\/a.kind=3):
  evF (tv r0 L I T) (bS (aI t a).2)=if a.kind=1 then je r0 a.k else if a.kind=2 then je L a.k else je I a.k:=by
 obtain⟨g1,g2⟩:=mI h;have lp:=jq hp;have lT:=hT.2;rw [Vk _ ⟨h,ah⟩ (ah7 w1 w2 w3 _),amu h ah,RY hp ah,g2];unfold aVal;rcases hk with e | e | e<;>simp [e]
theorem agQ{l:List Int}{k:Int}(h0:0<=k)(h:k<l.length):je l k=((l).getD (k).toNat default):=by unfold je;rw [if_pos h]
theorem MC{l L:List Int}{x k:Int}(hk:(l.length:Int)=k)(h:l++ [x]<+:L):je L k=x:=by
 obtain⟨c,rfl⟩:=h;unfold je;rw [if_pos (by simp only [List.length_append,List.length_cons,List.length_nil];omega),List.append_assoc,List.getD_eq_getElem?_getD,List.getElem?_append_right ah,show k.toNat-l.length=0 by omega];rfl
structure PJ(T:List Atom)(r0:List Int)(M:MS)(S:SS)(P:PS):Prop where
 lf:P.left=false
 m:P.m={M.m with regs:=r0}
 ld:(P.L.length:Int)=S.ld
 inn:(P.I.length:Int)=S.inn
 wl:wOK P.L
 wi:wOK P.I
 v:∀L I,P.L<+:L->P.I<+:I->wOK L->wOK I->S.vals.map (evF (tv r0 L I T))=M.vals
 r:∀L I,P.L<+:L->P.I<+:I->wOK L->wOK I->S.regs.map (evF (tv r0 L I T))=M.m.regs
structure MJ(b:Blk)(i:Nat)(M:MS):Prop where
 lf:M.left=false
 ln:M.vals.length=i
 wv:Wos M.vals
 ok:MOK M.m
 pc:M.m.pc=b.pc
 ha:M.m.halt=0
theorem PJ.x{T:List Atom}{r0:List Int}{M:MS}{S:SS}{P:PS}(h:PJ T r0 M S P){L I:List Int}(h1:P.L<+:L)(h2:P.I<+:I)(h3:wOK L)(h4:wOK I)(o:IOp):evF (tv r0 L I T) (xOf S o)=vx M o/\evF (tv r0 L I T) (yOf S o)=vy M o:=by
 have e:=h.v L I h1 h2 h3 h4;unfold xOf yOf vx vy;rw [<-e];constructor
 .split
  .exact(JU (f:=evF (tv r0 L I T)) rfl S.vals o.x).symm
  .rfl
 .split
  .exact(JU (f:=evF (tv r0 L I T)) rfl S.vals o.y).symm
  .rfl
theorem agR{s:MS}(o:IOp):(mM s o).pc=s.m.pc/\(mM s o).halt=s.m.halt/\(mM s o).count=s.m.count:=by
 unfold mM
 repeat' split
 all_goals exact⟨rfl,rfl,rfl⟩
theorem amv{T:List Atom}{r0:List Int}{b:Blk}{n:Int}{i:Nat}{M:MS}{S:SS}{P:PS}{o:IOp}{len':Int}(wr:wOK r0)(hT:aD T)(hne:T≠ [])(h:PJ T r0 M S P)(hs:SI n i S)(hm:MJ b i M)(hk:1<=o.kind/\o.kind<=8)(k1:o.kind=1->0<=o.k/\o.k<=65535)(k3:o.kind=3->1<=o.k/\o.k<=5)(hn:n+i<200)(hi:i<200)(hp:(stp S o).t<+:T)(hl:len'=b.len):
  (∃P',(stp S o).evs=S.evs++(if evO o then [⟨o.kind,o.at_,xOf S o,yOf S o,if o.kind=4\/o.kind=5 then S.regs else []⟩]else [])/\(if evO o then [(⟨o.kind,o.at_,xOf S o,yOf S o,if o.kind=4\/o.kind=5 then S.regs else []⟩:Ev)]else []).foldl (kP T r0 b.pc len') P=P'/\
   ((PJ T r0 (bO b M o) (stp S o) P'/\MJ b (i+1) (bO b M o))\/((bO b M o).left=true/\P'.left=true/\P'.m=(bO b M o).m))):=by
 subst hl;refine⟨_,?_,rfl,?_⟩
 .show nE S o=_;unfold nE;split<;>simp
 obtain⟨a1,a2⟩:=oO hs k3 hn hi;obtain⟨ex,ey⟩:=h.x (List.prefix_refl P.L) (List.prefix_refl P.I) h.wl h.wi o;have er:=h.r P.L P.I (List.prefix_refl P.L) (List.prefix_refl P.I) h.wl h.wi;have em:(P.m.mem=M.m.mem)/\P.m.ins=M.m.ins/\P.m.outs=M.m.outs/\P.m.count=M.m.count:=by rw [h.m];exact⟨rfl,rfl,rfl,rfl⟩
 have go:∀P':PS,¬((o.kind=4\/o.kind=5)/\64<=vx M o)->¬(o.kind=5/\b.pc+o.at_+1<=vx M o/\vx M o<=b.pc+b.len-1)->P'.left=false->P'.m={mM M o with regs:=r0}->
   P'.L=(if o.kind=4 then P.L++ [((M.m.mem).getD (vx M o).toNat default)]else P.L)->P'.I=(if o.kind=6 then P.I++ [M.m.ins.getD 0 default]else P.I)->PJ T r0 (bO b M o) (stp S o) P'/\MJ b (i+1) (bO b M o):=by
  intro P' c1 c2 q1 q2 q3 q4;have e:bO b M o=⟨mM M o,M.vals++ [mV M o],false⟩:=by unfold bO;rw [if_neg (by rw [hm.lf];decide),if_neg c1,if_neg c2]
  have mk:=agR (s:=M) o;rw [e];have pl:P.L<+:P'.L:=by rw [q3];split;exact List.prefix_append _ _;exact List.prefix_refl _
  have pi:P.I<+:P'.I:=by rw [q4];split;exact List.prefix_append _ _;exact List.prefix_refl _
  have V:∀L I,P'.L<+:L->P'.I<+:I->wOK L->wOK I->evF (tv r0 L I T) (nV S o)=mV M o:=by
   intro L I g1 g2 g3 g4;obtain⟨fx,fy⟩:=h.x (pl.trans g1) (pi.trans g2) g3 g4 o;have fr:=h.r L I (pl.trans g1) (pi.trans g2) g3 g4;unfold nV mV;by_cases e1:o.kind=1
   .rw [if_pos e1,if_pos e1];exact zY _ (k1 e1)
   rw [if_neg e1,if_neg e1];by_cases e2:o.kind=2
   .rw [if_pos e2,if_pos e2,<-fr];exact(JU (f:=evF (tv r0 L I T)) rfl S.regs o.k).symm
   rw [if_neg e2,if_neg e2];by_cases e3:o.kind=3
   .rw [if_pos e3,if_pos e3];have d:=a2.d e3;have tp:(tDo S.t o.k (xOf S o) (yOf S o)).1<+:T:=by
     have:(stp S o).t=(tDo S.t o.k (xOf S o) (yOf S o)).1:=by show nT S o=_;unfold nT;rw [if_pos e3]
     rwa [this]at hp
    have on:=R3 hT d.ok tp;have lp:=jq tp;have lq:=jq d.pre;have dd:=aqZ wr g3 g4 hT (k3 e3) (hs.x o).1 (hs.y o).1 (mP (hs.x o).2 ah) (mP (hs.y o).2 ah) (by rw [on];exact hne);rw [on]at dd;rw [dd.2.2.2,fx,fy]
   rw [if_neg e3,if_neg e3];by_cases e46:o.kind=4\/o.kind=6
   .rw [if_pos e46];have tp:(aI S.t (aOf S o)).1<+:T:=by
     have:(stp S o).t=(aI S.t (aOf S o)).1:=by show nT S o=_;unfold nT;rw [if_neg e3,if_pos e46]
     rwa [this]at hp
    rcases e46 with e4 | e6
    .have ea:aOf S o=⟨2,S.ld,[],[]⟩:=by unfold aOf;rw [if_pos e4]
     rw [Sr wr g3 g4 hT (a2.p (Or.inl e4)) tp (by rw [ea];exact Or.inr (Or.inl rfl)),ea,if_pos e4];show je L S.ld=_;rw [q3,if_pos e4]at g1;exact MC h.ld g1
    .have ea:aOf S o=⟨3,S.inn,[],[]⟩:=by unfold aOf;rw [if_neg ah]
     rw [Sr wr g3 g4 hT (a2.p (Or.inr e6)) tp (by rw [ea];exact Or.inr (Or.inr rfl)),ea,if_neg (show¬o.kind=4 by omega),if_pos e6];show je I S.inn=_;rw [q4,if_pos e6]at g2;exact MC h.inn g2
   .rw [if_neg e46,if_neg ah,if_neg ah];rfl
  refine⟨⟨q1,q2,?_,?_,?_,?_,λL I g1 g2 g3 g4=> ?_,λL I g1 g2 g3 g4=> ?_⟩,⟨rfl,by rw [List.length_append,hm.ln];rfl,hm.wv.snoc (aij hm.wv hm.ok k1),aik hm.wv hm.ok o,by rw [<-hm.pc];exact mk.1,by rw [<-hm.ha];exact mk.2.1⟩⟩
  .rw [q3];show _=(if o.kind=4 then S.ld+1 else S.ld);split
   .rw [List.length_append,List.length_cons,List.length_nil];have:=h.ld;omega
   .exact h.ld
  .rw [q4];show _=(if o.kind=6 then S.inn+1 else S.inn);split
   .rw [List.length_append,List.length_cons,List.length_nil];have:=h.inn;omega
   .exact h.inn
  .rw [q3];split
   .exact h.wl.snoc (hm.ok.mw.at _)
   .exact h.wl
  .rw [q4];split
   .exact h.wi.snoc hm.ok.iw.hd
   .exact h.wi
  .show(S.vals++ [nV S o]).map _=M.vals++ [mV M o];rw [List.map_append,h.v L I (pl.trans g1) (pi.trans g2) g3 g4,List.map_cons,List.map_nil,V L I g1 g2 g3 g4]
  .show(nR S o).map _=(mM M o).regs;have fr:=h.r L I (pl.trans g1) (pi.trans g2) g3 g4;obtain⟨fx,_⟩:=h.x (pl.trans g1) (pi.trans g2) g3 g4 o;unfold nR mM;by_cases e8:o.kind=8
   .rw [if_pos e8,if_neg ah,if_neg ah,if_neg ah,if_pos e8,List.map_set,fr,fx]
   .rw [if_neg e8,fr]
    repeat' split
    all_goals first | rfl | (exfalso;omega)
 by_cases c:evO o
 .rw [if_pos c,List.foldl_cons,List.foldl_nil];unfold kP pv;rw [if_neg (by rw [h.lf];decide)];dsimp only;rw [ex,ey];by_cases e7:o.kind=7
  .rw [if_pos e7];refine Or.inl (go _ ah ah h.lf ?_ (by rw [if_neg ah]) (by rw [if_neg ah]));show({P.m with outs:=P.m.outs++ [vx M o]}:aH)=_;unfold mM;rw [if_neg ah,if_neg ah,if_pos e7,h.m]
  rw [if_neg e7];by_cases e6:o.kind=6
  .rw [if_pos e6];refine Or.inl (go _ ah ah h.lf ?_ (by rw [if_neg ah]) (by rw [if_pos e6,em.2.1]));show({P.m with ins:=P.m.ins.drop 1}:aH)=_;unfold mM;rw [if_neg ah,if_pos e6,h.m]
  rw [if_neg e6];have c45:o.kind=4\/o.kind=5:=by have:=c.1;have:=c.2;omega
  rw [if_pos c45];by_cases c1:64<=vx M o
  .rw [if_pos c1];have e:bO b M o=⟨leave M.m o.at_ 3,M.vals,true⟩:=by unfold bO;rw [if_neg (by rw [hm.lf];decide),if_pos ⟨c45,c1⟩]
   refine Or.inr ⟨by rw [e],rfl,?_⟩;rw [e];show rz P.m S.regs (tv r0 P.L P.I T) (b.pc+o.at_) o.at_ 3=leave M.m o.at_ 3;unfold rz leave;rw [er,h.m,hm.pc]
  rw [if_neg c1];by_cases e4:o.kind=4
  .rw [if_pos e4];refine Or.inl (go _ ah ah h.lf ?_ (by rw [if_pos e4,em.1]) (by rw [if_neg ah]));show P.m=_;unfold mM;rw [if_neg ah,if_neg ah,if_neg ah,if_neg ah,h.m]
  rw [if_neg e4];have e5:o.kind=5:=by omega
  have m5:mM M o={M.m with mem:=M.m.mem.set (vx M o).toNat (vy M o)}:=by unfold mM;rw [if_pos e5]
  by_cases c2:b.pc+o.at_<vx M o/\vx M o<b.pc+b.len
  .rw [if_pos c2];have e:bO b M o=⟨leave (mM M o) (o.at_+1) (mM M o).halt,M.vals,true⟩:=by unfold bO;rw [if_neg (by rw [hm.lf];decide),if_neg ah,if_pos ⟨e5,ah,ah⟩]
   refine Or.inr ⟨by rw [e],rfl,?_⟩;rw [e];show rz {P.m with mem:=P.m.mem.set (vx M o).toNat (vy M o)} S.regs (tv r0 P.L P.I T) (b.pc+o.at_+1) (o.at_+1) 0=leave (mM M o) (o.at_+1) (mM M o).halt;unfold rz leave;rw [er,h.m,m5];dsimp only;rw [hm.pc,hm.ha,show b.pc+(o.at_+1)=b.pc+o.at_+1 by omega]
  .rw [if_neg c2];refine Or.inl (go _ ah ah h.lf ?_ (by rw [if_neg e4]) (by rw [if_neg e6]));show({P.m with mem:=P.m.mem.set (vx M o).toNat (vy M o)}:aH)=_;rw [m5,h.m]
 .rw [if_neg c,List.foldl_nil];refine Or.inl (go _ ah ah h.lf ?_ (by rw [if_neg ah]) (by rw [if_neg ah]));rw [h.m];unfold mM;rw [if_neg ah,if_neg ah,if_neg ah];split<;>rfl
end Go.TX.F
namespace Go.TX.F
open Go Go.AE Go.TX
def VL:∀(ops:List IOp) (s:SS),∃E,(ops.foldl stp s).evs=s.evs++E
 | [],s=>⟨[],by simp⟩
 | o::r,s=>by
  obtain⟨E,h⟩:=VL r (stp s o);rw [List.foldl_cons,h];have:∃F,(stp s o).evs=s.evs++F:=by
   show∃F,nE s o=_;unfold nE;split
   .exact⟨_,rfl⟩
   .exact⟨[],by simp⟩
  obtain⟨F,e⟩:=this;exact⟨F++E,by rw [e,List.append_assoc]⟩
def VN{T:List Atom}{r0:List Int}{b:Blk}{n:Int}(wr:wOK r0)(hT:aD T)(hne:T≠ [])(P0:PS):∀(ops:List IOp) (i:Nat) (M:MS) (S:SS) (P:PS),PJ T r0 M S P->SI n i S->MJ b i M->
  (∀o∈ops,(1<=o.kind/\o.kind<=8)/\(o.kind=1->0<=o.k/\o.k<=65535)/\(o.kind=3->1<=o.k/\o.k<=5))->n+i+ops.length<=200->i+ops.length<=200->(ops.foldl stp S).t<+:T->S.evs.foldl (kP T r0 b.pc b.len) P0=P->
  (PJ T r0 (ops.foldl (bO b) M) (ops.foldl stp S) ((ops.foldl stp S).evs.foldl (kP T r0 b.pc b.len) P0)/\MJ b (i+ops.length) (ops.foldl (bO b) M))\/
  ((ops.foldl (bO b) M).left=true/\((ops.foldl stp S).evs.foldl (kP T r0 b.pc b.len) P0).left=true/\((ops.foldl stp S).evs.foldl (kP T r0 b.pc b.len) P0).m=(ops.foldl (bO b) M).m)
 | [],i,M,S,P,h,hs,hm,_,_,_,_,hP=>by
  subst hP;exact Or.inl ⟨h,hm⟩
 | o::r,i,M,S,P,h,hs,hm,hk,h1,h2,hp,hP=>by
  rw [List.length_cons]at h1 h2;rw [List.foldl_cons]at hp;obtain⟨k0,k1,k3⟩:=hk o List.mem_cons_self;obtain⟨a1,a2⟩:=oO hs k3 ah ah;have pr:=(oP r (i+1) (stp S o) a1 (λo ho=>(hk o (List.mem_cons_of_mem _ ho)).2.2) ah ah).2;obtain⟨P',e1,e2,H⟩:=amv wr hT hne h hs hm k0 k1 k3 ah ah (pr.trans hp) rfl;have hP':(stp S o).evs.foldl (kP T r0 b.pc b.len) P0=P':=by rw [e1,List.foldl_append,hP,e2]
  simp only [List.foldl_cons];rcases H with⟨x1,x2⟩ | ⟨l1,l2,l3⟩
  .have:=VN wr hT hne P0 r (i+1) _ _ P' x1 a1 x2 (λo ho=>hk o (List.mem_cons_of_mem _ ho)) ah ah hp hP';rw [List.length_cons,show i+(r.length+1)=i+1+r.length by omega];exact this
  .obtain⟨E,eE⟩:=VL r (stp S o);refine Or.inr ?_;rw [agJ b l1 r,eE,List.foldl_append,hP',VK _ _ _ _ _ _ l2];exact⟨l1,l2,l3⟩
def ail{t T:List Atom}{r0 L I:List Int}(w1:wOK r0)(w2:wOK L)(w3:wOK I)(h:aD t)(hl:t.length<=196)(hT:aD T)(r4:r0.length=4):∀n:Nat,n<=4->(rN t n).1<+:T->(rN t n).2.map (evF (tv r0 L I T))=r0.take n
 | 0,_,_=>rfl
 | n+1,hn,hp=>by
  have pr:=qc (rN t n).1 ⟨1,n,[],[]⟩;have ih:=ail w1 w2 w3 h hl hT r4 n ah (pr.trans hp);show((rN t n).2++ [bS (aI (rN t n).1 ⟨1,n,[],[]⟩).2]).map _=_;have e:=Sr (L:=L) (I:=I) w1 w2 w3 hT (y7 h hl (n:=n) ah) hp (Or.inl rfl);rw [if_pos rfl]at e;rw [List.map_append,ih,List.map_cons,List.map_nil,e,List.take_succ_eq_append_getElem ah];show r0.take n++ [je r0 (n:Int)]=_;rw [agQ ah ah,getD_lt ah];rfl
def Sv{v:List Int}{z:List aj}(g:(bE z).2=true):evF v z=(bE z).1:=by
 obtain⟨_,e,h0,h1⟩:=kM g
 conv=>lhs;rw [e]
 exact zY v ⟨h0,h1⟩
def amw(pc len:Int)(v:List Int){S:Sym}(h:aG S.x/\aG S.y):JR pc len (symEnd S (pc+len)) (evF v (symEnd S (pc+len)).x) (evF v (symEnd S (pc+len)).y)=JR pc len S (evF v S.x) (evF v S.y):=by
 unfold symEnd;rw [if_neg (by rw [aU h];simp)];split
 .rename_i c;unfold JR;dsimp only;rw [if_neg (by decide),if_pos (Or.inl rfl),if_pos c.1,Sv c.2]
 split
 .rfl
 split
 .rename_i c1 c2 c;have f34:S.fin=3\/S.fin=4:=by omega
  unfold JR;dsimp only;rw [if_neg (by decide),if_pos (Or.inl rfl),if_neg (show¬S.fin=2 by omega)];have iff:(S.x=S.y/\S.fin=3\/((bE S.x).2=true/\(bE S.y).2=true)/\(S.fin=3/\(bE S.x).1=(bE S.y).1\/S.fin=4/\(bE S.x).1< (bE S.y).1))↔(S.fin=1\/S.fin=3/\evF v S.x=evF v S.y\/S.fin=4/\evF v S.x<evF v S.y):=by
   by_cases e:S.x=S.y
   .rw [e];constructor
    .rintro(⟨_,q⟩ | ⟨_,⟨q,_⟩ | ⟨_,q⟩⟩)
     .exact Or.inr (Or.inl ⟨q,rfl⟩)
     .exact Or.inr (Or.inl ⟨q,rfl⟩)
     .omega
    .rintro(q | ⟨q,_⟩ | ⟨_,q⟩)
     .omega
     .exact Or.inl ⟨rfl,q⟩
     .omega
   .obtain⟨n1,n2⟩:=c.resolve_left e;rw [Sv n1,Sv n2];constructor
    .rintro(⟨q,_⟩ | ⟨_,q | q⟩)
     .exact absurd q e
     .exact Or.inr (Or.inl q)
     .exact Or.inr (Or.inr q)
    .rintro(q | q | q)
     .omega
     .exact Or.inr ⟨⟨n1,n2⟩,Or.inl q⟩
     .exact Or.inr ⟨⟨n1,n2⟩,Or.inr q⟩
  by_cases d:S.fin=1\/S.fin=3/\evF v S.x=evF v S.y\/S.fin=4/\evF v S.x<evF v S.y
  .rw [if_pos (iff.2 d),if_pos d]
  .rw [if_neg (λq=>d (iff.1 q)),if_neg d]
 split
 .rename_i c;unfold JR;dsimp only;rw [if_neg (show¬S.fin=2 by omega),if_neg (show¬S.fin=2 by omega)];have iff:(S.fin=1\/S.fin=3/\evF v S.y=evF v S.x\/S.fin=4/\evF v S.y<evF v S.x)↔(S.fin=1\/S.fin=3/\evF v S.x=evF v S.y\/S.fin=4/\evF v S.x<evF v S.y):=by omega
  by_cases d:S.fin=1\/S.fin=3/\evF v S.x=evF v S.y\/S.fin=4/\evF v S.x<evF v S.y
  .rw [if_pos (iff.2 d),if_pos d]
  .rw [if_neg (λq=>d (iff.1 q)),if_neg d]
 .rfl
theorem F4{t T:List Atom}{b:Blk}{m:aH}(ht:aD t)(hl:t.length<=100)(hb:dO b)(hT:aD T)(hp:(bK t b).1<+:T)(hm:MOK m)(g0:m.halt=0)(g1:m.pc=b.pc)(g2:m.count<=1000000-b.len):iX b m=(acU T b.pc b.len (bK t b).2 m,true):=by
 have sz:=hb.sz;have er:bK t b=((dS t b).t,symEnd (nH b (dS t b)) (b.pc+b.len)):=by unfold bK;rw [if_pos (aU ⟨ht,hl,hb⟩)]
 rw [er]at hp ⊢;dsimp only at hp ⊢;have i0:=FN ht ah;have SO:=(JF ht hl hb).1;have wr:wOK m.regs:=hm.rw;have pr:=(oP b.ops 0 (s0 t) i0 hb.k3 ah ah).2;have op:∀o∈b.ops,(1<=o.kind/\o.kind<=8)/\(o.kind=1->0<=o.k/\o.k<=65535)/\(o.kind=3->1<=o.k/\o.k<=5):=λo ho=>by
  obtain⟨j,hj,rfl⟩:=List.getElem_of_mem ho;have:=hb.op j ah ah;rw [getD_lt ah]at this;exact⟨this.kd,this.k1,this.k3⟩
 have J0:PJ T m.regs ⟨m,[],false⟩ (s0 t) ⟨m,[],[],false⟩:=⟨rfl,rfl,rfl,rfl,λ_ h=>(by cases h),λ_ h=>(by cases h),λL I _ _ _ _=>rfl,λL I _ _ w2 w3=>by
  have:=ail wr w2 w3 ht ah hT hm.r4 4 (Nat.le_refl _) (pr.trans hp);rw [List.take_of_length_le (by rw [hm.r4];exact Nat.le_refl _)]at this;exact this⟩
 have K0:MJ b 0 ⟨m,[],false⟩:=⟨rfl,rfl,λ_ h=>(by cases h),hm,g1,g0⟩;have hne:T≠ []:=by
  have q8:0<=(aI (rN t 3).1 ⟨1,((3:Nat):Int),[],[]⟩).2:=y7 ht ah (n:=3) ah;have q4:=mI (y7 ht ah (n:=3) ah:0<=(aI (rN t 3).1 ⟨1,((3:Nat):Int),[],[]⟩).2);have q5:=jq (pr.trans hp);have q6:(s0 t).t=(aI (rN t 3).1 ⟨1,((3:Nat):Int),[],[]⟩).1:=rfl;intro z;rw [z,q6]at q5;have q7:=q4.1;simp only [List.length_nil]at q5;omega
 have F:=VN wr hT hne ⟨m,[],[],false⟩ b.ops 0 ⟨m,[],false⟩ (s0 t) _ J0 i0 K0 op ah ah hp rfl;have pk:=DJ (b:=b) SO;obtain⟨ke,kr,_,_⟩:=Aa (n:=b.pc+b.len) pk;have e0:iX b m=(Af b (b.ops.foldl (bO b) ⟨m,[],false⟩),true):=by unfold iX;rw [aU ⟨hb,hm⟩,if_pos rfl,if_neg ah]
 rw [e0];unfold acU;rw [ke];show _=(VJ T m.regs b.pc b.len (symEnd (nH b (dS t b)) (b.pc+b.len)) ((dS t b).evs.foldl (kP T m.regs b.pc b.len) ⟨m,[],[],false⟩),true);rw [show b.ops.foldl stp (s0 t)=dS t b from rfl]at F;generalize (dS t b).evs.foldl (kP T m.regs b.pc b.len) ⟨m,[],[],false⟩=P at F;generalize b.ops.foldl (bO b) ⟨m,[],false⟩=M at F;rcases F with⟨J,K⟩ | ⟨l1,l2,l3⟩
 .unfold Af VJ;rw [if_neg (show¬M.left=true by rw [K.lf];decide),if_neg (show¬P.left=true by rw [J.lf];decide),amw _ _ _ pk,kr];unfold pv;have ev:=J.v P.L P.I (List.prefix_refl _) (List.prefix_refl _) J.wl J.wi;have eg:=J.r P.L P.I (List.prefix_refl _) (List.prefix_refl _) J.wl J.wi;have wv:wOK M.vals:=K.wv;have vx:=λi:Int=>(JU (f:=evF (tv m.regs P.L P.I T)) rfl (dS t b).vals i).symm
  rw [ev]at vx;have vw:=λi:Int=>K.wv.at i
  have en:=hb.en.f;refine Prod.ext ?_ rfl;show({M.m with count:=M.m.count+b.len,pc:=if b.fin=1 then b.k else if b.fin=2 then((M.vals).getD (b.x).toNat default)else if FV (b.fin-2) ((M.vals).getD (b.x).toNat default) ((M.vals).getD (b.y).toNat default)=true then b.k else b.pc+b.len}:aH)=rz P.m (dS t b).regs (tv m.regs P.L P.I T) (JR b.pc b.len (nH b (dS t b)) (evF (tv m.regs P.L P.I T) (nH b (dS t b)).x) (evF (tv m.regs P.L P.I T) (nH b (dS t b)).y)) b.len 0;unfold rz;rw [eg,J.m];dsimp only;have epc:(if b.fin=1 then b.k else if b.fin=2 then((M.vals).getD (b.x).toNat default)else if FV (b.fin-2) ((M.vals).getD (b.x).toNat default) ((M.vals).getD (b.y).toNat default)=true then b.k else b.pc+b.len)=JR b.pc b.len (nH b (dS t b)) (evF (tv m.regs P.L P.I T) (nH b (dS t b)).x) (evF (tv m.regs P.L P.I T) (nH b (dS t b)).y):=by
   unfold JR nH;dsimp only;by_cases f1:b.fin=1
   .rw [if_pos f1,if_neg ah,if_pos (Or.inl f1)]
   rw [if_neg f1];by_cases f2:b.fin=2
   .rw [if_pos f2,if_pos f2,if_neg f1,vx]
   rw [if_neg f2,if_neg f2,if_neg f1,if_pos (show 3<=b.fin by omega),vx b.x,vx b.y];obtain⟨q1,q2⟩:=VG (vw b.x) (vw b.y);by_cases f3:b.fin=3
   .rw [f3,show(3:Int)-2=1 by decide];by_cases d:((M.vals).getD (b.x).toNat default)=((M.vals).getD (b.y).toNat default)
    .rw [if_pos (q1.2 d),if_pos (Or.inr (Or.inl ⟨rfl,d⟩))]
    .rw [if_neg (λz=>d (q1.1 z)),if_neg ah]
   .have f4:b.fin=4:=by omega
    rw [f4,show(4:Int)-2=2 by decide];by_cases d:((M.vals).getD (b.x).toNat default)< ((M.vals).getD (b.y).toNat default)
    .rw [if_pos (q2.2 d),if_pos (Or.inr (Or.inr ⟨rfl,d⟩))]
    .rw [if_neg (λz=>d (q2.1 z)),if_neg ah]
  rw [epc,<-K.ha]
 .unfold Af VJ;rw [if_pos l1,if_pos l2,l3]
def VO{b c:Blk}(h:chk b c=true)(m:aH):iX b m=iX c m/\dO b/\dO c/\b.pc=c.pc/\b.len=c.len:=by
 obtain⟨ob,oc,pc,len,h⟩:=aT.1 h;refine⟨?_,ob,oc,pc,len⟩;rcases h with rfl | h
 .rfl
 by_cases k:MOK m/\m.halt=0/\m.pc=b.pc/\m.count<=1000000-b.len
 .obtain⟨hm,g0,g1,g2⟩:=k;have h4:=Mc;have sb:=ob.sz;obtain⟨r1,r2,r3⟩:=wL h4.1 ah ob;obtain⟨q1,q2,q3⟩:=wL r1 ah oc;rw [F4 h4.1 ah ob q1 q2 hm g0 g1 g2,F4 r1 ah oc q1 (List.prefix_refl _) hm g0 ah ah,h,pc,len]
 .unfold iX;by_cases hm:MOK m
  .have k':m.halt≠0\/m.pc≠b.pc\/1000000-b.len<m.count:=by
    by_cases a:m.halt=0
    .by_cases a2:m.pc=b.pc
     .exact Or.inr (Or.inr (Int.not_le.1 λa3=>k ⟨hm,a,a2,a3⟩))
     .exact Or.inr (Or.inl a2)
    .exact Or.inl a
   rw [aU ⟨ob,hm⟩,aU ⟨oc,hm⟩,if_pos rfl,if_pos ah,if_pos rfl,if_pos ah]
  .rw [bJ (λq=>hm q.2),bJ (λq=>hm q.2),if_neg (by decide),if_neg (by decide)]
noncomputable def VP:List Int->List Ins
 | []=> []
 | w::r=>if bp (Wo w/\dL (sQ w))=true then sQ w::VP r else []
def auW(e:Cac)(mem:List Int):Prop:=0<=e.blk.pc/\∀t:Nat,t<e.words.length->e.blk.pc+t<mem.length/\((mem).getD (e.blk.pc+t).toNat default)=e.words.getD t default
structure amx(e:Cac):Prop where
 len:(VP e.words).length=e.words.length
 ok:xg e.blk.pc (VP e.words)
 chk:chk (lower e.blk.pc (VP e.words)) e.blk=true
structure arS(l:List Cac)(mem:List Int):Prop where
 n:l.length<=4
 r:∀e∈l,amx e/\auW e mem
 u:l.Pairwise λa b=>a.blk.pc≠b.blk.pc
structure au7(e:Eng):Prop where
 m:MOK e.iK
 c:arS e.cache e.iK.mem
 p:aie e.XG
def agS{b:Blk}{m:aH}(hs:MSh m)(ho:m.outs.length<900000000):MSh (iX b m).1:=by
 by_cases k:bp (dO b/\MOK m)=true
 .by_cases k2:m.halt≠0\/m.pc≠b.pc\/1000000-b.len<m.count
  .have e:iX b m=(m,false):=by unfold iX;rw [if_pos k,if_pos k2]
   rw [e];exact hs
  .have e:iX b m=(Af b (b.ops.foldl (bO b) ⟨m,[],false⟩),true):=by unfold iX;rw [if_pos k,if_neg k2]
   exact acK (b:=b) (m:=m) (by rw [e]) hs ho
 .have e:iX b m=(JO,false):=by unfold iX;rw [if_neg k]
  rw [e];exact⟨by decide,by decide,by decide,by decide⟩
set_option maxHeartbeats 1000000 in
theorem arT{p1 f1 p2 f2 p3 f3 p4 f4 p5 f5 p6 f6 p7 f7 p8 f8 p9 f9 p10 f10}(U1:Y95 p1 f1)(U2:Y60 p2 f2)(U3:auL p3 f3)(U4:auM p4 f4)(U5:Y47 p5 f5)(U6:Y95 p6 f6)(U7:Y96 p7 f7)(U8:auN p8 f8)(U9:agH p9 f9)(U10:Y10 p10 f10)(c d:List Int)(hc:By c)(hd:By d):abr.F (p1,f1,p2,f2,p3,f3,p4,f4,p5,f5,p6,f6,p7,f7,p8,f8,p9,f9,p10,f10,()) (c,d,()) (λy=>y=(true,())):=by
 obtain⟨hp1,hf1⟩:=U1;obtain⟨hp2,hf2⟩:=U2;obtain⟨hp3,hf3⟩:=U3;obtain⟨hp4,hf4⟩:=U4;obtain⟨hp5,hf5⟩:=U5;obtain⟨hp6,hf6⟩:=U6;obtain⟨hp7,hf7⟩:=U7;obtain⟨hp8,hf8⟩:=U8;obtain⟨hp9,hf9⟩:=U9;obtain⟨Xc,ab7⟩:=U10;have mK:∀(a1:List Int) (a2:Int) (a3:List Int) (a4:Int) (a5 a6:Bool) (a7:Int) (a8 a9:List Int) (a10:Int),Co.mk .iK (a1,a2,a3,a4,a5,a6,a7,a8,a9,a10,())=⟨a1,a2,a3,a4,a5,a6,a7,a8,a9,a10⟩:=λ_ _ _ _ _ _ _ _ _ _=>rfl
 have mX:∀M:aH,(⟨M.regs,M.pc,M.mem,M.save,M.dV,M.waits,M.halt,M.ins,M.outs,M.count⟩:aH)=M:=λ_=>rfl
 dsimp only [abr,gm]at*;simp (disch:=omega) only [RR];intro hh;have hl:¬1048576< (c.length:Int):=λg=>by simp [g]at hh
 have hm:¬1048576< (d.length:Int):=λg=>by simp [g]at hh
 have D1:=hf7 c hc ah;have P1:=hp7 c hc ah;obtain⟨D2,D3,_⟩:=hf8 d hd ah;have P2:=hp8 d hd ah;generalize f7 (c,())=y1 at D1 ⊢;generalize f8 (d,())=y3 at D2 D3 ⊢;obtain⟨b,e,⟨⟩⟩:=y1;obtain⟨blk,pc0,mem,save,lt,wt,ha0,ins,ct,arU,outs,⟨⟩⟩:=y3;dsimp only [mD]at D1 D2 D3;obtain⟨b1,b2⟩:=D1;have c1:b.ops.length<1000000000:=by omega
 have c2:e.ops.length<1000000000:=by omega
 simp (disch:=omega) only [RR,decide_true,decide_false,Bool.true_or,Bool.or_true,Bool.false_or,Bool.or_false,hl,hm,P1,P2,RB,hp1 b e c1 c2,hf1 b e c1 c2,hp6 b e c1 c2,hf6 b e c1 c2,hp5,hf5,beq_self_eq_true];intro ck;obtain⟨_,ob,oc,_,_⟩:=VO ck JO;have ms:∀(regs:List Int) (pc ha:Int),regs.length<1000000000->MSh ⟨regs,pc,mem,save,lt,wt,ha,ins,outs,ct⟩:=λregs pc ha h=>⟨h,D2.2.1,D2.2.2.1,D2.2.2.2⟩
 have mo:∀(regs:List Int) (pc ha:Int),(⟨regs,pc,mem,save,lt,wt,ha,ins,outs,ct⟩:aH).outs.length<900000000:=λ_ _ _=>by show outs.length<900000000;omega
 refine ak (λy=>∃(k:Nat) (regs:List Int) (pc ha:Int),k<=4/\regs.length<1000000000/\y=((k:Int),b,e,regs,pc,mem,save,lt,wt,ha,ins,ct,outs,())) (λy=>(4-y.1).toNat) ⟨0,arU,pc0,ha0,ah,D2.1,rfl⟩ ?_;rintro y ⟨k,regs,pc,ha,k1,r1,rfl⟩;dsimp only;by_cases kk:(k:Int)<4
 .have E:=λpc ha=>(VO ck ⟨regs,pc,mem,save,lt,wt,ha,ins,outs,ct⟩).1
  have S:=λpc ha=>agS (b:=e) (ms regs pc ha r1) (mo regs pc ha)
  have P3:=λpc ha=>hp3 b _ c1 (ms regs pc ha r1) (mo regs pc ha)
  have H3:=λpc ha=>hf3 b _ c1 (ms regs pc ha r1) (mo regs pc ha)
  have P4:=λpc ha=>hp3 e _ c2 (ms regs pc ha r1) (mo regs pc ha)
  have H4:=λpc ha=>hf3 e _ c2 (ms regs pc ha r1) (mo regs pc ha)
  have P5:=λpc ha=>hp4 _ (iX e ⟨regs,pc,mem,save,lt,wt,ha,ins,outs,ct⟩).1 (S pc ha)
  have H5:=λpc ha=>hf4 _ (iX e ⟨regs,pc,mem,save,lt,wt,ha,ins,outs,ct⟩).1 (S pc ha)
  simp (disch:=omega) only [RR,kk,mK,hp9 _ (ms regs pc ha r1),hf9 _ (ms regs pc ha r1),P3,H3,E,P4,H4,mX,P5,H5,Xc,ab7,aU rfl,beq_self_eq_true];simp only [show bp True=true from aU trivial,Bool.true_eq_false,false_implies,true_and,true_implies];refine⟨λ_=>⟨λg=>⟨ah,ah,ah,ah,ah,ah,⟨k+1,_,b.pc,0,ah,?_,rfl⟩,ah⟩,λ_=>⟨⟨k+1,regs,b.pc,0,ah,r1,rfl⟩,ah⟩⟩,λ_=>⟨λg=>⟨ah,ah,ah,ah,ah,ah,⟨k+1,_,pc,ha,ah,?_,rfl⟩,ah⟩,λ_=>⟨⟨k+1,regs,pc,ha,ah,r1,rfl⟩,ah⟩⟩⟩
  all_goals (simp only [List.length_cons,List.length_nil];omega)
 .simp (disch:=omega) only [RR,kk,hp2 b c1,hf2 b c1,hp2 e c2,hf2 e c2,aU ob,aU oc,Bool.and_self]
structure auX(e:Ev):Prop where
 kd:4<=e.kind/\e.kind<=7
 at_:0<=e.at_/\e.at_<8
 x:aG e.x
 y:aG e.y
 r:∀p∈e.regs,aG p
 rl:e.regs.length<=4
structure avu(T:List Atom)(S:Sym)(b:Blk)(m:aH):Prop where
 t:aD T
 e:∀e∈S.events,auX e
 el:S.events.length<=48
 r:∀p∈S.regs,aG p
 rl:S.regs.length<=4
 x:aG S.x
 y:aG S.y
 mo:MOK m
 pc:0<=b.pc/\b.pc<=64
 ln:0<=b.len/\b.len<=8
 ins:m.ins.length<1000000000
 out:m.outs.length<800000000
end Go.TX.F
namespace Go.TX
open Go Go.AE
def enters_of{P:Program}{f:FuncId}{fn:Func}{c:Code}(hf:P.funcs[f]? =some fn)(hname:(fn.name== "runtime.NumGoroutine")=false)(hb:fn.body=some c):Enters P f:=by
 intro args w;have h1:fn.name≠ "runtime.NumGoroutine" :=by simpa using hname
 simp [callFunc,hf,h1,hb,mark]
def VQ(P:Program):Nat->List Field->Bool
 | _,[]=>true
 | k,f::fs=> !(f.name== "_")&&f.offset==k&& (match P.underlying f.type with | some (.int _)=>true | _=>false)&&VQ P (k+1) fs
def VR{P:Program}(w:World)(d:Nat)(xs ys:List Int)(hl:xs.length=ys.length):∀(fs:List Field) (k:Nat),VQ P k fs=true->k+fs.length=xs.length->
  (Op.eqFields (d+1) (xs.map (Value.int .i64)).toArray (ys.map (Value.int .i64)).toArray fs).run P w= .ok (xs.drop k==ys.drop k) w
 | [],k,_,h2=>by
  rw [List.drop_eq_nil_of_le (show xs.length<=k by simp only [List.length_nil]at h2;omega),List.drop_eq_nil_of_le (show ys.length<=k by simp only [List.length_nil]at h2;omega)];simp [Op.eqFields]
 | f::fs,k,h1,h2=>by
  simp only [List.length_cons]at h2;simp only [VQ,Bool.and_eq_true,Bool.not_eq_true',beq_eq_false_iff_ne,beq_iff_eq]at h1;obtain⟨⟨⟨n1,n2⟩,n3⟩,n4⟩:=h1;have hk:k<xs.length:=by omega
  have hk':k<ys.length:=by omega
  obtain⟨kd,hu⟩:∃kd,P.underlying f.type=some (.int kd):=by
   cases hu:P.underlying f.type with
   | none=>rw [hu]at n3;cases n3
   | some z=>cases z<;>(first | exact⟨_,rfl⟩ | (rw [hu]at n3;cases n3))
  have pk:P.plainKey f.type=true:=by unfold Program.plainKey;rw [hu]
  have p1:=run_part_plain w pk (xs:=(xs.map (Value.int .i64)).toArray) (off:=f.offset) (v:= .int .i64 xs[k]) (by rw [n2];simp [hk]);have p2:=run_part_plain w pk (xs:=(ys.map (Value.int .i64)).toArray) (off:=f.offset) (v:= .int .i64 ys[k]) (by rw [n2];simp [hk']);have ih:=VR w d xs ys hl fs (k+1) n4 ah;simp only [Op.eqFields,if_pos n1,Sem.run_bind,p1,p2,Result.andThen_ok,run_equalIn_int w d f.type .i64 kd _ _ hu];have e:(xs.drop k==ys.drop k)=((xs[k]==ys[k])&& (xs.drop (k+1)==ys.drop (k+1))):=by rw [List.drop_eq_getElem_cons hk,List.drop_eq_getElem_cons hk'];rfl
  rw [e];by_cases c:(xs[k]==ys[k])=true
  .rw [c];simp only [Bool.not_true,Bool.false_eq_true,if_false,ih,Bool.true_and]
  .have c2:(xs[k]==ys[k])=false:=by simpa using c
   rw [c2];simp only [Bool.not_false,if_true,Sem.run_pure,Bool.false_and]
def amy{P:Program}{t:TypeId}{n:Nat}(hu:P.underlying t=some (.struct (P.fieldsOf t)))(hs:P.stoodInHeld t=false)(hg:P.eqGuardType P.depth t=false)(hf:VQ P 0 (P.fieldsOf t).toList=true)(hn:(P.fieldsOf t).size=n)(xs ys:List Int)(hx:xs.length=n)(hy:ys.length=n)(w:World):
  (Op.equal t (.agg (xs.map (Value.int .i64)).toArray) (.agg (ys.map (Value.int .i64)).toArray)).run P w= .ok (xs==ys) w/\
  (eqGuard .eql t (.tmp 0) (.tmp 0) (.agg (xs.map (Value.int .i64)).toArray) (.agg (ys.map (Value.int .i64)).toArray)).run P w= .ok () w:=by
 refine⟨?_,run_eqGuard_agg w _ _ _ _ _ _ hg⟩;show(Op.equalIn (9999+1) t _ _).run P w=_;rw [run_equalIn_struct w 9999 t _ _ hu hs,VR w 9998 xs ys ah _ 0 hf (by rw [Array.length_toList];omega)];rfl
noncomputable def never (s:Sig):Ct aF s:={pre:=λ_=>false,fn:=λ_=>Classical.choice (uz _)}
def jZ{E:Tab}{f:FuncId}{s:Sig}(h:Enters E.P f):dH E f (dB (never s)) where
 enters:=h
 calls:=by
  rintro args hh n K ⟨m,vs,h2,h3,h4,h5,cr,h6,h7,h8⟩;exfalso;unfold qL at h6;split at h6
  .split at h6
   .split at h6
    .split at h6
     .cases h6;have:=h7 false (List.mem_append_right _ (List.mem_singleton.2 rfl));cases this
     .cases h6
    .cases h6
   .cases h6
  .cases h6
abbrev auY:Sig:={args:=[.c (.rows true .u8),.c (.rows true .u8)],objs:=[],res:=[.c .bool],dQ:=[]}
def entry(W:World):Ctx:={K:=λ_ b=>b<W.heap.size,μ:=λ_=>none,n:=0}
def Sw(W:World):bH (entry W) W []:=
 ⟨λl o h=>(by cases h),λl o l' o' b h=>(by cases h),λf b ⟨l,o,h,_⟩=>(by cases h),λf b h=>h,λb h=>h⟩
def ME{W W':World}{c':Ctx}{h':Heap}(g:Grow (entry W) W [] c' W' h'):RowKit.Below W.heap.size W W':=
 ⟨g.os,g.tape,g.output,g.size,λk hk=>g.kept k hk λ⟨l,o,h,_⟩=>by cases h⟩
def agT{c:Ctx}{w:World}{v:Value}{r:PV}{N:NM}{b:Bool}(h1:bG c w v r)(h2:PVR N r (.c (.d true (.bool b)))):v= .bool b:=by
 cases h2 with
 | one h=>
  cases h with
  | c h=>
   cases h with
   | d h3 _=>
    subst h3;cases h1 with
    | c _ _ h4=>cases h4 with
     | d _ _ _ h5=>cases h5;rfl
  | agg h=>cases h
def auZ{E:Tab}{f:FuncId}{c:Ct aF auY}(hc:dH E f (dB c)){xs ys:List Int}{W:World}{v u:Value}(hv:dG (λb=>b<W.heap.size) W v (.rows 1 (aL .u8 xs)))(hu:dG (λb=>b<W.heap.size) W u (.rows 1 (aL .u8 ys)))
  (hg:qA E (entry W) W) (hp:c.pre (xs,ys,())=true):Go.Calls E.P f #[v,u] W λe W'=>e= .returned (.bool (c.fn (xs,ys,())).1)/\RowKit.Below W.heap.size W W':=by
 refine(hc.calls [.c (.d true (.rows 1 (aL .u8 xs))),.c (.d true (.rows 1 (aL .u8 ys)))] [] 0 (λr _ _=>PVR (nmh []) r (.c (.d true (.bool (c.fn (xs,ys,())).1)))) ?_ (entry W) W [v,u] rfl
  (.cons (.c _ _ (.d true _ _ hv)) (.cons (.c _ _ (.d true _ _ hu)) .nil)) (Sw W) hg).mono ?_
 .refine⟨0,[.c (.d true (.rows .u8 xs)),.c (.d true (.rows .u8 ys))],[],.cons (.one (.c (.d rfl λ_=> .inl rfl))) (.cons (.one (.c (.d rfl λ_=> .inl rfl))) .nil),⟨λl o h=>(by cases h),λ_ _=>rfl⟩,rfl,_,rfl,?_,_,_,rfl,?_⟩
  .intro b hb;rcases List.mem_append.1 hb with h | h
   .cases h
   .rw [List.mem_singleton]at h;rw [h];exact hp
  .intro r _ _ h _ _ _;exact h
 .rintro e W' he;cases e with
  | returned u=>
   obtain⟨c',r,h',j,g,_,_,h1,h2⟩:=he;exact⟨by rw [agT h1 h2],ME g⟩
  | outgrown=>exact he.elim
  | panicked _=>exact he.elim
open Go.RowKit Go.ChangeShapes Go.WideShapes Go.ChangeAt in
def MF{H:Type}{enc:TypeId×Value->H}{P:Program}{t e:TypeId}(ht:P.underlying t=some (.slice e))(he:P.underlying e=some (.int .u8))(hc:P.cellsOf e=1){W:World}{base:Nat}{v:Value}{d:DataW H}{p:List MemPlace}
  (hval:Value.okWide P W .any base t v) (h:DataW.Trod enc P W 0 (λ_=>true) true t v d p) (hlt:∀x∈p,x.block<W.heap.size):
  ∃xs:List Int,dG (λb=>b<W.heap.size) W v (.rows 1 (aL .u8 xs))/\∀z∈xs,0<=z/\z<=255:=by
 obtain⟨a0,len,cap,rfl⟩:=okWide_slice ht hval;obtain⟨fuel,hf⟩:=h;rcases open_ints ht he hc hf with⟨hcs,hx⟩ | ⟨a,len',cap',zs,hcs,_,hl,hm,hz,hx,hcell,hwz⟩
 .simp [Value.cells]at hcs;obtain⟨rfl,rfl,rfl⟩:=hcs;exact⟨[],.none _ _ _,λ_ h=>by cases h⟩
 .simp [Value.cells]at hcs;obtain⟨rfl,rfl,rfl⟩:=hcs;simp only [Prod.mk.injEq]at hx;obtain⟨rfl,rfl⟩:=hx;simp only [if_true]at hz;have rng:∀z∈zs,0<=z/\z<=255:=λz hz=>by
   obtain⟨i,hi,rfl⟩:=List.getElem_of_mem hz;have:=range_u8 hwz i
   rwa [List.getElem?_eq_getElem hi]at this
  refine⟨zs.take len,?_,λz h=>rng z (List.mem_of_mem_take h)⟩;by_cases h0:len=0
  .subst h0;exact .none _ _ _
  .obtain⟨b,off,spot⟩:=a;have hspot:spot=none:=by simpa [Addr.add]using World.cell?_spot (hcell 0 ah)
   subst hspot;have hbW:b<W.heap.size:=hlt (.cell b off) (MemPlace.mem_row.2 ⟨0,ah,by simp⟩);have hlen:(aL .u8 (zs.take len)).length=len:=by simp only [aL,List.length_map,List.length_take];omega
   have hget:∀i,i<len->(aL .u8 (zs.take len)).getD i []=[.int .u8 (zs.getD i 0)]:=λi hi=>by
    simp only [aL,List.getD,List.getElem?_map,List.getElem?_take_of_lt hi,List.getElem?_eq_getElem (show i<zs.length by omega)];rfl
   refine .rows b off cap 1 len _ (λi j=> .int .u8 (zs.getD i 0)) hbW hlen.symm hl (λi j hi hj=> ?_) (λi hi=> ?_) (λi j hi hj=> ?_)
   .rw [hlen]at hi;have:=hcell i ah;rw [add_plain]at this;rw [show off+i*1+j=off+i by omega];exact this
   .rw [hlen]at hi;rw [hget i hi];rfl
   .rw [hlen]at hi;have hj0:j=0:=by omega
    subst hj0;unfold gd;rw [hget i hi];exact .int _ _
end Go.TX
namespace Go.TX.Seat
open Go Go.AE Go.TX Go.TX.F Go.Proofs
set_option maxRecDepth 100000
theorem au0:∀t n,E.ieq t=some n->∀(xs ys:List Int),xs.length=n->ys.length=n->∀w,
  (Op.equal t (.agg (xs.map (Value.int .i64)).toArray) (.agg (ys.map (Value.int .i64)).toArray)).run E.P w= .ok (xs==ys) w/\
  (eqGuard .eql t (.tmp 0) (.tmp 0) (.agg (xs.map (Value.int .i64)).toArray) (.agg (ys.map (Value.int .i64)).toArray)).run E.P w= .ok () w:=by
 intro t n h;obtain⟨c,hc,rfl⟩:∃c,ieq t=some c/\c.size=n:=by
  have h':(ieq t).map (λc=>c.size)=some n:=h;cases hi:ieq t with
  | none=>rw [hi]at h';cases h'
  | some c=>rw [hi]at h';cases h';exact⟨c,rfl,rfl⟩
 unfold ieq at hc;split at hc
 all_goals first | (cases hc;exact amy (by kernel_rfl) (by kernel_rfl) (by kernel_rfl) (by kernel_rfl) (by kernel_rfl)) | cases hc
theorem hE:aD E:=⟨auq,au0⟩
theorem au1:∀t c,X.ieq t=some c->(c= .ins/\E.ieq t=some 4)\/(c= .iop/\E.ieq t=some 5):=by
 intro t c h;have h:ieq t=some c:=h;have e:E.ieq t=(ieq t).map λc=>c.size:=rfl
 rw [e,h];unfold ieq at h;split at h
 all_goals first | (cases h;first | exact Or.inl ⟨rfl,rfl⟩ | exact Or.inr ⟨rfl,rfl⟩) | cases h
theorem xok:XOK X E:=⟨rfl,λg c h=>(by
    first
    | (cases h;done)
    | (dsimp only [X] at h
       split at h
       · rename_i e;cases h;unfold E;dsimp only;rw [if_pos e];rfl
       · cases h)),au1⟩
theorem hm:E.P.follows .mixedOrders=true:=by kernel_rfl
structure HL(l:List (Nat×Sig)) where
 C:Cs (std 0) l
 h:∀p∈csl (std 0) l C,dH E p.1 (dB p.2.2)
abbrev hn : HL [] := ⟨(), λ_ h => by cases h⟩
abbrev hk{f : FuncId}{s : Sig}{c : Ct aF s}{l : List (Nat × Sig)}(h : dH E f (dB c))(r : HL l) : HL ((f, s) :: l) := ⟨(c.pre, c.fn, r.C), λp hp => by
 rcases List.mem_cons.1 hp with rfl | hp
 .exact h
 .exact r.h p hp⟩
structure Mt{lk:aB}{s:Sig}{o:List (Nat×List fC)}{an:Ann}{fn:Func}{l:List (Nat×Sig)}(f:FuncId)(g:Gt lk X E o an s fn l) where
 H:HL l
 k:Fn E f (g.F H.C) (cn (g.F H.C))
section
variable {lk:aB} {s:Sig} {o:List (Nat×List fC)} {an:Ann} {fn:Func} {l:List (Nat×Sig)} {f:FuncId}
@[irreducible] noncomputable def Mt.c {g : Gt lk X E o an s fn l} (t : Mt f g) : Ct aF s := cn (g.F t.H.C)
theorem Mt.cs{g:Gt lk X E o an s fn l}(t:Mt f g){x:gZ s.inp}{Q:gZ s.out->Prop}(h:g.F t.H.C x Q):t.c.pre x=true/\Q (t.c.fn x):=by unfold Mt.c;exact t.k.cs h
theorem Mt.ok{g:Gt lk X E o an s fn l}(t:Mt f g):dH E f (dB t.c):=by unfold Mt.c;exact t.k.ok
@[reducible] noncomputable def hc {r : List (Nat × Sig)} {g : Gt lk X E o an s fn l} (t : Mt f g) (h : HL r) : HL ((f, s) :: r) := hk t.ok h
theorem mkF(hf:E.P.funcs[f]? =some fn)(g:Gt lk X E o an s fn l)(H:HL l)
 (hb:fn.body.isSome=true:=by rfl) (hn:(fn.name== "runtime.NumGoroutine")=false:=by kernel_rfl):Fn E f (g.F H.C) (cn (g.F H.C)):=aun hE xok hm hf hb (λ_=>enters_of hf hn) H.h (g.h H.C)
noncomputable def mk (g:Gt lk X E o an s fn l) (hf:E.P.funcs[f]? =some fn) (H:HL l)
 (hb:fn.body.isSome=true:=by rfl) (hn:(fn.name== "runtime.NumGoroutine")=false:=by kernel_rfl):Mt f g:=⟨H,mkF hf g H hb hn⟩
end
theorem acV{E:Tab}{f:FuncId}{c:Ct aF {args:=[.c (.int .u64)],objs:=[],res:=[.c (.int .i64)],dQ:=[]}}{g:Int->Int}(hent:Enters E.P f)(hg:(λx:Int=>(c.fn (x,())).1)=g)
  (h:∀(x:Int) (w:World),c.pre (x,())=true->Go.Calls E.P f #[.int .u64 x] w λe w'=>e= .returned (.int .i64 (g x))/\w'=w):dH E f (dB c) where
 enters:=hent
 calls:=by
  rintro args hh n K ⟨m,qs,hs,hargs,HR,hlen,cr,hcall,afQ,v,kT,hvk,hK⟩ c1 w vs hcn pW Hh Gl;have key:∀f0 (x:Int),qs=[.c (.d f0 (.int .u64 x))]->qL (std m) hs {args:=[.c (.int .u64)],objs:=[],res:=[.c (.int .i64)],dQ:=[]} c qs=some {ck:=[c.pre (x,())],ts:=[.i],y:=c.fn (x,()),touched:=[],pure:=true,k:=λy=>some (.c (.d true (.int .i64 y.1)),hs)}:=by
   intro f0 x e;subst e;rfl
  have hq:∃f0 x,qs=[.c (.d f0 (.int .u64 x))]:=by
   unfold qL at hcall;cases qs with
   | nil=>simp [nW]at hcall
   | cons q r=>
    cases r with
    | cons q2 r2=>
     exfalso;simp only [nW]at hcall;cases hx:Gn (std m) hs (.c (.int .u64)) q (es0 (std m) 0 [])with
     | none=>rw [hx]at hcall;simp at hcall
     | some s=>rw [hx]at hcall;simp [nW]at hcall
    | nil=>
     simp only [nW]at hcall;cases q with
     | c y=>
      simp only [Gn,extC]at hcall;cases y with
      | d f0 y=>
       cases y with
       | int k x=>
        by_cases hk:IntKind.u64=k
        .subst hk;exact⟨f0,x,rfl⟩
        .simp [hk]at hcall
       | _=>simp at hcall
      | _=>simp at hcall
     | _=>simp [Gn]at hcall
  obtain⟨f0,x,rfl⟩:=hq;rw [key f0 x rfl]at hcall;simp only [Option.some.injEq]at hcall;subst hcall;simp only [Option.some.injEq,Prod.mk.injEq]at hvk;obtain⟨rfl,rfl⟩:=hvk;have hpre:=afQ _ (List.mem_singleton.2 rfl);have hv:vs=[.int .u64 x]:=by
   cases hargs with
   | cons h1 h2=>
    cases h2;cases pW with
    | cons h3 h4=>
     cases h4;cases h1 with
     | one h1=>
      cases h1 with
      | c h1=>
       cases h1 with
       | d h5 _=>
        subst h5;cases h3 with
        | c _ _ h6=>cases h6 with
         | d _ _ _ h7=>cases h7;rfl
      | agg h1=>cases h1
  subst hv;refine(h x w hpre).mono ?_;rintro e w' ⟨rfl,rfl⟩;refine⟨c1,.c (.d true (.int .i64 (g x))),hh,0,.refl _ _ _,Hh,hcn,.c _ _ (.d _ _ _ (.int _ _)),hK _ _ _ ?_ HR (.refl _ _ _) hlen⟩;rw [<-hg];exact .one (.c (.d rfl λ_=> .inl rfl))
end Go.TX.Seat
namespace Go.TX.F
open Go Go.AE Go.TX Go.TX.Seat Go.Proofs
set_option maxRecDepth 100000
set_option maxHeartbeats 4000000
noncomputable def j6:=mk OJ Tryz.func56 hn
def kQ:=λa b c=>(j6.cs (abD a b c:)).1
def kR:=λa b c=>(j6.cs (abD a b c:)).2
noncomputable def rA:=mk OL Tryz.func55 hn
def za:=λa=>(rA.cs (abE a:)).1
def ze:=λa=>(rA.cs (abE a:)).2
noncomputable def acW:=mk OM Tryz.func212 (hc j6 hn)
def uL:=λk=>acW.cs (alh ⟨kQ,kR⟩ k:)
def amA:=λk=>(uL k).1
def amB:=λk=>(uL k).2
noncomputable def Sy:=mk OO Tryz.func159 (hc acW hn)
def Ai:=λops x n h1=>Sy.cs (ali amA amB ops x n h1:)
def acX:=λops x n h1=>(Ai ops x n h1).1
def acY:=λops x n h1=>(Ai ops x n h1).2
noncomputable def acZ:=mk OQ Tryz.func91 (hc rA (hc j6 (hc Sy hn)))
def CW:=λops i len h0 h1 h3=>acZ.cs (alj ⟨za,ze⟩ ⟨kQ,kR⟩ ⟨acX,acY⟩ ops i len h0 h1 h3:)
def amC:=λops i len h0 h1 h3=>(CW ops i len h0 h1 h3).1
def amD:=λops i len h0 h1 h3=>(CW ops i len h0 h1 h3).2
noncomputable def ac0:=mk OT Tryz.func92 (hc rA (hc Sy hn))
def Aj:=λb=>ac0.cs (alk ⟨za,ze⟩ ⟨acX,acY⟩ b:)
def amE:=λb=>(Aj b).1
def amF:=λb=>(Aj b).2
noncomputable def rC:=mk OU Tryz.func24 (hc j6 (hc ac0 (hc acZ hn)))
def CX:=λb h2=>rC.cs (alm ⟨kQ,kR⟩ amE amF amC amD b h2:)
def uM:=λb h2=>(CX b h2).1
def uN:=λb h2=>(CX b h2).2
noncomputable def gH:=mk OV Tryz.func48 hn
def iq:=λn b p hb h1 h2=>(gH.cs (abT n b p hb h1 h2:)).1
def iy:=λn b p hb h1 h2=>(gH.cs (abT n b p hb h1 h2:)).2
noncomputable def Ce:=mk OX Tryz.func52 (hc gH hn)
def qh:=λn b p hb h1 h2=>Ce.cs (ak5 ⟨iq,iy⟩ n b p hb h1 h2:)
def F5:=λn b p hb h1 h2=>(qh n b p hb h1 h2).1
def F6:=λn b p hb h1 h2=>(qh n b p hb h1 h2).2
noncomputable def Cg:=mk OY Tryz.func168 hn
def JV:=λb hb=>(Cg.cs (ab8 b hb:)).1
def JW:=λb hb=>(Cg.cs (ab8 b hb:)).2
noncomputable def Sz:=mk Js Tryz.func117 (hc gH (hc Cg hn))
def uO:=λc b p hc hb h1 h2=>Sz.cs (alF ⟨iq,iy⟩ ⟨JV,JW⟩ c b p hc hb h1 h2:)
def ac1:=λc b p hc hb h1 h2=>(uO c b p hc hb h1 h2).1
def ac2:=λc b p hc hb h1 h2=>(uO c b p hc hb h1 h2).2
noncomputable def SA:=mk OZ Tryz.func231 hn
def amG:=λi=>(SA.cs (uK i:)).1
def amH:=λi=>(SA.cs (uK i:)).2
noncomputable def F7:=mk O5 Tryz.func178 (hc j6 (hc SA hn))
def Ak:=λi=>F7.cs (Gq ⟨kQ,kR⟩ amG amH i:)
def JX:=λi=>(Ak i).1
def JY:=λi=>(Ak i).2
noncomputable def JZ:=mk O6 Tryz.func179 hn
def ac3:=λa=>(JZ.cs (rV a:)).1
def ac4:=λa=>(JZ.cs (rV a:)).2
noncomputable def J2:=mk O7 Tryz.func127 (hc JZ (hc F7 hn))
def uP:=λi=>J2.cs (Dr ⟨ac3,ac4⟩ ⟨JX,JY⟩ i:)
def SB:=λi=>(uP i).1
def amI:=λi=>(uP i).2
noncomputable def SE:=mk O8 Tryz.func216 (hc gH hn)
def xw:=λb p hb h1 h2=>SE.cs (alo ⟨iq,iy⟩ b p hb h1 h2:)
def ac5:=λb p hb h1 h2=>(xw b p hb h1 h2).1
def ac6:=λb p hb h1 h2=>(xw b p hb h1 h2).2
noncomputable def J3:=mk O9 Tryz.func163 (hc SE (hc gH (hc J2 hn)))
def uQ:=λb p hb h1 h2=>J3.cs (alp ⟨ac5,ac6⟩ ⟨iq,iy⟩ ⟨SB⟩ b p hb h1 h2:)
def SF:=λb p hb h1 h2=>(uQ b p hb h1 h2).1
def SG:=λb p hb h1 h2=>(uQ b p hb h1 h2).2
noncomputable def SH:=mk Pb Tryz.func99 (hc J3 (hc gH hn))
def uR:=λb p hb h1 h2=>SH.cs (alq ⟨SF,SG⟩ ⟨iq,iy⟩ b p hb h1 h2:)
def ac7:=λb p hb h1 h2=>(uR b p hb h1 h2).1
def ac8:=λb p hb h1 h2=>(uR b p hb h1 h2).2
noncomputable def ac9:=mk Pf Tryz.func165 (hc JZ (hc F7 (hc j6 (hc J2 hn))))
def Am:=λpc l hl=>ac9.cs (Gs ⟨ac3,ac4⟩ ⟨JX,JY⟩ ⟨kQ,kR⟩ SB amI pc l hl:)
def amJ:=λpc l hl=>(Am pc l hl).1
def amK:=λpc l hl=>(Am pc l hl).2
noncomputable def zf:=mk Ph Tryz.func217 hn
def zh:=λa1 a2 a3 a4 a5 a6 o ops h=>(zf.cs (xk a1 a2 a3 a4 a5 a6 o ops h:)).1
def zi:=λa1 a2 a3 a4 a5 a6 o ops h=>(zf.cs (xk a1 a2 a3 a4 a5 a6 o ops h:)).2
noncomputable def J4:=mk Pj Tryz.func218 (hc zf hn)
def ada:=λa1 a2 a3 a4 a5 a6 k x ops h=>(J4.cs (xu ⟨zh,zi⟩ a1 a2 a3 a4 a5 a6 k x ops h:)).1
def adb:=λa1 a2 a3 a4 a5 a6 k x ops h=>(J4.cs (xu ⟨zh,zi⟩ a1 a2 a3 a4 a5 a6 k x ops h:)).2
noncomputable def Ch:=mk Pm Tryz.func219 (hc zf hn)
def J5:=λa1 a2 a3 a4 a5 a6 k ops h=>(Ch.cs (xq ⟨zh,zi⟩ a1 a2 a3 a4 a5 a6 k ops h:)).1
def J6:=λa1 a2 a3 a4 a5 a6 k ops h=>(Ch.cs (xq ⟨zh,zi⟩ a1 a2 a3 a4 a5 a6 k ops h:)).2
noncomputable def SK:=mk Pn Tryz.func220 (hc Ch (hc zf hn))
def rW:=λa1 a2 a3 a4 a5 a6 k a o ops h=>SK.cs (Ca ⟨J5,J6⟩ ⟨zh,zi⟩ a1 a2 a3 a4 a5 a6 k a o ops h:)
def ade:=λa1 a2 a3 a4 a5 a6 k a o ops h=>(rW a1 a2 a3 a4 a5 a6 k a o ops h).1
def adf:=λa1 a2 a3 a4 a5 a6 k a o ops h=>(rW a1 a2 a3 a4 a5 a6 k a o ops h).2
noncomputable def SL:=mk Po Tryz.func221 hn
def amL:=λk k0 k1=>(SL.cs (rU k k0 k1:)).1
def amM:=λk k0 k1=>(SL.cs (rU k k0 k1:)).2
noncomputable def adg:=mk Pp Tryz.func222 (hc Ch (hc zf (hc SK (hc J4 hn))))
def uS:=λa1 a2 a3 a4 a5 a6 i n ops hi h=>adg.cs (Dq ⟨J5,J6⟩ ⟨zh,zi⟩ ⟨ade,adf⟩ ⟨ada,adb⟩ a1 a2 a3 a4 a5 a6 i n ops hi h:)
def amN:=λa1 a2 a3 a4 a5 a6 i n ops hi h=>(uS a1 a2 a3 a4 a5 a6 i n ops hi h).1
def amO:=λa1 a2 a3 a4 a5 a6 i n ops hi h=>(uS a1 a2 a3 a4 a5 a6 i n ops hi h).2
noncomputable def adh:=mk Pq Tryz.func223 (hc Ch hn)
def xA:=λB i hi h=>adh.cs (F3 ⟨J5,J6⟩ B i hi h:)
def amP:=λB i hi h=>(xA B i hi h).1
def amQ:=λB i hi h=>(xA B i hi h).2
noncomputable def adi:=mk Pv Tryz.func166 (hc Ch (hc adh (hc zf (hc adg (hc SK (hc J4 (hc SL hn)))))))
def Ao:=λB i n hi h0 h=>adi.cs (Gr ⟨J5,J6⟩ amP amQ ⟨zh,zi⟩ amN amO ⟨ade,adf⟩ ⟨ada,adb⟩ amL amM B i n hi h0 h:)
def amR:=λB i n hi h0 h=>(Ao B i n hi h0 h).1
def amS:=λB i n hi h0 h=>(Ao B i n hi h0 h).2
noncomputable def SN:=mk Pw Tryz.func101 (hc ac9 (hc adi hn))
def rX:=λpc l hl=>SN.cs (Cc ⟨amJ,amK⟩ amR amS pc l hl:)
def adk:=λpc l hl=>(rX pc l hl).1
def adl:=λpc l hl=>(rX pc l hl).2
noncomputable def J7:=mk Px Tryz.func174 (hc j6 hn)
def adn:=λo al hk hx hy=>(J7.cs (ace ⟨kQ,kR⟩ o al hk hx hy:)).1
def ado:=λo al hk hx hy=>(J7.cs (ace ⟨kQ,kR⟩ o al hk hx hy:)).2
noncomputable def J8:=mk Py Tryz.func118 (hc rC (hc J7 (hc Cg hn)))
def uT:=λb hb=>J8.cs (alC ⟨uM,uN⟩ ⟨adn,ado⟩ ⟨JV,JW⟩ b hb:)
def SQ:=λb hb=>(uT b hb).1
def SX:=λb hb=>(uT b hb).2
noncomputable def SY:=mk Pz Tryz.func226 (hc J7 hn)
def uU:=λb kp ok hk=>SY.cs (aly ⟨adn,ado⟩ b kp ok hk:)
def adp:=λb kp ok hk=>(uU b kp ok hk).1
def adq:=λb kp ok hk=>(uU b kp ok hk).2
noncomputable def ads:=mk PD Tryz.func227 (hc rC (hc j6 hn))
def uV:=λb hb=>ads.cs (alx ⟨uM,uN⟩ ⟨kQ,kR⟩ b hb:)
def amT:=λb hb=>(uV b hb).1
def amU:=λb hb=>(uV b hb).2
noncomputable def adt:=mk PE Tryz.func171 (hc rC (hc ads (hc SY hn)))
def uW:=λb hb=>adt.cs (alz ⟨uM,uN⟩ ⟨amT,amU⟩ ⟨adp,adq⟩ b hb:)
def amV:=λb hb=>(uW b hb).1
def amW:=λb hb=>(uW b hb).2
noncomputable def S9:=mk PG Tryz.func228 hn
def amX:=λops k h0 h1 h2=>(S9.cs (acf ops k h0 h1 h2:)).1
def amY:=λops k h0 h1 h2=>(S9.cs (acf ops k h0 h1 h2:)).2
noncomputable def adu:=mk PI Tryz.func172 (hc rC (hc SY (hc S9 hn)))
def uX:=λb hb=>adu.cs (alA ⟨uM,uN⟩ ⟨adp,adq⟩ amX amY b hb:)
def amZ:=λb hb=>(uX b hb).1
def am0:=λb hb=>(uX b hb).2
noncomputable def oV:=mk PK Tryz.func17 hn
def uY:=λa=>(oV.cs (abG a:)).1
def uZ:=λa=>(oV.cs (abG a:)).2
noncomputable def J9:=mk PL Tryz.func161 (hc oV (hc rA hn))
def Ap:=λop a b=>J9.cs (akQ ⟨za,ze⟩ ⟨uY,uZ⟩ op a b:)
def Ta:=λop a b=>(Ap op a b).1
def Tc:=λop a b=>(Ap op a b).2
noncomputable def Ka:=mk PN Tryz.func229 hn
def adw:=λops k=>(Ka.cs (ab9 ops k:)).1
def adx:=λops k=>(Ka.cs (ab9 ops k:)).2
noncomputable def Td:=mk PO Tryz.func260 hn
def am1:=λb k=>(Td.cs (acd b k:)).1
def am2:=λb k=>(Td.cs (acd b k:)).2
noncomputable def ady:=mk PU Tryz.func230 (hc Td (hc Ka hn))
def u7:=λb h=>ady.cs (alr am1 am2 ⟨adw,adx⟩ b h:)
def am3:=λb h=>(u7 b h).1
def am4:=λb h=>(u7 b h).2
noncomputable def adz:=mk PW Tryz.func173 (hc rC (hc J9 (hc ady (hc Ka (hc Cg hn)))))
def rY:=λb hb=>adz.cs (alv ⟨uM,uN⟩ ⟨Ta,Tc⟩ am3 am4 ⟨adw,adx⟩ ⟨JV,JW⟩ b hb:)
def am5:=λb hb=>(rY b hb).1
def am6:=λb hb=>(rY b hb).2
noncomputable def Kc:=mk PX Tryz.func116 (hc adz (hc J8 (hc adt (hc adu hn))))
def xB:=λb hb=>Kc.cs (als ⟨am5,am6⟩ ⟨SQ,SX⟩ ⟨amV,amW⟩ ⟨amZ,am0⟩ b hb:)
def Te:=λb hb=>(xB b hb).1
def Tf:=λb hb=>(xB b hb).2
noncomputable def adA:=mk PY Tryz.func128 (hc SN (hc Kc (hc J8 (hc gH (hc SH hn)))))
def rZ:=λb p hb h1 h2=>adA.cs (alD (λpc l h _=>adk pc l h) (λpc l h _=>agP (adl pc l h)) ⟨Te,Tf⟩ ⟨SQ,SX⟩ ⟨iq,iy⟩ ⟨ac7,ac8⟩ b p hb h1 h2:)
def am7:=λb p hb h1 h2=>(rZ b p hb h1 h2).1
def am8:=λb p hb h1 h2=>(rZ b p hb h1 h2).2
noncomputable def Tg:=mk PZ Tryz.func50 (hc Ce (hc gH (hc Sz (hc adA hn))))
def om:=λn b p hb h1 h2=>Tg.cs (alG ⟨F5,F6⟩ ⟨iq,iy⟩ ⟨ac1,ac2⟩ ⟨am7,am8⟩ n b p hb h1 h2:)
def adB:=λn b p hb h1 h2=>(om n b p hb h1 h2).1
def adC:=λn b p hb h1 h2=>(om n b p hb h1 h2).2
noncomputable def adD:=mk P8 Tryz.func115 (hc gH (hc Cg hn))
def ql:=λc b p ok hc hb h1 h2=>adD.cs (alE ⟨iq,iy⟩ ⟨JV,JW⟩ c b p ok hc hb h1 h2:)
def am9:=λc b p ok hc hb h1 h2=>(ql c b p ok hc hb h1 h2).1
def ana:=λc b p ok hc hb h1 h2=>(ql c b p ok hc hb h1 h2).2
noncomputable def adE:=mk P9 Tryz.func39 (hc rC (hc Kc (hc J8 (hc gH (hc Sz (hc Tg (hc adD hn)))))))
def vg:=λn b p hb h1 h2=>adE.cs (alH ⟨uM,uN⟩ ⟨Te,Tf⟩ ⟨SQ,SX⟩ ⟨iq,iy⟩ ⟨ac1,ac2⟩ ⟨adB,adC⟩ am9 ana n b p hb h1 h2:)
def anb:=λn b p hb h1 h2=>(vg n b p hb h1 h2).1
def ane:=λn b p hb h1 h2=>(vg n b p hb h1 h2).2
set_option maxRecDepth 100000
set_option maxHeartbeats 4000000
noncomputable def Ke:=mk Qa Tryz.func40 hn
def adF:=λb hb hl=>(Ke.cs (abS b hb hl:)).1
def adG:=λb hb hl=>(Ke.cs (abS b hb hl:)).2
noncomputable def adH:=mk Qb Tryz.func9 (hc Ke (hc adE hn))
def nI:=λc hc hl=>adH.cs (alI ⟨adF,adG⟩ ⟨anb,ane⟩ c hc hl:)
def anf:=λc hc hl=>(nI c hc hl).1
def ang:=λc hc hl=>(nI c hc hl).2
noncomputable def kD:=mk Z8 Tryz.func60 hn
def lU:=λa b c=>(kD.cs (ahZ a b c:)).1
def lV:=λa b c=>(kD.cs (ahZ a b c:)).2
noncomputable def Aq:=mk Z9 Tryz.func47 (hc kD hn)
def Ar:=λa=>Aq.cs (aqe ⟨lU,lV⟩ a:)
def CY:=λa=>(Ar a).1
def CZ:=λa=>(Ar a).2
noncomputable def adI:=mk aac Tryz.func66 (hc kD hn)
def sj:=λo=>adI.cs (aq2 ⟨lU,lV⟩ o:)
def ain:=λo=>(sj o).1
def aio:=λo=>(sj o).2
noncomputable def adJ:=mk aad Tryz.func135 (hc kD hn)
def Au:=λa=>adJ.cs (aqg ⟨lU,lV⟩ a:)
def aip:=λa=>(Au a).1
def aiq:=λa=>(Au a).2
noncomputable def adK:=mk aae Tryz.func136 (hc kD hn)
def C8:=λa=>adK.cs (aqf ⟨lU,lV⟩ a:)
def air:=λa=>(C8 a).1
def ais:=λa=>(C8 a).2
noncomputable def ait:=mk aaf Tryz.func186 (hc kD hn)
def lC:=λo=>ait.cs (aq3 ⟨lU,lV⟩ o:)
def arV:=λo=>(lC o).1
def arW:=λo=>(lC o).2
noncomputable def adL:=mk aag Tryz.func137 (hc ait (hc kD hn))
def lD:=λb x n h0 h1 h2=>adL.cs (aq5 arV arW ⟨lU,lV⟩ b x n h0 h1 h2:)
def aiu:=λb x n h0 h1 h2=>(lD b x n h0 h1 h2).1
def aiv:=λb x n h0 h1 h2=>(lD b x n h0 h1 h2).2
noncomputable def aiw:=mk aah Tryz.func61 (hc adL (hc adI (hc Aq (hc kD (hc adK (hc adJ hn))))))
def lW:=λb i h0 h1 h2 h3=>aiw.cs (aq6 ⟨aiu,aiv⟩ ⟨ain,aio⟩ ⟨CY,CZ⟩ ⟨lU,lV⟩ ⟨air,ais⟩ ⟨aip,aiq⟩ b i h0 h1 h2 h3:)
def arX:=λb i h0 h1 h2 h3=>(lW b i h0 h1 h2 h3).1
def arY:=λb i h0 h1 h2 h3=>(lW b i h0 h1 h2 h3).2
noncomputable def agU:=mk akl Tryz.func72 hn
def arZ:=λb=>(agU.cs (aq7 b:)).1
def ar0:=λb=>(agU.cs (aq7 b:)).2
noncomputable def ar1:=mk akm Tryz.func62 (hc agU (hc adL (hc Aq (hc kD hn))))
def lF:=λb h2=>ar1.cs (auu ⟨arZ,ar0⟩ ⟨aiu,aiv⟩ ⟨CY,CZ⟩ ⟨lU,lV⟩ b h2:)
def au2:=λb h2=>(lF b h2).1
def au3:=λb h2=>(lF b h2).2
noncomputable def MG:=mk aai Tryz.func18 (hc ar1 (hc aiw (hc kD hn)))
def C9:=λb h2=>MG.cs (aq8 au2 au3 arX arY ⟨lU,lV⟩ b h2:)
def VT:=λb h2=>(C9 b h2).1
def VU:=λb h2=>(C9 b h2).2
noncomputable def adM:=mk aaj Tryz.func239 hn
def ar2:=λa n=>(adM.cs (ah0 a n:)).1
def ar3:=λa n=>(adM.cs (ah0 a n:)).2
noncomputable def aix:=mk aak Tryz.func264 (hc adM hn)
def iO:=λa n ha=>aix.cs (aqm ar2 ar3 a n ha:)
def ar4:=λa n ha=>(iO a n ha).1
def ar5:=λa n ha=>(iO a n ha).2
noncomputable def aiy:=mk aal Tryz.func238 (hc aix hn)
def gV:=λa n ha=>aiy.cs (aqn ar4 ar5 a n ha:)
def ar6:=λa n ha=>(gV a n ha).1
def ar7:=λa n ha=>(gV a n ha).2
noncomputable def adN:=mk aam Tryz.func190 (hc aiy hn)
def su:=λa n ha=>adN.cs (aqo ar6 ar7 a n ha:)
def aiz:=λa n ha=>(su a n ha).1
def aiA:=λa n ha=>(su a n ha).2
noncomputable def agV:=mk akn Tryz.func244 hn
def ar8:=λa=>(agV.cs (aqh a:)).1
def ar9:=λa=>(agV.cs (aqh a:)).2
noncomputable def agW:=mk ako Tryz.func197 (hc agV hn)
def oq:=λa b=>agW.cs (aus ⟨ar8,ar9⟩ a b:)
def anh:=λa b=>(oq a b).1
def ani:=λa b=>(oq a b).2
noncomputable def agX:=mk akp Tryz.func198 hn
def asa:=λa b=>(agX.cs (aqi a b:)).1
def asb:=λa b=>(agX.cs (aqi a b:)).2
noncomputable def aiB:=mk aan Tryz.func245 (hc agW hn)
def jm:=λa b ha=>aiB.cs (aqj ⟨anh,ani⟩ a b ha:)
def asc:=λa b ha=>(jm a b ha).1
def ase:=λa b ha=>(jm a b ha).2
noncomputable def MH:=mk aao Tryz.func199 (hc agX (hc agW (hc aiB hn)))
def ou:=λa b ha=>MH.cs (aqk ⟨anh,ani⟩ asc ase ⟨asa,asb⟩ a b ha:)
def VW:=λa b ha=>(ou a b ha).1
def VX:=λa b ha=>(ou a b ha).2
noncomputable def agY:=mk akq Tryz.func246 (hc agV hn)
def vk:=λa b=>agY.cs (aut ⟨ar8,ar9⟩ a b:)
def asf:=λa b=>(vk a b).1
def asg:=λa b=>(vk a b).2
noncomputable def aiC:=mk aap Tryz.func201 (hc agY hn)
def iY:=λa ha=>aiC.cs (aql ⟨asf,asg⟩ a ha:)
def ash:=λa ha=>(iY a ha).1
def asi:=λa ha=>(iY a ha).2
noncomputable def adO:=mk aaq Tryz.func203 hn
def asj:=λm=>(adO.cs (ah1 m:)).1
def asl:=λm=>(adO.cs (ah1 m:)).2
noncomputable def aiD:=mk aar Tryz.func247 (hc adO hn)
def dz:=λa ha=>aiD.cs (aqp (G:=(λm:aj=>0<m.atoms.length/\m.atoms.getD 0 default<0)) asj asl a ha:)
def asn:=λa ha=>(dz a ha).1
def aso:=λa ha=>(dz a ha).2
noncomputable def aiE:=mk aas Tryz.func202 (hc aiD hn)
def cu:=λa ha=>aiE.cs (aqr (G:=(λm:aj=>0<m.atoms.length/\m.atoms.getD 0 default<0)) asn aso a ha:)
def asq:=λa ha=>(cu a ha).1
def asr:=λa ha=>(cu a ha).2
noncomputable def Da:=mk aat Tryz.func146 (hc kD (hc adN (hc aiC (hc MH (hc aiE hn)))))
def Av:=λa ha=>Da.cs (aqs ⟨lU,lV⟩ ⟨aiz,aiA⟩ ash asi ⟨VW,VX⟩ asq asr a ha:)
def F8:=λa ha=>(Av a ha).1
def F9:=λa ha=>(Av a ha).2
noncomputable def adP:=mk aau Tryz.func139 (hc kD (hc adK (hc adN (hc Da (hc adJ hn)))))
def kg:=λa n ha=>adP.cs (aqH ⟨lU,lV⟩ ⟨air,ais⟩ ⟨aiz,aiA⟩ ⟨F8,F9⟩ ⟨aip,aiq⟩ a n ha:)
def aiF:=λa n ha=>(kg a n ha).1
def aiG:=λa n ha=>(kg a n ha).2
noncomputable def VY:=mk aav Tryz.func142 (hc agX (hc agW (hc MH hn)))
def sD:=λa b ha=>VY.cs (aqt ⟨asa,asb⟩ ⟨anh,ani⟩ ⟨VW,VX⟩ a b ha:)
def adQ:=λa b ha=>(sD a b ha).1
def adR:=λa b ha=>(sD a b ha).2
noncomputable def Ga:=mk aaw Tryz.func122 (hc VY hn)
def lY:=λa b ha=>Ga.cs (aqu ⟨adQ,adR⟩ a b ha:)
def Ij:=λa b ha=>(lY a b ha).1
def Ik:=λa b ha=>(lY a b ha).2
noncomputable def aiH:=mk aax Tryz.func193 (hc Ga hn)
def lZ:=λa b ha=>aiH.cs (aqD ⟨Ij,Ik⟩ a b ha:)
def asu:=λa b ha=>(lZ a b ha).1
def asv:=λa b ha=>(lZ a b ha).2
noncomputable def aiI:=mk aay Tryz.func192 (hc aiH hn)
def lG:=λa b hb=>aiI.cs (aqE ⟨asu,asv⟩ a b hb:)
def asw:=λa b hb=>(lG a b hb).1
def asx:=λa b hb=>(lG a b hb).2
noncomputable def aiJ:=mk aaz Tryz.func191 (hc aiI hn)
def dA:=λa b ha hb=>aiJ.cs (aqF asw asx a b ha hb:)
def asy:=λa b ha hb=>(dA a b ha hb).1
def asz:=λa b ha hb=>(dA a b ha hb).2
noncomputable def adS:=mk aaA Tryz.func140 (hc aiJ hn)
def nJ:=λa b ha hb=>adS.cs (aqG asy asz a b ha hb:)
def aiK:=λa b ha hb=>(nJ a b ha hb).1
def aiL:=λa b ha hb=>(nJ a b ha hb).2
noncomputable def aiM:=mk aaB Tryz.func64 (hc adP (hc adS hn))
def Aw:=λa ha=>aiM.cs (aqI ⟨aiF,aiG⟩ ⟨aiK,aiL⟩ a ha:)
def asA:=λa ha=>(Aw a ha).1
def asB:=λa ha=>(Aw a ha).2
noncomputable def aiN:=mk aaC Tryz.func200 hn
def eO:=λa=>aiN.cs (aqC a:)
def asC:=λa=>(eO a).1
def asD:=λa=>(eO a).2
noncomputable def adT:=mk aaD Tryz.func143 (hc adP (hc adS (hc aiN hn)))
def oC:=λt a ht ha=>adT.cs (aqJ ⟨aiF,aiG⟩ ⟨aiK,aiL⟩ asC asD t a ht ha:)
def aiO:=λt a ht ha=>(oC t a ht ha).1
def aiP:=λt a ht ha=>(oC t a ht ha).2
noncomputable def adU:=mk aaE Tryz.func144 (hc kD hn)
def vo:=λa=>adU.cs (aqx ⟨lU,lV⟩ a:)
def aiQ:=λa=>(vo a).1
def aiR:=λa=>(vo a).2
noncomputable def adV:=mk aaF Tryz.func71 (hc adU (hc adT hn))
def qm:=λkd k t fl ht=>adV.cs (ard ⟨aiQ,aiR⟩ aiO aiP kd k t fl ht:)
def aiS:=λkd k t fl ht=>(qm kd k t fl ht).1
def aiT:=λkd k t fl ht=>(qm kd k t fl ht).2
noncomputable def adW:=mk aaG Tryz.func65 (hc adV hn)
def oD:=λt fl ht hl=>adW.cs (arf ⟨aiS,aiT⟩ t fl ht hl:)
def aiU:=λt fl ht hl=>(oD t fl ht hl).1
def aiV:=λt fl ht hl=>(oD t fl ht hl).2
noncomputable def aiW:=mk aaH Tryz.func67 (hc kD hn)
def oF:=λo=>aiW.cs (aq4 ⟨lU,lV⟩ o:)
def asE:=λo=>(oF o).1
def asF:=λo=>(oF o).2
noncomputable def aiX:=mk aaI Tryz.func68 hn
def dU:=λa h0 h1=>aiX.cs (arh a h0 h1:)
def asG:=λa h0 h1=>(dU a h0 h1).1
def asH:=λa h0 h1=>(dU a h0 h1).2
set_option maxRecDepth 100000
set_option maxHeartbeats 4000000
noncomputable def VZ:=mk aaJ Tryz.func69 (hc kD hn)
def sF:=λa=>VZ.cs (aqw ⟨lU,lV⟩ a:)
def adX:=λa=>(sF a).1
def adY:=λa=>(sF a).2
noncomputable def MI:=mk aaK Tryz.func185 hn
def adZ:=λa=>(MI.cs (ah2 a:)).1
def ad1:=λa=>(MI.cs (ah2 a:)).2
noncomputable def ad2:=mk aaL Tryz.func132 (hc Aq (hc MI hn))
def Ay:=λop a b=>ad2.cs (aqv ⟨CY,CZ⟩ ⟨adZ,ad1⟩ op a b:)
def aiY:=λop a b=>(Ay op a b).1
def aiZ:=λop a b=>(Ay op a b).2
noncomputable def ad3:=mk aaM Tryz.func148 (hc Da hn)
def xC:=λa ha=>ad3.cs (aqy ⟨F8,F9⟩ a ha:)
def ai0:=λa ha=>(xC a ha).1
def ai1:=λa ha=>(xC a ha).2
noncomputable def MK:=mk aaN Tryz.func131 hn
def ad4:=λa ha=>(MK.cs (ah3 a ha:)).1
def ad5:=λa ha=>(MK.cs (ah3 a ha:)).2
noncomputable def Gb:=mk aaO Tryz.func266 (hc MH hn)
def Az:=λa b ha=>Gb.cs (aqB ⟨VW,VX⟩ a b ha:)
def ai2:=λa b ha=>(Az a b ha).1
def ai3:=λa b ha=>(Az a b ha).2
noncomputable def ad6:=mk Qc Tryz.func299 (hc Gb hn)
def dI:=λa b d hd h1 h2 h3=>ad6.cs (akE ⟨ai2,ai3⟩ a b d hd h1 h2 h3:)
def anj:=λa b d hd h1 h2 h3=>(dI a b d hd h1 h2 h3).1
def ank:=λa b d hd h1 h2 h3=>(dI a b d hd h1 h2 h3).2
noncomputable def Ti:=mk Qd Tryz.func310 hn
def anl:=λa b n d hl h1 h2 h3 h4=>(Ti.cs (abA a b n d hl h1 h2 h3 h4:)).1
def anm:=λa b n d hl h1 h2 h3 h4=>(Ti.cs (abA a b n d hl h1 h2 h3 h4:)).2
noncomputable def Ci:=mk Qe Tryz.func307 (hc Ti hn)
def fO:=λa m b d hl h1 h2 h3 h4=>Ci.cs (akD anl anm a m b d hl h1 h2 h3 h4:)
def ano:=λa m b d hl h1 h2 h3 h4=>(fO a m b d hl h1 h2 h3 h4).1
def anp:=λa m b d hl h1 h2 h3 h4=>(fO a m b d hl h1 h2 h3 h4).2
noncomputable def cK:Nat->Ct aF BG
 | 0=>never BG
 | k+1=>cn (Fu.F (Gb.c.pre,Gb.c.fn,Ci.c.pre,Ci.c.fn,(cK k).pre,(cK k).fn,()))
def kK:∀k:Nat,dH E 300 (dB (cK k))/\∀(a m b:Int) (d:List aj),BL a m b d->b-a<k->(cK k).pre (a,m,b,d,())=true/\Mrg d ((cK k).fn (a,m,b,d,())).1 a b
 | 0=>⟨jZ (enters_of Tryz.func300 (by kernel_rfl) rfl),λa m b d h1 h2=>(by have g1:=h1.h2;have g2:=h1.h3;omega)⟩
 | k+1=>by
  have ih:=kK k;have t:Fn E 300 (Fu.F (Gb.c.pre,Gb.c.fn,Ci.c.pre,Ci.c.fn,(cK k).pre,(cK k).fn,())) (cK (k+1)):=mkF Tryz.func300 Fu (hc Gb (hc Ci (hk ih.1 hn)));exact⟨t.ok,λa m b d h1 h2=>t.cs (akF ⟨ai2,ai3⟩ ano anp (k:Int) (λa m b d h1 h2=>(ih.2 a m b d h1 h2).1) (λa m b d h1 h2=>(ih.2 a m b d h1 h2).2) a m b d h1 ah)⟩
noncomputable def anq:Ct aF BG:=cK 1000000000
def anr:dH E 300 (dB anq):=(kK 1000000000).1
def ai4{a m b:Int}{d:List aj}(h:BL a m b d):b-a< ((1000000000:Nat):Int):=by have g0:=h.sh.1;have g1:=h.h1;have g2:=h.h4;omega
def ant:=λa m b d h=>((kK 1000000000).2 a m b d h (ai4 h)).1
def anu:=λa m b d h=>((kK 1000000000).2 a m b d h (ai4 h)).2
noncomputable def ad7:=mk Qf Tryz.func283 (hc ad6 (hk anr hn))
def fP:=λn d hd hn=>ad7.cs (akG anj ank ant anu n d hd hn:)
def anv:=λn d hd hn=>(fP n d hd hn).1
def anw:=λn d hd hn=>(fP n d hd hn).2
noncomputable def ad8:=mk Qg Tryz.func265 (hc ad7 hn)
def bY:=λd hd=>ad8.cs (akH anv anw d hd:)
def anx:=λd hd=>(bY d hd).1
def anz:=λd hd=>(bY d hd).2
noncomputable def ad9:=mk aaP Tryz.func240 (hc MH (hc Da (hc MI (hc MK (hc ad8 hn)))))
def Gc:=λl hl hc=>ad9.cs (aqL ⟨VW,VX⟩ ⟨F8,F9⟩ ⟨adZ,ad1⟩ ⟨ad4,ad5⟩ anx anz l hl hc:)
def ai5:=λl hl hc=>(Gc l hl hc).1
def ai6:=λl hl hc=>(Gc l hl hc).2
noncomputable def ai7:=mk aaQ Tryz.func267 hn
def eP:=λn h1 h2=>ai7.cs (aqM n h1 h2:)
def asI:=λn h1 h2=>(eP n h1 h2).1
def asJ:=λn h1 h2=>(eP n h1 h2).2
noncomputable def ai8:=mk aaR Tryz.func241 (hc ai7 hn)
def dM:=λa b ha hb=>ai8.cs (aqN asI asJ a b ha hb:)
def asK:=λa b ha hb=>(dM a b ha hb).1
def asL:=λa b ha hb=>(dM a b ha hb).2
noncomputable def ai9:=mk aaS Tryz.func194 (hc Da (hc ad9 (hc ai8 hn)))
def xD:=λa b ha hb=>ai9.cs (aqP ⟨F8,F9⟩ ⟨ai5,ai6⟩ asK asL a b ha hb:)
def asM:=λa b ha hb=>(xD a b ha hb).1
def asN:=λa b ha hb=>(xD a b ha hb).2
noncomputable def aea:=mk aaT Tryz.func268 hn
def asO:=λn h1 h2=>(aea.cs (ah4 n h1 h2:)).1
def asP:=λn h1 h2=>(aea.cs (ah4 n h1 h2:)).2
noncomputable def aja:=mk aaU Tryz.func242 (hc aea hn)
def jL:=λa b ha hb=>aja.cs (aqO asO asP a b ha hb:)
def asQ:=λa b ha hb=>(jL a b ha hb).1
def asR:=λa b ha hb=>(jL a b ha hb).2
noncomputable def aeb:=mk Qh Tryz.func284 (hc agY hn)
def gy:=λa b d hd h1 h2=>aeb.cs (ak8 ⟨asf,asg⟩ a b d hd h1 h2:)
def anA:=λa b d hd h1 h2=>(gy a b d hd h1 h2).1
def anB:=λa b d hd h1 h2=>(gy a b d hd h1 h2).2
noncomputable def anC:Ct aF Og:=never Og
def anD:dH E 285 (dB anC):=jZ (enters_of Tryz.func285 (by kernel_rfl) rfl)
noncomputable def anE:Ct aF Oh:=never Oh
def anF:dH E 286 (dB anE):=jZ (enters_of Tryz.func286 (by kernel_rfl) rfl)
noncomputable def anG:Ct aF Oi:=never Oi
def anH:dH E 287 (dB anG):=jZ (enters_of Tryz.func287 (by kernel_rfl) rfl)
noncomputable def anI:Ct aF Oj:=never Oj
def anJ:dH E 288 (dB anI):=jZ (enters_of Tryz.func288 (by kernel_rfl) rfl)
noncomputable def anK:Ct aF Ol:=never Ol
def anL:dH E 289 (dB anK):=jZ (enters_of Tryz.func289 (by kernel_rfl) rfl)
noncomputable def anM:Ct aF Om:=never Om
def anN:dH E 290 (dB anM):=jZ (enters_of Tryz.func290 (by kernel_rfl) rfl)
noncomputable def anO:Ct aF Oo:=never Oo
def anP:dH E 291 (dB anO):=jZ (enters_of Tryz.func291 (by kernel_rfl) rfl)
noncomputable def lN:Ct aF Fp:=never Fp
def lQ:dH E 269 (dB lN):=jZ (enters_of Tryz.func269 (by kernel_rfl) rfl)
noncomputable def aec:=mk Qi Tryz.func269 (hc agY (hc aeb (hk anD (hk anF (hk anH (hk anJ (hk anL (hk anN (hk anP (hk lQ hn))))))))))
def iH:=λa b k d hd h1 h2=>aec.cs (ak9 anA anB _ _ _ _ _ _ _ _ _ _ _ _ _ _ _ _ a b k d hd h1 h2:)
def anQ:=λa b k d hd h1 h2=>(iH a b k d hd h1 h2).1
def anR:=λa b k d hd h1 h2=>(iH a b k d hd h1 h2).2
noncomputable def ajb:Ct aF ahA:={pre:=λx=>decide ((0:Int)<=x.1)&&decide ((x.1:Int)<=18446744073709551615),fn:=λx=>((Lib.bitLen (x.1:Int).toNat:Int),())}
def asS(n:Int)(h1:0<=n)(h2:n<=18446744073709551615):ajb.pre (n,())=true:=by
 show(decide _&&decide _)=true;simp only [Bool.and_eq_true,decide_eq_true_eq];exact⟨h1,h2⟩
def asT:dH E 270 (dB ajb):=
 acV (enters_of Tryz.func270 (by kernel_rfl) rfl) rfl λx w h=>by
  have h':(decide ((0:Int)<=x)&&decide (x<=18446744073709551615))=true:=h;simp only [Bool.and_eq_true,decide_eq_true_eq]at h';exact bits_Len x w h'.1 h'.2
noncomputable def aed:=mk Qj Tryz.func243 (hc aec (hk asT hn))
def kE:=λa ha=>aed.cs (ala anQ anR asS a ha:)
def anS:=λa ha=>(kE a ha).1
def anT:=λa ha=>(kE a ha).2
noncomputable def aee:=mk aaV Tryz.func196 (hc Da (hc MI (hc ad9 (hc aja (hc aed hn)))))
def xE:=λa b ha hb=>aee.cs (aqQ ⟨F8,F9⟩ ⟨adZ,ad1⟩ ⟨ai5,ai6⟩ asQ asR anS anT a b ha hb:)
def ajc:=λa b ha hb=>(xE a b ha hb).1
def ajd:=λa b ha hb=>(xE a b ha hb).2
noncomputable def aje:=mk aaW Tryz.func195 (hc Da (hc VZ (hc Aq (hc aee hn))))
def sG:=λa n ha=>aje.cs (aqR ⟨F8,F9⟩ ⟨adX,adY⟩ ⟨CY,CZ⟩ ⟨ajc,ajd⟩ a n ha:)
def asU:=λa n ha=>(sG a n ha).1
def asV:=λa n ha=>(sG a n ha).2
noncomputable def ajf:=mk aaX Tryz.func141 (hc Ga (hc VZ (hc ad2 (hc ai9 (hc aee (hc aje (hc ad3 hn)))))))
def xG:=λop x y hx hy=>ajf.cs (aqS ⟨Ij,Ik⟩ ⟨adX,adY⟩ ⟨aiY,aiZ⟩ ⟨asM,asN⟩ ⟨ajc,ajd⟩ ⟨asU,asV⟩ ⟨ai0,ai1⟩ op x y hx hy:)
def asW:=λop x y hx hy=>(xG op x y hx hy).1
def asX:=λop x y hx hy=>(xG op x y hx hy).2
noncomputable def ajg:=mk aaY Tryz.func70 (hc VY (hc ajf (hc adT (hc adU hn))))
def qo:=λt op x y ht hx hy=>ajg.cs (aqT ⟨adQ,adR⟩ asW asX aiO aiP ⟨aiQ,aiR⟩ t op x y ht hx hy:)
def asY:=λt op x y ht hx hy=>(qo t op x y ht hx hy).1
def asZ:=λt op x y ht hx hy=>(qo t op x y ht hx hy).2
set_option maxRecDepth 100000
set_option maxHeartbeats 4000000
noncomputable def V3:=mk aaZ Tryz.func145 (hc MK hn)
def lH:=λa ha=>V3.cs (aqz ⟨ad4,ad5⟩ a ha:)
def aef:=λa ha=>(lH a ha).1
def aeg:=λa ha=>(lH a ha).2
noncomputable def aeh:=mk aa0 Tryz.func73 (hc V3 hn)
def l5:=λa ha=>aeh.cs (aqA ⟨aef,aeg⟩ a ha:)
def ajh:=λa ha=>(l5 a ha).1
def aji:=λa ha=>(l5 a ha).2
noncomputable def aei:=mk aa1 Tryz.func134 (hc Aq hn)
def xH:=λr a b=>aei.cs (aq9 ⟨CY,CZ⟩ r a b:)
def ajj:=λr a b=>(xH r a b).1
def ajk:=λr a b=>(xH r a b).2
noncomputable def ajl:=mk aa2 Tryz.func204 (hc V3 hn)
def oG:=λa ha=>ajl.cs (ara ⟨aef,aeg⟩ a ha:)
def as0:=λa ha=>(oG a ha).1
def as1:=λa ha=>(oG a ha).2
noncomputable def ajm:=mk aa3 Tryz.func147 (hc V3 (hc ajl hn))
def l6:=λs hs=>ajm.cs (arb ⟨aef,aeg⟩ ⟨as0,as1⟩ s hs:)
def as2:=λs hs=>(l6 s hs).1
def as3:=λs hs=>(l6 s hs).2
noncomputable def ajn:=mk aa4 Tryz.func74 (hc ad3 (hc Da (hc VY (hc ajm (hc Ga (hc aei hn))))))
def xI:=λs n hs h0 h1=>ajn.cs (arj ⟨ai0,ai1⟩ ⟨F8,F9⟩ ⟨adQ,adR⟩ as2 as3 ⟨Ij,Ik⟩ ⟨ajj,ajk⟩ s n hs h0 h1:)
def as4:=λs n hs h0 h1=>(xI s n hs h0 h1).1
def as5:=λs n hs h0 h1=>(xI s n hs h0 h1).2
noncomputable def ajo:=mk aa5 Tryz.func20 (hc agU (hc MG (hc aiW (hc adI (hc VZ (hc ajn (hc aiM (hc aeh (hc ajg (hc adV (hc adW (hc aiX hn))))))))))))
def xJ:=λt b ht hb=>ajo.cs (ark ⟨arZ,ar0⟩ ⟨VT,VU⟩ ⟨asE,asF⟩ ⟨ain,aio⟩ ⟨adX,adY⟩ ⟨as4,as5⟩ ⟨asA,asB⟩ ⟨ajh,aji⟩ ⟨asY,asZ⟩ ⟨aiS,aiT⟩ ⟨aiU,aiV⟩ asG asH t b ht hb:)
def as6:=λt b ht hb=>(xJ t b ht hb).1
def as7:=λt b ht hb=>(xJ t b ht hb).2
noncomputable def aej:=mk aa6 Tryz.func119 hn
def as8:=λa b ha=>(aej.cs (aic a b ha:)).1
def as9:=λa b ha=>(aej.cs (aic a b ha:)).2
noncomputable def ajp:=mk aa7 Tryz.func41 (hc aej hn)
def xK:=λa b ha=>ajp.cs (arn ⟨as8,as9⟩ a b ha:)
def ata:=λa b ha=>(xK a b ha).1
def atb:=λa b ha=>(xK a b ha).2
noncomputable def ajq:=mk aa8 Tryz.func42 (hc aeh (hc adW hn))
def xL:=ajq.cs (ari ⟨ajh,aji⟩ ⟨aiU,aiV⟩:)
def atc:=(xL).1
def atd:=(xL).2
noncomputable def ajr:=mk aa9 Tryz.func176 (hc Ga hn)
def nK:=λa b ha=>ajr.cs (aro ⟨Ij,Ik⟩ a b ha:)
def ate:=λa b ha=>(nK a b ha).1
def atf:=λa b ha=>(nK a b ha).2
noncomputable def ajs:=mk abb Tryz.func175 (hc ajr hn)
def bq:=λa b ha=>ajs.cs (arp ⟨ate,atf⟩ a b ha:)
def atg:=λa b ha=>(bq a b ha).1
def ath:=λa b ha=>(bq a b ha).2
noncomputable def aek:=mk abd Tryz.func123 (hc ajs hn)
def qp:=λa b ha=>aek.cs (arq ⟨atg,ath⟩ a b ha:)
def ajt:=λa b ha=>(qp a b ha).1
def aju:=λa b ha=>(qp a b ha).2
noncomputable def ajv:=mk abe Tryz.func121 (hc Ga (hc aek hn))
def qw:=λa b ha=>ajv.cs (ars ⟨Ij,Ik⟩ ⟨ajt,aju⟩ a b ha:)
def ati:=λa b ha=>(qw a b ha).1
def atj:=λa b ha=>(qw a b ha).2
noncomputable def ajw:=mk abf Tryz.func120 (hc ajv hn)
def aY:=λa b ha=>ajw.cs (aru ⟨ati,atj⟩ a b ha:)
def atl:=λa b ha=>(aY a b ha).1
def atm:=λa b ha=>(aY a b ha).2
noncomputable def ajx:=mk abg Tryz.func43 (hc Ga (hc aek (hc ajw hn)))
def vB:=λa b ha=>ajx.cs (arv ⟨Ij,Ik⟩ ⟨ajt,aju⟩ atl atm a b ha:)
def atn:=λa b ha=>(vB a b ha).1
def ato:=λa b ha=>(vB a b ha).2
noncomputable def atp:=mk akr Tryz.func10 (hc MG (hc ajp (hc ajq (hc ajo (hc ajx hn)))))
def vC:=λb c hb hc=>atp.cs (auw ⟨VT,VU⟩ ⟨ata,atb⟩ atc atd ⟨as6,as7⟩ ⟨atn,ato⟩ b c hb hc:)
def au4:=λb c hb hc=>(vC b c hb hc).1
def au5:=λb c hb hc=>(vC b c hb hc).2
noncomputable def Gd:=mk Qk Tryz.func78 (hc j6 hn)
def vD:=λa=>Gd.cs (akJ ⟨kQ,kR⟩ a:)
def Kg:=λa=>(vD a).1
def Kh:=λa=>(vD a).2
noncomputable def Tj:=mk Ql Tryz.func45 (hc Gd hn)
def xM:=Tj.cs (ak7 ⟨Kg,Kh⟩:)
def ael:=(xM).1
def aem:=(xM).2
noncomputable def Gf:=mk Qm Tryz.func177 hn
def Tk:=λa b ha=>(Gf.cs (abH a b ha:)).1
def Tm:=λa b ha=>(Gf.cs (abH a b ha:)).2
noncomputable def aen:=mk Qn Tryz.func211 (hc j6 hn)
def xO:=λm hm=>aen.cs (akK ⟨kQ,kR⟩ m hm:)
def anU:=λm hm=>(xO m hm).1
def anV:=λm hm=>(xO m hm).2
noncomputable def zk:=mk Qo Tryz.func155 (hc aen (hc Gf hn))
def AA:=λa ha=>zk.cs (akL anU anV ⟨Tk,Tm⟩ a ha:)
def Cj:=λa ha=>(AA a ha).1
def Ck:=λa ha=>(AA a ha).2
noncomputable def Tn:=mk Qp Tryz.func205 hn
def anW:=λa=>(Tn.cs (abJ a:)).1
def anX:=λa=>(Tn.cs (abJ a:)).2
noncomputable def Tp:=mk Qq Tryz.func206 hn
def anY:=λa n ha=>(Tp.cs (abI a n ha:)).1
def anZ:=λa n ha=>(Tp.cs (abI a n ha:)).2
noncomputable def Tq:=mk Qr Tryz.func149 (hc j6 (hc zk (hc Tp (hc Tn hn))))
def xP:=λa n ha=>Tq.cs (akN ⟨kQ,kR⟩ ⟨Cj,Ck⟩ ⟨anY,anZ⟩ anW anX a n ha:)
def aeo:=λa n ha=>(xP a n ha).1
def aep:=λa n ha=>(xP a n ha).2
noncomputable def vE:=mk Qs Tryz.func125 (hc Gf hn)
def sH:=λa b ha=>vE.cs (akM ⟨Tk,Tm⟩ a b ha:)
def zl:=λa b ha=>(sH a b ha).1
def zm:=λa b ha=>(sH a b ha).2
noncomputable def Tt:=mk Qt Tryz.func150 (hc vE hn)
def xQ:=λa b ha=>Tt.cs (akO ⟨zl,zm⟩ a b ha:)
def aer:=λa b ha=>(xQ a b ha).1
def aes:=λa b ha=>(xQ a b ha).2
noncomputable def aeu:=mk Qu Tryz.func75 (hc Tq (hc Tt hn))
def AB:=λa ha=>aeu.cs (akP ⟨aeo,aep⟩ ⟨aer,aes⟩ a ha:)
def an0:=λa ha=>(AB a ha).1
def an1:=λa ha=>(AB a ha).2
noncomputable def nL:=mk Qv Tryz.func85 hn
def rD:=λa ha=>(nL.cs (abL a ha:)).1
def rE:=λa ha=>(nL.cs (abL a ha:)).2
noncomputable def Tv:=mk Qw Tryz.func151 (hc nL hn)
def xR:=λa ha=>Tv.cs (akT ⟨rD,rE⟩ a ha:)
def aev:=λa ha=>(xR a ha).1
def aew:=λa ha=>(xR a ha).2
noncomputable def aex:=mk Qx Tryz.func76 (hc Tv hn)
def xS:=λa ha=>aex.cs (akU ⟨aev,aew⟩ a ha:)
def an2:=λa ha=>(xS a ha).1
def an3:=λa ha=>(xS a ha).2
noncomputable def Ki:=mk Qy Tryz.func77 (hc Tq (hc Tt (hc Tv hn)))
def AJ:=λa t ha ht hok=>Ki.cs (akV ⟨aeo,aep⟩ ⟨aer,aes⟩ ⟨aev,aew⟩ a t ha ht hok:)
def Tw:=λa t ha ht hok=>(AJ a t ha ht hok).1
def Tx:=λa t ha ht hok=>(AJ a t ha ht hok).2
noncomputable def Tz:=mk Qz Tryz.func79 hn
def an4:=λk l=>(Tz.cs (acy k l:)).1
def an5:=λk l=>(Tz.cs (acy k l:)).2
noncomputable def TA:=mk QA Tryz.func80 (hc j6 hn)
def sI:=λa=>TA.cs (akI ⟨kQ,kR⟩ a:)
def aey:=λa=>(sI a).1
def aez:=λa=>(sI a).2
noncomputable def TB:=mk QB Tryz.func248 (hc Gf (hc oV hn))
def xU:=λl m hl hn hm hma=>TB.cs (ak0 ⟨Tk,Tm⟩ ⟨uY,uZ⟩ l m hl hn hm hma:)
def aeA:=λl m hl hn hm hma=>(xU l m hl hn hm hma).1
def aeB:=λl m hl hn hm hma=>(xU l m hl hn hm hma).2
noncomputable def TD:=mk QC Tryz.func249 (hc nL hn)
def AL:=λa ha=>TD.cs (akS ⟨rD,rE⟩ a ha:)
def aeC:=λa ha=>(AL a ha).1
def aeD:=λa ha=>(AL a ha).2
noncomputable def aeE:=mk QD Tryz.func207 (hc zk (hc TB (hc TD hn)))
def xV:=λa b ha hb=>aeE.cs (ak1 ⟨Cj,Ck⟩ ⟨aeA,aeB⟩ ⟨aeC,aeD⟩ a b ha hb:)
def an6:=λa b ha hb=>(xV a b ha hb).1
def an7:=λa b ha hb=>(xV a b ha hb).2
noncomputable def aeF:=mk QE Tryz.func208 (hc zk (hc oV (hc nL (hc rA hn))))
def sJ:=λa n ha=>aeF.cs (ak3 ⟨Cj,Ck⟩ ⟨uY,uZ⟩ ⟨rD,rE⟩ ⟨za,ze⟩ a n ha:)
def an8:=λa n ha=>(sJ a n ha).1
def an9:=λa n ha=>(sJ a n ha).2
noncomputable def TF:=mk QF Tryz.func250 hn
def aoa:=λa b ha hb sa sb=>(TF.cs (abO a b ha hb sa sb:)).1
def aob:=λa b ha hb sa sb=>(TF.cs (abO a b ha hb sa sb:)).2
noncomputable def aeG:=mk QG Tryz.func209 (hc zk (hc oV (hc TB (hc TF (hc TD hn)))))
def xW:=λa b ha hb=>aeG.cs (ak2 ⟨Cj,Ck⟩ ⟨uY,uZ⟩ ⟨aeA,aeB⟩ aoa aob ⟨aeC,aeD⟩ a b ha hb:)
def aoc:=λa b ha hb=>(xW a b ha hb).1
def aod:=λa b ha hb=>(xW a b ha hb).2
noncomputable def aeH:=mk QH Tryz.func152 (hc aeG (hc aeE (hc aeF hn)))
def xX:=λop x y hx hy=>aeH.cs (akY ⟨aoc,aod⟩ ⟨an6,an7⟩ ⟨an8,an9⟩ op x y hx hy:)
def aoe:=λop x y hx hy=>(xX op x y hx hy).1
def aof:=λop x y hx hy=>(xX op x y hx hy).2
noncomputable def Kj:=mk QI Tryz.func156 (hc zk hn)
def xY:=λa ha=>Kj.cs (akR ⟨Cj,Ck⟩ a ha:)
def TG:=λa ha=>(xY a ha).1
def TH:=λa ha=>(xY a ha).2
noncomputable def aeI:=mk QJ Tryz.func210 (hc nL hn)
def xZ:=λop n y hy=>aeI.cs (akW ⟨rD,rE⟩ op n y hy:)
def aog:=λop n y hy=>(xZ op n y hy).1
def aoh:=λop n y hy=>(xZ op n y hy).2
set_option maxRecDepth 100000
set_option maxHeartbeats 4000000
noncomputable def aeJ:=mk QK Tryz.func153 (hc vE (hc nL (hc J9 (hc TA (hc Kj (hc aeI hn))))))
def x9:=λop x y hx hy=>aeJ.cs (akX ⟨zl,zm⟩ ⟨rD,rE⟩ ⟨Ta,Tc⟩ ⟨aey,aez⟩ ⟨TG,TH⟩ aog aoh op x y hx hy:)
def aoi:=λop x y hx hy=>(x9 op x y hx hy).1
def aoj:=λop x y hx hy=>(x9 op x y hx hy).2
noncomputable def aeK:=mk QL Tryz.func81 (hc Gd (hc vE (hc aeH (hc aeJ (hc Ki hn)))))
def Db:=λop x y t hop hx hy ht hok=>aeK.cs (akZ ⟨Kg,Kh⟩ ⟨zl,zm⟩ aoe aof aoi aoj ⟨Tw,Tx⟩ op x y t hop hx hy ht hok:)
def aol:=λop x y t hop hx hy ht hok=>(Db op x y t hop hx hy ht hok).1
def aom:=λop x y t hop hx hy ht hok=>(Db op x y t hop hx hy ht hok).2
noncomputable def TI:=mk QM Tryz.func154 hn
def aon:=λl k hl=>(TI.cs (acz l k hl:)).1
def aoo:=λl k hl=>(TI.cs (acz l k hl:)).2
noncomputable def aeL:=mk QN Tryz.func82 (hc Gd (hc Ki (hc TI hn)))
def vF:=λl k t hl ht hk=>aeL.cs (alM ⟨Kg,Kh⟩ ⟨Tw,Tx⟩ aon aoo l k t hl ht hk:)
def aop:=λl k t hl ht hk=>(vF l k t hl ht hk).1
def aoq:=λl k t hl ht hk=>(vF l k t hl ht hk).2
noncomputable def Kk:=mk QO Tryz.func84 (hc nL hn)
def vG:=λa ha=>Kk.cs (alL ⟨rD,rE⟩ a ha:)
def TJ:=λa ha=>(vG a ha).1
def TK:=λa ha=>(vG a ha).2
noncomputable def aeM:=mk QS Tryz.func83 (hc nL (hc Kk hn))
def vH:=λo x y r hx hy hr=>aeM.cs (alN ⟨rD,rE⟩ ⟨TJ,TK⟩ o x y r hx hy hr:)
def aor:=λo x y r hx hy hr=>(vH o x y r hx hy hr).1
def aos:=λo x y r hx hy hr=>(vH o x y r hx hy hr).2
noncomputable def TL:=mk QT Tryz.func86 hn
def aot:=λb=>(TL.cs (acB b:)).1
def aou:=λb=>(TL.cs (acB b:)).2
noncomputable def TM:=mk QU Tryz.func87 hn
def aov:=λb=>(TM.cs (acC b:)).1
def aow:=λb=>(TM.cs (acC b:)).2
noncomputable def Kl:=mk QV Tryz.func157 hn
def aeN:=λs k=>(Kl.cs (acA s k:)).1
def aeO:=λs k=>(Kl.cs (acA s k:)).2
noncomputable def aeP:=mk QW Tryz.func158 (hc Kj (hc vE (hc Kl hn)))
def Dc:=λs n hs hx hy hf=>aeP.cs (alO ⟨TG,TH⟩ ⟨zl,zm⟩ ⟨aeN,aeO⟩ s n hs hx hy hf:)
def aox:=λs n hs hx hy hf=>(Dc s n hs hx hy hf).1
def aoy:=λs n hs hx hy hf=>(Dc s n hs hx hy hf).2
noncomputable def aeQ:=mk QX Tryz.func88 (hc Kj (hc zk (hc nL (hc Kl (hc aeP (hc Kk hn))))))
def yc:=λs n hs=>aeQ.cs (alP ⟨TG,TH⟩ ⟨Cj,Ck⟩ ⟨rD,rE⟩ ⟨aeN,aeO⟩ aox aoy ⟨TJ,TK⟩ s n hs:)
def aoz:=λs n hs=>(yc s n hs).1
def aoA:=λs n hs=>(yc s n hs).2
noncomputable def aeR:=mk QY Tryz.func21 (hc rC (hc Gd (hc TA (hc aeQ (hc Tj (hc aeu (hc nL (hc aex (hc aeK (hc Ki (hc aeL (hc aeM (hc Tz (hc Kk (hc TL (hc TM hn))))))))))))))))
def yg:=λt b ht hb=>aeR.cs (alQ ⟨uM,uN⟩ ⟨Kg,Kh⟩ ⟨aey,aez⟩ ⟨aoz,aoA⟩ ⟨ael,aem⟩ ⟨an0,an1⟩ ⟨rD,rE⟩ ⟨an2,an3⟩ aol aom ⟨Tw,Tx⟩ aop aoq aor aos an4 an5 ⟨TJ,TK⟩ aot aou aov aow t b ht hb:)
def aoB:=λt b ht hb=>(yg t b ht hb).1
def aoC:=λt b ht hb=>(yg t b ht hb).2
noncomputable def TN:=mk QZ Tryz.func44 hn
def aoD:=λa b ha=>(TN.cs (acj a b ha:)).1
def aoE:=λa b ha=>(TN.cs (acj a b ha:)).2
noncomputable def TP:=mk Q0 Tryz.func124 (hc vE hn)
def vI:=λa b ha=>TP.cs (alS ⟨zl,zm⟩ a b ha:)
def aeS:=λa b ha=>(vI a b ha).1
def aeT:=λa b ha=>(vI a b ha).2
noncomputable def aeU:=mk Q5 Tryz.func126 (hc vE (hc TP hn))
def vJ:=λa b ha=>aeU.cs (alT ⟨zl,zm⟩ ⟨aeS,aeT⟩ a b ha:)
def aoF:=λa b ha=>(vJ a b ha).1
def aoG:=λa b ha=>(vJ a b ha).2
noncomputable def aeV:=mk Q6 Tryz.func46 (hc vE (hc aeU (hc TP hn)))
def vK:=λa b ha=>aeV.cs (alU ⟨zl,zm⟩ ⟨aoF,aoG⟩ ⟨aeS,aeT⟩ a b ha:)
def aoH:=λa b ha=>(vK a b ha).1
def aoI:=λa b ha=>(vK a b ha).2
noncomputable def aeW:=mk Q7 Tryz.func11 (hc rC (hc TN (hc Tj (hc aeR (hc aeV hn)))))
def vL:=λb c hb hc=>aeW.cs (alV ⟨uM,uN⟩ ⟨aoD,aoE⟩ ⟨ael,aem⟩ ⟨aoB,aoC⟩ ⟨aoH,aoI⟩ b c hb hc:)
def aoJ:=λb c hb hc=>(vL b c hb hc).1
def aoK:=λb c hb hc=>(vL b c hb hc).2
noncomputable def ajy:=mk abh Tryz.func12 (hc Aq hn)
def Df:=ajy.cs (aqU ⟨CY,CZ⟩:)
def atq:=(Df).1
def atr:=(Df).2
noncomputable def TQ:=mk Q8 Tryz.func54 (hc rA hn)
def vM:=λl h=>TQ.cs (al1 ⟨za,ze⟩ l h:)
def aeX:=λl h=>(vM l h).1
def aeY:=λl h=>(vM l h).2
noncomputable def aeZ:=mk Q9 Tryz.func180 (hc TQ hn)
def yh:=λw i hw hi=>aeZ.cs (amg ⟨aeX,aeY⟩ w i hw hi:)
def aoL:=λw i hw hi=>(yh w i hw hi).1
def aoM:=λw i hw hi=>(yh w i hw hi).2
noncomputable def TS:=mk Ra Tryz.func164 (hc F7 hn)
def yj:=λi=>TS.cs (amd ⟨JX,JY⟩ i:)
def ae0:=λi=>(yj i).1
def ae1:=λi=>(yj i).2
noncomputable def ae2:=mk Rb Tryz.func100 (hc TS hn)
def sK:=λl hl=>ae2.cs (ame ⟨ae0,ae1⟩ l hl:)
def aoN:=λl hl=>(sK l hl).1
def aoO:=λl hl=>(sK l hl).2
noncomputable def TT:=mk Rc Tryz.func108 (hc gH hn)
def vN:=λb p hb h1 h2=>TT.cs (ak6 ⟨iq,iy⟩ b p hb h1 h2:)
def ae3:=λb p hb h1 h2=>(vN b p hb h1 h2).1
def ae4:=λb p hb h1 h2=>(vN b p hb h1 h2).2
noncomputable def ae5:=mk Rf Tryz.func232 (hc J3 (hc gH hn))
def vO:=λt b p hb t0 h1 h2=>ae5.cs (amm ⟨SF,SG⟩ ⟨iq,iy⟩ t b p hb t0 h1 h2:)
def aoP:=λt b p hb t0 h1 h2=>(vO t b p hb t0 h1 h2).1
def aoQ:=λt b p hb t0 h1 h2=>(vO t b p hb t0 h1 h2).2
noncomputable def ae6:=mk Rh Tryz.func233 (hc gH hn)
def vP:=λt b p hb t0 h1 h2=>ae6.cs (aml ⟨iq,iy⟩ t b p hb t0 h1 h2:)
def aoR:=λt b p hb t0 h1 h2=>(vP t b p hb t0 h1 h2).1
def aoS:=λt b p hb t0 h1 h2=>(vP t b p hb t0 h1 h2).2
noncomputable def ae7:=mk Ri Tryz.func181 (hc ae2 (hc TS (hc ae5 (hc J3 (hc SE (hc ae6 (hc Ce (hc gH (hc TT hn)))))))))
def sM:=λb p hb h1 h2=>ae7.cs (amn ⟨aoN,aoO⟩ ⟨ae0,ae1⟩ aoP aoQ ⟨SF,SG⟩ ⟨ac5,ac6⟩ aoR aoS ⟨F5,F6⟩ ⟨iq,iy⟩ ⟨ae3,ae4⟩ b p hb h1 h2:)
def aoT:=λb p hb h1 h2=>(sM b p hb h1 h2).1
def aoU:=λb p hb h1 h2=>(sM b p hb h1 h2).2
noncomputable def ae8:=mk Rj Tryz.func182 (hc TT hn)
def sN:=λn b p hb hn h1 h2=>ae8.cs (alb ⟨ae3,ae4⟩ n b p hb hn h1 h2:)
def aoV:=λn b p hb hn h1 h2=>(sN n b p hb hn h1 h2).1
def aoW:=λn b p hb hn h1 h2=>(sN n b p hb hn h1 h2).2
noncomputable def Km:=mk Rk Tryz.func14 (hc rA (hc j6 (hc TQ hn)))
def AO:=λm h=>Km.cs (al2 ⟨za,ze⟩ ⟨kQ,kR⟩ ⟨aeX,aeY⟩ m h:)
def TU:=λm h=>(AO m h).1
def TW:=λm h=>(AO m h).2
noncomputable def Kn:=mk Rl Tryz.func234 hn
def ae9:=λm h=>(Kn.cs (acL m h:)).1
def afa:=λm h=>(Kn.cs (acL m h:)).2
noncomputable def afb:=mk Rm Tryz.func259 (hc F7 (hc rA hn))
def vQ:=λw=>afb.cs (amc ⟨JX,JY⟩ ⟨za,ze⟩ w:)
def aoX:=λw=>(vQ w).1
def aoY:=λw=>(vQ w).2
noncomputable def T9:=mk Rn Tryz.func261 hn
def aoZ:=λm b=>(T9.cs (acP m b:)).1
def ao0:=λm b=>(T9.cs (acP m b:)).2
noncomputable def Gg:=mk Ro Tryz.func262 hn
def Ua:=λm h=>(Gg.cs (acM m h:)).1
def Ub:=λm h=>(Gg.cs (acM m h:)).2
noncomputable def Cm:=mk Rp Tryz.func281 (hc oV hn)
def yu:=λm n h=>Cm.cs (al3 ⟨uY,uZ⟩ m n h:)
def Cq:=λm n h=>(yu m n h).1
def Cr:=λm n h=>(yu m n h).2
noncomputable def afc:=mk Rq Tryz.func277 (hc Gg (hc Cm hn))
def yw:=λm i h ho=>afc.cs (al9 ⟨Ua,Ub⟩ ⟨Cq,Cr⟩ m i h ho:)
def ao1:=λm i h ho=>(yw m i h ho).1
def ao2:=λm i h ho=>(yw m i h ho).2
noncomputable def Gh:=mk Rs Tryz.func278 (hc Cm hn)
def Uc:=λm d v h d0 d1=>(Gh.cs (acO ⟨Cq,Cr⟩ m d v h d0 d1:)).1
def Ud:=λm d v h d0 d1=>(Gh.cs (acO ⟨Cq,Cr⟩ m d v h d0 d1:)).2
noncomputable def afd:=mk Rt Tryz.func279 (hc oV hn)
def vR:=λv k h k0 k1=>afd.cs (al4 ⟨uY,uZ⟩ v k h k0 k1:)
def ao3:=λv k h k0 k1=>(vR v k h k0 k1).1
def ao4:=λv k h k0 k1=>(vR v k h k0 k1).2
noncomputable def afe:=mk Rv Tryz.func280 (hc oV (hc Gg (hc Cm (hc Gh hn))))
def vS:=λm i h hi ho=>afe.cs (al7 ⟨uY,uZ⟩ ⟨Ua,Ub⟩ ⟨Cq,Cr⟩ ⟨Uc,Ud⟩ m i h hi ho:)
def ao5:=λm i h hi ho=>(vS m i h hi ho).1
def ao6:=λm i h hi ho=>(vS m i h hi ho).2
noncomputable def aff:=mk Rw Tryz.func282 (hc Cm (hc Gh hn))
def yx:=λm i h hi hq hn ho=>aff.cs (al8 ⟨Cq,Cr⟩ ⟨Uc,Ud⟩ m i h hi hq hn ho:)
def ao7:=λm i h hi hq hn ho=>(yx m i h hi hq hn ho).1
def ao8:=λm i h hi hq hn ho=>(yx m i h hi hq hn ho).2
noncomputable def afg:=mk Rx Tryz.func263 (hc J9 (hc Cm (hc aff (hc afe (hc Gh (hc afd (hc afc hn)))))))
def Dh:=λm i h hi hn ho=>afg.cs (ama ⟨Ta,Tc⟩ ⟨Cq,Cr⟩ ao7 ao8 ao5 ao6 ⟨Uc,Ud⟩ ao3 ao4 ao1 ao2 m i h hi hn ho:)
def ao9:=λm i h hi hn ho=>(Dh m i h hi hn ho).1
def apa:=λm i h hi hn ho=>(Dh m i h hi hn ho).2
noncomputable def afh:=mk Ry Tryz.func235 (hc afb (hc Km (hc Kn (hc afg (hc Gg (hc T9 hn))))))
def vU:=λm b h ho=>afh.cs (ami ⟨aoX,aoY⟩ ⟨TU,TW⟩ ⟨ae9,afa⟩ ao9 apa ⟨Ua,Ub⟩ aoZ ao0 m b h ho:)
def apb:=λm b h ho=>(vU m b h ho).1
def apc:=λm b h ho=>(vU m b h ho).2
noncomputable def Ue:=mk Rz Tryz.func236 hn
def apd:=λl n h=>(Ue.cs (acQ l n h:)).1
def ape:=λl n h=>(Ue.cs (acQ l n h:)).2
noncomputable def afi:=mk RA Tryz.func183 (hc Km (hc afh (hc Kn (hc Ue hn))))
def yB:=λm q n h hq ho=>afi.cs (amj ⟨TU,TW⟩ apb apc ⟨ae9,afa⟩ ⟨apd,ape⟩ m q n h hq ho:)
def apf:=λm q n h hq ho=>(yB m q n h hq ho).1
def apg:=λm q n h hq ho=>(yB m q n h hq ho).2
noncomputable def afj:=mk RD Tryz.func184 (hc gH hn)
def vV:=λb p hb h1 h2=>afj.cs (amk ⟨iq,iy⟩ b p hb h1 h2:)
def aph:=λb p hb h1 h2=>(vV b p hb h1 h2).1
def apj:=λb p hb h1 h2=>(vV b p hb h1 h2).2
noncomputable def Uf:=mk RF Tryz.func129 (hc aeZ (hc afi (hc ae7 (hc afj (hc Ce (hc gH (hc ae8 hn)))))))
def vW:=λb p hb h1 h2=>Uf.cs (amo aoL aoM apf apg aoT aoU aph apj ⟨F5,F6⟩ ⟨iq,iy⟩ aoV aoW b p hb h1 h2:)
def afk:=λb p hb h1 h2=>(vW b p hb h1 h2).1
def afl:=λb p hb h1 h2=>(vW b p hb h1 h2).2
set_option maxRecDepth 100000
set_option maxHeartbeats 4000000
noncomputable def Ug:=mk RG Tryz.func51 (hc Uf (hc gH hn))
def AQ:=λc b p hb h1 h2=>Ug.cs (amr ⟨afk,afl⟩ ⟨iq,iy⟩ c b p hb h1 h2:)
def afm:=λc b p hb h1 h2=>(AQ c b p hb h1 h2).1
def afn:=λc b p hb h1 h2=>(AQ c b p hb h1 h2).2
noncomputable def afo:=mk RH Tryz.func49 (hc SN (hc Kc (hc gH (hc Ug (hc SH (hc J2 hn))))))
def yC:=λb p hb h1 h2=>afo.cs (ams ⟨adk,adl⟩ ⟨Te,Tf⟩ ⟨iq,iy⟩ ⟨afm,afn⟩ ⟨ac7,ac8⟩ ⟨SB⟩ b p hb h1 h2:)
def apk:=λb p hb h1 h2=>(yC b p hb h1 h2).1
def apl:=λb p hb h1 h2=>(yC b p hb h1 h2).2
noncomputable def afp:=mk RL Tryz.func53 (hc Uf (hc Ce (hc gH hn)))
def qx:=λn b p hb h1 h2=>afp.cs (amq ⟨afk,afl⟩ ⟨F5,F6⟩ ⟨iq,iy⟩ n b p hb h1 h2:)
def apm:=λn b p hb h1 h2=>(qx n b p hb h1 h2).1
def apn:=λn b p hb h1 h2=>(qx n b p hb h1 h2).2
noncomputable def afq:=mk RN Tryz.func13 (hc afp (hc Ke (hc Ce (hc gH (hc Ug (hc Tg (hc afo hn)))))))
def qy:=λc hc hl=>afq.cs (amt apm apn ⟨adF,adG⟩ ⟨F5,F6⟩ ⟨iq,iy⟩ ⟨afm,afn⟩ ⟨adB,adC⟩ apk apl c hc hl:)
def apo:=λc hc hl=>(qy c hc hl).1
def apq:=λc hc hl=>(qy c hc hl).2
noncomputable def ajz:=mk abj Tryz.func130 (hc Aq hn)
def vX:=λa ha=>ajz.cs (aqX ⟨CY,CZ⟩ a ha:)
def att:=λa ha=>(vX a ha).1
def atu:=λa ha=>(vX a ha).2
noncomputable def ajA:=mk abk Tryz.func57 (hc Aq (hc kD (hc ajz hn)))
def AU:=λm h=>ajA.cs (arB ⟨CY,CZ⟩ ⟨lU,lV⟩ ⟨att,atu⟩ m h:)
def atv:=λm h=>(AU m h).1
def atw:=λm h=>(AU m h).2
noncomputable def ajB:=mk abl Tryz.func58 (hc MK hn)
def lI:=λm h=>ajB.cs (arC ad4 ad5 m h:)
def atx:=λm h=>(lI m h).1
def aty:=λm h=>(lI m h).2
noncomputable def afr:=mk abm Tryz.func133 hn
def atz:=λpc sv lt wt ha ins ct regs mem outs h=>(afr.cs (aif pc sv lt wt ha ins ct regs mem outs h:)).1
def atA:=λpc sv lt wt ha ins ct regs mem outs h=>(afr.cs (aif pc sv lt wt ha ins ct regs mem outs h:)).2
noncomputable def ajC:=mk abn Tryz.func59 (hc afr (hc ad2 (hc aei (hc kD hn))))
def nM:=λb m hb hm hs ho=>ajC.cs (arG ⟨atz,atA⟩ ⟨aiY,aiZ⟩ ⟨ajj,ajk⟩ ⟨lU,lV⟩ b m hb hm hs ho:)
def atB:=λb m hb hm hs ho=>(nM b m hb hm hs ho).1
def atC:=λb m hb hm hs ho=>(nM b m hb hm hs ho).2
noncomputable def ajD:=mk abo Tryz.func15 (hc ajC (hc MG (hc ajB (hc ajA hn))))
def AV:=λb m hb hs ho=>ajD.cs (arH atB atC ⟨VT,VU⟩ ⟨atx,aty⟩ ⟨atv,atw⟩ b m hb hs ho:)
def atE:=λb m hb hs ho=>(AV b m hb hs ho).1
def atF:=λb m hb hs ho=>(AV b m hb hs ho).2
noncomputable def afs:=mk abp Tryz.func36 hn
def atG:=λa b ha=>(afs.cs (ah6 a b ha:)).1
def atH:=λa b ha=>(afs.cs (ah6 a b ha:)).2
noncomputable def ajE:=mk abq Tryz.func16 (hc afs hn)
def yD:=λa b h=>ajE.cs (arD ⟨atG,atH⟩ a b h:)
def atI:=λa b h=>(yD a b h).1
def atJ:=λa b h=>(yD a b h).2
noncomputable def ajF:=mk abr Tryz.func3 (hc atp (hc MG (hc ajD (hc ajE (hc ajy (hc aeW (hc adH (hc afq (hc Km (hc oV hn))))))))))
def qz:=λc d hc hd=>ajF.cs (arT ⟨au4,au5⟩ ⟨VT,VU⟩ ⟨atE,atF⟩ ⟨atI,atJ⟩ ⟨atq,atr⟩ ⟨aoJ,aoK⟩ ⟨anf,ang⟩ ⟨apo,apq⟩ ⟨TU,TW⟩ ⟨uY,uZ⟩ c d hc hd:)
def atK:=λc d hc hd=>(qz c d hc hd).1
def atL:=λc d hc hd=>(qz c d hc hd).2
end Go.TX.F
namespace Go.Proofs.YtaaefcglllhodaaGreat
open Go.ChangeShapes Go.WideShapes Go.ChangeAt Go.RowKit
def au6:ownKnob Tryz.prog.godebug=Option.none:=by kernel_rfl
def ajG:laidOutB Tryz.prog=true:=by kernel_rfl
def aft:Tryz.prog.cellsOf 5=1:=by kernel_rfl
set_option maxRecDepth 100000 in
def lifted(os:Os)(started:os.Started)(H:Type)(enc:TypeId×Value->H):
  ReturnsInHanded {} Tryz.checked os 3 .any (Rows.fnChkSameSpec.pre6 enc Tryz.prog Tryz.f3 Rows.fnChkSameRow.domain false) (Rows.fnChkSameSpec.post enc Tryz.prog Tryz.f3 false true false false):=by
 refine returnsInHanded_of_change (C:=Tryz.checked) au6 started (by kernel_rfl) Tryz.func3
  (ChangeSpec.witness6 (enc:=enc) (C:=Tryz.checked) false ⟨#[], #[.slice none 0 0,.slice none 0 0],[]⟩ 8 (by kernel_rfl) (by kernel_rfl) (by kernel_rfl) (by kernel_rfl)) ?_
 intro W base args ds gs before hval0 hW _ _;have hval:∀(j:Nat) t v,Tryz.f3.params[j]? =some t->args[j]? =some v->Value.okWide Tryz.prog W .any base t v:=hval0;have hW':=hW;obtain⟨p,q,hA0,hV,rfl,_,_⟩:=hW;have hA:DataW.TrodAll enc Tryz.prog W 0 (λ_=>true) true Tryz.f3.params.toList args.toList ds p:=hA0;rw [Tryz.params3]at hA hval;obtain⟨v0,v1,d0,d1,p0,p1,rfl,rfl,rfl,h0,h1⟩:=trodAll_two hA;obtain⟨rfl,rfl⟩:=trodVars_none hV
 clear hA0 hval0
 simp only [List.append_nil]at hW';have hlt:∀x∈p0++p1,x.block<W.heap.size:=λx hx=>by simpa using hW'.lt x (by simpa using hx)
 have hl0:∀x∈p0,x.block<W.heap.size:=λx hx=>hlt x (List.mem_append_left _ hx)
 have hl1:∀x∈p1,x.block<W.heap.size:=λx hx=>hlt x (List.mem_append_right _ hx)
 obtain⟨xs,hr,hb⟩:=Go.TX.MF Tryz.underlying22 Tryz.underlying5 aft (hval 0 22 v0 rfl rfl) h0 hl0;obtain⟨ys,hs,hc⟩:=Go.TX.MF Tryz.underlying22 Tryz.underlying5 aft (hval 1 22 v1 rfl rfl) h1 hl1;have hp:=Go.TX.F.atK xs ys hb hc;have hq:=Go.TX.F.atL xs ys hb hc;refine(Go.TX.auZ Go.TX.F.ajF.ok hr hs (λg d h=>by cases h) hp).mono λe W' ⟨he,hw⟩=> ?_
 have he:e= .returned (.bool true):=he.trans (congrArg (λz:Bool×Unit=>Ending.returned (.bool z.1)) hq);refine⟨_,he,[d0,d1],[],p0++p1,[],p0++p1,[],hW',trodAll_mk1 (shut_bool Tryz.underlying4 true),?_,rfl,hw.frame _,λh=>by cases h⟩;exact trodAll_mk2 (Below.trod ajG (by kernel_rfl) (of_decide_eq_true (by kernel_rfl)) h0 hw hl0) (Below.trod ajG (by kernel_rfl) (of_decide_eq_true (by kernel_rfl)) h1 hw hl1)
def y1:Tryz.pinned.checked.prog.funcNamed Rows.fnChkSameRow.func=some 3:=by kernel_rfl
def aS{a b:Bool}(h:a=true)(k:b=true):(a&&b)=true:=by rw [h,k];rfl
set_option maxHeartbeats 4000000 in
def y2:joinedFacts Tryz.pinned.checked.prog 3 Tryz.f3 Rows.fnChkSameSpec Rows.fnChkSameRow=true:=by
 unfold joinedFacts
 repeat' with_reducible apply aS
 all_goals (as_aux_lemma=>kernel_rfl)
def y3:Func.isWrapper Tryz.prog Tryz.f3 Rows.fnChkSameRow.wrapper Rows.fnChkSameRow.mainSum:=(by unfold Func.isWrapper;first | (rw [if_pos (by decide+kernel)];kernel_rfl) | (rw [if_neg (by decide+kernel)];exact⟨rfl,rfl⟩))
theorem x_holds:Rows.FnChkSameSaid:=
 OpenClaim.holds_of_wide 3 Tryz.f3 rfl rfl rfl rfl rfl rfl rfl ⟨rfl,rfl,rfl,rfl,rfl⟩ rfl rfl rfl rfl rfl y1 Tryz.func3 y2
  (of_decide_eq_true (by kernel_rfl)) y3
  (λos started H enc _=>lifted os started H enc)
end Go.Proofs.YtaaefcglllhodaaGreat
