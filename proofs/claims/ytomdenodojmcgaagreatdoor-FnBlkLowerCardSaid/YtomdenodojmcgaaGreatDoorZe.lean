/- For every input the law returns true, and the input reads as it did. No condition. -/
import Derived.Test.YtomdenodojmcgaaGreatDoorZd
import Derived.Lib.Bytes
import Derived.ChangeSlices
import Derived.ChangeSame
import Derived.JoinedOf
import Derived.JoinedAt
import Derived.Handed
import Derived.Below
import Derived.Carry
import Derived.OpenShut
import Derived.ChangeKeysEq
import Derived.Deep.Slices
import Derived.OpenVars
import Derived.LaidMore
import Derived.MakeChecks
import Derived.Test.YtomdenodojmcgaaGreatDoorRows
import Derived.Test.YtomdenodojmcgaaGreatDoorTie
import Derived.Test.YtomdenodojmcgaaGreatDoorCards
import Derived.SevenTiedAt
set_option linter.all false
set_option linter.unusedSectionVars false
set_option linter.unusedVariables false
set_option linter.unusedSimpArgs false
namespace Go.TX.F
open Go Go.AE Go.TX
noncomputable def Oe (s:Int->Int) (e:Ev):Ev:=⟨e.kind,e.at_,aX s e.x,aX s e.y,e.regs.map (aX s)⟩
def RPs (n:Int) (l:List (List aj)):Prop:=∀p∈l,RP n p
def RPE (n:Int) (l:List Ev):Prop:=∀e∈l,RP n e.x/\RP n e.y/\RPs n e.regs
theorem RPs.le {n m:Int} {l:List (List aj)} (h:RPs n l) (hn:n<=m):RPs m l:=λp hp=>(h p hp).le hn
theorem RPE.le {n m:Int} {l:List Ev} (h:RPE n l) (hn:n<=m):RPE m l:=λe he=>⟨(h e he).1.le hn,(h e he).2.1.le hn,(h e he).2.2.le hn⟩
theorem yu {s s':Int->Int} {n:Int} (e:∀j,0<=j->j<n->s' j=s j) {l:List (List aj)} (h:RPs n l):l.map (aX s')=l.map (aX s):=List.map_congr_left λp hp=>kC e (h p hp)
theorem Og {s s':Int->Int} {n:Int} (e:∀j,0<=j->j<n->s' j=s j) {l:List Ev} (h:RPE n l):l.map (Oe s')=l.map (Oe s):=List.map_congr_left λv hv=>by
 unfold Oe;rw [kC e (h v hv).1,kC e (h v hv).2.1,yu e (h v hv).2.2]
theorem QM (s:Int->Int) (l:List (List aj)) (i:Int):((l.map (aX s)).getD (i).toNat default)=aX s ((l).getD (i).toNat default):=by
 rw [List.getD_eq_getElem?_getD,List.getD_eq_getElem?_getD,List.getElem?_map]
 cases l[i.toNat]? with
 | none=>exact(qC s).symm
 | some p=>rfl
theorem RPs.at {n:Int} {l:List (List aj)} (h:RPs n l) (i:Int):RP n ((l).getD (i).toNat default):=AV.2 (Jq (λp hp=>AV.1 (h p hp)) i)
theorem acB {op n:Int} {x y:List aj} (hop:1<=op/\op<=5) (hx:RP n x) (hy:RP n y):iH (atD op x y) n:=by
 have hx:=AV.1 hx
 have hy:=AV.1 hy
 unfold atD
 split
 ·unfold iH;rw [if_pos rfl];exact⟨hop,hy.1,hx.1,hy.2,hx.2⟩
 ·unfold iH;rw [if_pos rfl];exact⟨hop,hx.1,hy.1,hx.2,hy.2⟩
theorem agS {t:List Atom} {op:Int} {x y:List aj} (h:tOk t op x y=true) (c:¬(gK op x y).2=true):0<=(bL t (atD op x y)).2:=by
 unfold tOk at h
 unfold atD
 by_cases c2:op≠2/\0<jl x y
 ·rw [if_pos c2,Bool.or_eq_true,Bool.not_eq_true',decide_eq_false_iff_not]at h;rw [if_pos c2];have:=h.resolve_left c;omega
 ·rw [if_neg c2,Bool.or_eq_true,Bool.not_eq_true',decide_eq_false_iff_not]at h;rw [if_neg c2];have:=h.resolve_left c;omega
structure St1 (s s' t':Int->Int) (u u' T:List Atom) (v V:List aj):Prop where
 tr:TR s' t' u' T
 ag:∀j:Int,0<=j->j<u.length->s' j=s j
 eq:V=aX s' v
 rp:RP u'.length v
theorem TR.n200 {s t:Int->Int} {u T:List Atom} (h:TR s t u T):(u.length:Int)<=200:=by have:=(jk.1 h.tok).2;omega
theorem TR.amj {s t:Int->Int} {u T:List Atom} (h:TR s t u T) (hT:aK T) {a A:Atom} (ha:iH a u.length) (oa:Oc a) (hl:u.length<200) (k0:0<=(bL T A).2) (hc:(bL T A).1=T) (e:A=zu s a):
  ∃s' t':Int->Int,St1 s s' t' u (bL u a).1 T (eU (bL u a).2) (eU (bL T A).2)/\0<=(bL u a).2:=by
 obtain⟨k1,k2⟩:=vH k0
 rw [hc]at k1 k2
 obtain⟨s',t',P⟩:=h.put hT ha oa hl k0 k1 (by rw [k2,e])
 exact⟨s',t',⟨P.tr,P.ag,by rw [Z8 P.tr.r P.tr.n200 P.r0 P.r1,P.sr],RP.atom P.r0 P.r1⟩,P.r0⟩
theorem TR.do1 {s t:Int->Int} {u T:List Atom} (h:TR s t u T) (hT:aK T) {op:Int} {x y:List aj} (hop:1<=op/\op<=5) (hx:RP u.length x) (hy:RP u.length y) (hl:u.length<200) (ok:tOk T op (aX s x) (aX s y)=true) (hc:(tDo T op (aX s x) (aX s y)).1=T):
  ∃s' t':Int->Int,St1 s s' t' u (tDo u op x y).1 T (tDo u op x y).2 (tDo T op (aX s x) (aX s y)).2:=by
 have e:=Vw h.r h.n200 hx hy op
 by_cases c:(gK op x y).2=true
 ·have e1:tDo u op x y=(u,(gK op x y).1):=by rw [Jv,if_pos c]
  have e2:tDo T op (aX s x) (aX s y)=(T,aX s (gK op x y).1):=by rw [Jv,e,if_pos c]
  rw [e1,e2]
  exact⟨s,t,h,λ_ _ _=>rfl,rfl,hx.simp hy op⟩
 ·have k0:=agS ok (by rw [e];exact c)
  have e2:tDo T op (aX s x) (aX s y)=((bL T (atD op (aX s x) (aX s y))).1,eU (bL T (atD op (aX s x) (aX s y))).2):=by rw [Jv,e,if_neg c,if_neg (by omega)]
  rw [e2]at hc ⊢
  obtain⟨s',t',P,r0⟩:=h.amj hT (acB hop hx hy) (acz op x y) hl k0 hc (acA h.r hx hy op).symm
  have e1:tDo u op x y=((bL u (atD op x y)).1,eU (bL u (atD op x y)).2):=by rw [Jv,if_neg c,if_neg (by omega)]
  rw [e1]
  exact⟨s',t',P⟩
theorem QN (s:Int->Int) {a:Atom} (h:a.kind≠4) (hx:a.x=[]) (hy:a.y=[]):zu s a=a:=by
 unfold zu;rw [if_neg (λg=>h g.1),hx,hy,qC];cases a;dsimp only at*;rw [hx,hy]
structure LS (s t:Int->Int) (a A:SS):Prop where
 tr:TR s t a.t A.t
 regs:A.regs=a.regs.map (aX s)
 rr:RPs a.t.length a.regs
 vals:A.vals=a.vals.map (aX s)
 rv:RPs a.t.length a.vals
 ld:A.ld=a.ld
 inn:A.inn=a.inn
 evs:A.evs=a.evs.map (Oe s)
 re:RPE a.t.length a.evs
theorem LS.x {s t:Int->Int} {a A:SS} (h:LS s t a A) (o:IOp):xOf A o=aX s (xOf a o)/\RP a.t.length (xOf a o):=by
 unfold xOf;split
 ·rw [h.vals,QM];exact⟨rfl,h.rv.at _⟩
 ·exact⟨(qC s).symm,RP.nil _⟩
theorem LS.y {s t:Int->Int} {a A:SS} (h:LS s t a A) (o:IOp):yOf A o=aX s (yOf a o)/\RP a.t.length (yOf a o):=by
 unfold yOf;split
 ·rw [h.vals,QM];exact⟨rfl,h.rv.at _⟩
 ·exact⟨(qC s).symm,RP.nil _⟩
theorem LS.val {s t:Int->Int} {a A:SS} (h:LS s t a A) (hT:aK A.t) {n:Int} {i:Nat} (si:SI n i a) (hn:n+i<200) (hi:i<200) {o:IOp} (hk:o.kind=3->1<=o.k/\o.k<=5) (sA:SOK A o) (hc:nT A o=A.t):
  ∃s' t':Int->Int,St1 s s' t' a.t (nT a o) A.t (nV a o) (nV A o):=by
 have hl:=si.tl
 have hl:a.t.length<200:=by omega
 have ea:aOf A o=aOf a o:=by unfold aOf;rw [h.ld,h.inn]
 have id:∀v V,V=aX s v->RP a.t.length v->nT a o=a.t->nV a o=v->nV A o=V->∃s' t':Int->Int,St1 s s' t' a.t (nT a o) A.t (nV a o) (nV A o):=λv V e r e1 e2 e3=>by
  rw [e1,e2,e3];exact⟨s,t,h.tr,λ_ _ _=>rfl,e,r⟩
 by_cases c3:o.kind=3
 ·have e1:∀w:SS,nT w o=(tDo w.t o.k (xOf w o) (yOf w o)).1:=λw=>by unfold nT;rw [if_pos c3]
  have e2:∀w:SS,nV w o=(tDo w.t o.k (xOf w o) (yOf w o)).2:=λw=>by unfold nV;rw [if_neg (by omega),if_neg (by omega),if_pos c3]
  have ok:=(sA.d c3).ok
  rw [e1]at hc
  rw [(h.x o).1,(h.y o).1]at ok hc
  rw [e1,e2,e2,(h.x o).1,(h.y o).1]
  exact h.tr.do1 hT (hk c3) (h.x o).2 (h.y o).2 hl ok hc
 ·by_cases c4:o.kind=4\/o.kind=6
  ·have e1:∀w:SS,nT w o=(bL w.t (aOf w o)).1:=λw=>by unfold nT;rw [if_neg c3,if_pos c4]
   have e2:∀w:SS,nV w o=eU (bL w.t (aOf w o)).2:=λw=>by unfold nV;rw [if_neg (by omega),if_neg (by omega),if_neg c3,if_pos c4]
   have k0:=sA.p c4
   rw [e1]at hc
   have f1:(aOf a o).kind≠4/\(aOf a o).x=[]/\(aOf a o).y=[]:=by unfold aOf;split<;>exact⟨by dsimp only;decide,rfl,rfl⟩
   obtain⟨s',t',P,_⟩:=h.tr.amj hT (S9 si hi o _) (λg=>absurd g f1.1) hl k0 hc (by rw [ea,QN s f1.1 f1.2.1 f1.2.2])
   rw [e1,e2,e2]
   exact⟨s',t',P⟩
  ·have eT:nT a o=a.t:=by unfold nT;rw [if_neg c3,if_neg c4]
   by_cases c1:o.kind=1
   ·exact id _ _ (vJ o.k).symm (RP.const _ _) eT (by unfold nV;rw [if_pos c1]) (by unfold nV;rw [if_pos c1])
   ·by_cases c2:o.kind=2
    ·exact id _ _ rfl (h.rr.at o.k) eT (by unfold nV;rw [if_neg c1,if_pos c2]) (by unfold nV;rw [if_neg c1,if_pos c2,h.regs,QM])
    ·exact id _ _ (qC s).symm (RP.nil _) eT (by unfold nV;rw [if_neg c1,if_neg c2,if_neg c3,if_neg c4]) (by unfold nV;rw [if_neg c1,if_neg c2,if_neg c3,if_neg c4])
theorem LS.step {s t:Int->Int} {a A:SS} (h:LS s t a A) (hT:aK A.t) {n:Int} {i:Nat} (si:SI n i a) (hn:n+i<200) (hi:i<200) {o:IOp} (hk:o.kind=3->1<=o.k/\o.k<=5) (sA:SOK A o) (hc:(stp A o).t=A.t):
  ∃s' t':Int->Int,LS s' t' (stp a o) (stp A o)/\∀j:Int,0<=j->j<a.t.length->s' j=s j:=by
 have hc:nT A o=A.t:=hc
 obtain⟨s',t',P⟩:=h.val hT si hn hi hk sA hc
 have le:(a.t.length:Int)<=(nT a o).length:=by have:=qz (FQ si hk hn hi).2.pre;exact Int.ofNat_le.2 this
 have ag:=P.ag
 obtain⟨x1,x2⟩:=h.x o
 obtain⟨y1,y2⟩:=h.y o
 have x1':xOf A o=aX s' (xOf a o):=by rw [x1,kC ag x2]
 have y1':yOf A o=aX s' (yOf a o):=by rw [y1,kC ag y2]
 have r1':A.regs=a.regs.map (aX s'):=by rw [h.regs,yu ag h.rr]
 refine⟨s',t',⟨?_,?_,?_,?_,?_,?_,?_,?_,?_⟩,ag⟩
 ·show TR s' t' (nT a o) (nT A o);rw [hc];exact P.tr
 ·show nR A o=(nR a o).map (aX s')
  unfold nR;split
  ·rw [List.map_set,<-r1',x1']
  ·exact r1'
 ·show RPs _ (nR a o)
  unfold nR;split
  ·intro p hp
   rcases List.mem_or_eq_of_mem_set hp with hp | rfl
   ·exact(h.rr p hp).le le
   ·exact x2.le le
  ·exact h.rr.le le
 ·show A.vals++ [nV A o]=(a.vals++ [nV a o]).map (aX s')
  rw [List.map_append,h.vals,yu ag h.rv,P.eq];rfl
 ·show RPs _ (a.vals++ [nV a o])
  intro p hp
  rw [List.mem_append,List.mem_singleton]at hp
  rcases hp with hp | rfl
  ·exact(h.rv p hp).le le
  ·exact P.rp
 ·show(if o.kind=4 then A.ld+1 else A.ld)=if o.kind=4 then a.ld+1 else a.ld;rw [h.ld]
 ·show(if o.kind=6 then A.inn+1 else A.inn)=if o.kind=6 then a.inn+1 else a.inn;rw [h.inn]
 ·show nE A o=(nE a o).map (Oe s')
  unfold nE
  have e0:A.evs=a.evs.map (Oe s'):=by rw [h.evs,Og ag h.re]
  split
  ·rw [List.map_append,e0,x1',y1',r1']
   congr 1
   show [_]=[Oe s' _]
   unfold Oe
   dsimp only
   split<;>rfl
  ·exact e0
 ·show RPE _ (nE a o)
  unfold nE;split
  ·intro e he
   rw [List.mem_append,List.mem_singleton]at he
   rcases he with he | rfl
   ·exact h.re.le le e he
   ·refine⟨x2.le le,y2.le le,?_⟩
    dsimp only
    split
    ·exact h.rr.le le
    ·exact λp hp=>absurd hp (by simp)
  ·exact h.re.le le
theorem aad {α:Type} {a b c:List α} (h:a<+:b) (g:b<+:c) (e:c=a):b=a:=by
 subst e;exact g.eq_of_length (Nat.le_antisymm (qz g) (qz h))
theorem LS.run {n N:Int}:∀(ops:List IOp) (i:Nat) (s t:Int->Int) (a A:SS),LS s t a A->SI n i a->SI N i A->(∀o∈ops,o.kind=3->1<=o.k/\o.k<=5)->n+i+ops.length<=200->N+i+ops.length<=200->i+ops.length<=200->(ops.foldl stp A).t=A.t->
  ∃s' t':Int->Int,LS s' t' (ops.foldl stp a) (ops.foldl stp A)/\∀j:Int,0<=j->j<a.t.length->s' j=s j
 | [],_,s,t,_,_,h,_,_,_,_,_,_,_=>⟨s,t,h,λ_ _ _=>rfl⟩
 | o::r,i,s,t,a,A,h,si,SI,hk,h1,h2,h3,hc=>by
  rw [List.length_cons]at h1 h2 h3
  have ko:=hk o List.mem_cons_self
  obtain⟨a1,a2⟩:=FQ si ko (by omega) (by omega)
  obtain⟨A1,A2⟩:=FQ SI ko (by omega) (by omega)
  have kr:∀o∈r,o.kind=3->1<=o.k/\o.k<=5:=λo ho=>hk o (List.mem_cons_of_mem _ ho)
  rw [List.foldl_cons]at hc
  obtain⟨_,B2⟩:=FR r (i+1) (stp A o) A1 kr (by omega) (by omega)
  have e1:(stp A o).t=A.t:=aad A2.pre B2 hc
  obtain⟨s1,t1,g1,g2⟩:=h.step SI.tok si (by omega) (by omega) ko A2 e1
  obtain⟨s2,t2,g3,g4⟩:=LS.run r (i+1) s1 t1 _ _ g1 a1 A1 kr (by omega) (by omega) (by omega) (by rw [hc,e1])
  rw [List.foldl_cons,List.foldl_cons]
  exact⟨s2,t2,g3,λj j0 j1=>by rw [g4 j j0 (by have:=qz a2.pre;omega),g2 j j0 j1]⟩
structure YOK (n:Int) (y:Sym):Prop where
 e:RPE n y.events
 r:RPs n y.regs
 x:RP n y.x
 y:RP n y.y
theorem YOK.le {n m:Int} {y:Sym} (h:YOK n y) (hn:n<=m):YOK m y:=⟨h.e.le hn,h.r.le hn,h.x.le hn,h.y.le hn⟩
theorem TR.nil (T:List Atom):TR id id [] T:=by
 refine⟨⟨λk h1 h2=> ?_,λk h1 h2=> ?_⟩,Ie,λk h1 h2=> ?_,λk h1 h2=> ?_⟩<;>exact absurd h2 (by simp;omega)
end Go.TX.F
namespace Go.TX.F
open Go Go.AE Go.TX
end Go.TX.F
namespace Go.TX.F
open Go Go.AE Go.TX
def Oh (l:List Ev) (k:Int):Int:=((l.filter λe=>decide (e.kind=k)).length:Int)
theorem Ij (l:List Ev) (e:Ev) (k:Int):Oh (l++ [e]) k=if e.kind=k then Oh l k+1 else Oh l k:=by
 unfold Oh
 rw [List.filter_append,List.length_append]
 by_cases c:e.kind=k
 ·rw [if_pos c,List.filter_cons_of_pos (by simpa using c)];simp
 ·rw [if_neg c,List.filter_cons_of_neg (by simpa using c)];simp
structure aq9 (pp:Sym×Int×Unit->Bool) (ff:Sym×Int×Unit->List Ev×List (List aj)×Int×Int×Unit):Prop where
 hp:∀s k,pp (s,k,())=true
 hf:∀s k,ff (s,k,())=(s.events,s.regs,1,k,())
end Go.TX.F
namespace Go.TX.F
open Go Go.AE Go.TX
structure Cn (s:SS):Prop where
 ld:s.ld=Oh s.evs 4
 inn:s.inn=Oh s.evs 6
theorem Cn.stp {s:SS} (h:Cn s) (o:IOp):Cn (stp s o):=by
 constructor
 ·show(if o.kind=4 then s.ld+1 else s.ld)=Oh (nE s o) 4
  unfold nE
  by_cases c:evO o
  ·rw [if_pos c,Ij,h.ld]
  ·rw [if_neg c,if_neg (λe=>c (by unfold evO;omega)),h.ld]
 ·show(if o.kind=6 then s.inn+1 else s.inn)=Oh (nE s o) 6
  unfold nE
  by_cases c:evO o
  ·rw [if_pos c,Ij,h.inn]
  ·rw [if_neg c,if_neg (λe=>c (by unfold evO;omega)),h.inn]
theorem Cn.run:∀(l:List IOp) (s:SS),Cn s->Cn (l.foldl Go.TX.F.stp s)
 | [],_,h=>h
 | o::r,s,h=>Cn.run r _ (h.stp o)
structure Pt2 (t:List Atom) (b:Blk) (i:Nat) (tb:List Atom) (V:List (List aj)) (ev:List Ev) (rg:List (List aj)):Prop where
 tb:tb=(SW t b i).t
 V:V=(SW t b i).vals
 ev:ev=(SW t b i).evs
 rg:rg=(SW t b i).regs
theorem Pt2.next {t:List Atom} {b:Blk} {i:Nat} {tb:List Atom} {V:List (List aj)} {ev:List Ev} {rg:List (List aj)} (h:Pt2 t b i tb V ev rg) (hi:i<b.ops.length) {o:IOp} (ho:b.ops.getD i default=o)
  {v:List aj} {tb':List Atom} {ev':List Ev} {rg':List (List aj)} (h3:tb'=nT (SW t b i) o) (h4:v=nV (SW t b i) o) (h5:ev'=nE (SW t b i) o) (h6:rg'=nR (SW t b i) o):Pt2 t b (i+1) tb' (V++ [v]) ev' rg':=by
 have e:=Td (t:=t) hi
 rw [ho]at e
 refine⟨?_,?_,?_,?_⟩<;>rw [e]
 ·exact h3
 ·rw [h.V,h4];rfl
 ·exact h5
 ·exact h6
structure ara (pp:Sym×Int×Unit->Bool) (ff:Sym×Int×Unit->Sym×Unit):Prop where
 hp:∀s n,ShY s->pp (s,n,())=true
 hf:∀s n,ShY s->ff (s,n,())=(symEnd s n,())
end Go.TX.F
namespace Go.TX.F
open Go Go.AE Go.TX
end Go.TX.F
namespace Go.TX.F
open Go Go.AE Go.TX
def ap6 (q:Cer):Int×Int×Int×Int×Int×Int×Int×Int×Int×Int×Int×Int×List IOp×List IOp×Unit:=(q.base.pc,q.base.len,q.base.fin,q.base.x,q.base.y,q.base.k,q.made.pc,q.made.len,q.made.fin,q.made.x,q.made.y,q.made.k,q.base.ops,q.made.ops,())
def ap7 (l:List Cer) (q:Cer):List Cer:=(l++ [q]).drop (l.length+1-3)
structure arb (pp:Cer×Unit->Bool) (ff:Cer×Unit->Int×Int×Int×Int×Int×Int×Int×Int×Int×Int×Int×Int×List IOp×List IOp×Unit):Prop where
 hp:∀q,q.base.ops.length<1000000->q.made.ops.length<1000000->pp (q,())=true
 hf:∀q,q.base.ops.length<1000000->q.made.ops.length<1000000->ff (q,())=ap6 q
structure ard (pp:List Cer×Cer×Unit->Bool) (ff:List Cer×Cer×Unit->List Cer×Unit):Prop where
 hp:∀l q,ShC l->q.base.ops.length<1000000->q.made.ops.length<1000000->pp (l,q,())=true
 hf:∀l q,ShC l->q.base.ops.length<1000000->q.made.ops.length<1000000->ff (l,q,())=(ap7 l q,())
end Go.TX.F
namespace Go.TX.F
open Go Go.AE Go.TX
def opB (o:IOp):List Int:=[o.kind%256,o.x%256,o.y%256,o.k/256%256,o.k%256,o.at_%256]
def ap8 (b:Blk):List Int:=[b.pc%256,b.len%256,b.fin%256,b.x%256,b.y%256,b.k/256%256,b.k%256]++b.ops.flatMap opB
noncomputable def irB (b:Blk):List Int:=if bp (d9 b)=true then ap8 b else []
structure OpR (o:IOp):Prop where
 kd:0<=o.kind/\o.kind<=255
 x:0<=o.x/\o.x<=255
 y:0<=o.y/\o.y<=255
 k:0<=o.k/\o.k<=65535
 at_:0<=o.at_/\o.at_<=255
structure arf (pp:Blk×Unit->Bool) (ff:Blk×Unit->List Int×Unit):Prop where
 hp:∀b,b.ops.length<1000000000->pp (b,())=true
 hf:∀b,b.ops.length<1000000000->ff (b,())=(irB b,())
end Go.TX.F
namespace Go.TX.F
open Go Go.AE Go.TX
def szL (n m:Int):Int:=if m-n<0 then-1 else m-n
structure arh (pp:Blk×Int×Unit->Bool) (ff:Blk×Int×Unit->Int×Unit):Prop where
 hp:∀b m,b.ops.length<9223372036854775808->0<=m->m<=1048576->pp (b,m,())=true
 hf:∀b m,b.ops.length<9223372036854775808->0<=m->m<=1048576->ff (b,m,())=(szL b.ops.length m,())
end Go.TX.F
namespace Go.TX.F
open Go Go.AE Go.TX
def Wo (n:Int):Prop:=0<=n/\n<=65535
def Wos (l:List Int):Prop:=∀n∈l,Wo n
structure MOK (m:aA):Prop where
 r4:m.regs.length=4
 rw:Wos m.regs
 m64:m.mem.length=64
 mw:Wos m.mem
 pc:Wo m.pc
 sv:Wo m.save
 iw:Wos m.ins
 ow:Wos m.outs
 ha:0<=m.halt/\m.halt<=4
 ct:0<=m.count/\m.count<=1000000
def AX (r a b:Int):Bool:=inB a 0 65535&&inB b 0 65535&&decide (r=1/\a=b\/r=2/\a<b)
structure MS where
 m:aA
 vals:List Int
 left:Bool
def vx (s:MS) (o:IOp):Int:=if hX o then((s.vals).getD (o.x).toNat default)else 0
def vy (s:MS) (o:IOp):Int:=if hY o then((s.vals).getD (o.y).toNat default)else 0
def mV (s:MS) (o:IOp):Int:=if o.kind=1 then o.k else if o.kind=2 then((s.m.regs).getD (o.k).toNat default)else if o.kind=3 then wdo o.k (vx s o) (vy s o)else if o.kind=4 then((s.m.mem).getD (vx s o).toNat default)else if o.kind=6 then s.m.ins.getD 0 default else 0
def mM (s:MS) (o:IOp):aA:=if o.kind=5 then {s.m with mem:=s.m.mem.set (vx s o).toNat (vy s o)}else if o.kind=6 then {s.m with ins:=s.m.ins.drop 1}else if o.kind=7 then {s.m with outs:=s.m.outs++ [vx s o]}else if o.kind=8 then {s.m with regs:=s.m.regs.set o.k.toNat (vx s o)}else s.m
def leave (m:aA) (n:Int) (h:Int):aA:={m with halt:=h,pc:=m.pc+n,count:=m.count+n}
def aT (b:Blk) (s:MS) (o:IOp):MS:=
 if s.left=true then s
 else if(o.kind=4\/o.kind=5)/\64<=vx s o then⟨leave s.m o.at_ 3,s.vals,true⟩
 else if o.kind=5/\b.pc+o.at_+1<=vx s o/\vx s o<=b.pc+b.len-1 then⟨leave (mM s o) (o.at_+1) (mM s o).halt,s.vals,true⟩
 else⟨mM s o,s.vals++ [mV s o],false⟩
def zw (b:Blk) (s:MS):aA:=if s.left=true then s.m else {s.m with count:=s.m.count+b.len,pc:=if b.fin=1 then b.k else if b.fin=2 then((s.vals).getD (b.x).toNat default)else if AX (b.fin-2) ((s.vals).getD (b.x).toNat default) ((s.vals).getD (b.y).toNat default)=true then b.k else b.pc+b.len}
def QO:aA:=⟨[],0,[],0,false,false,0,[],[],0⟩
noncomputable def dX (b:Blk) (m:aA):aA×Bool:=if bp (d9 b/\MOK m)=true then(if m.halt≠0\/m.pc≠b.pc\/1000000-b.len<m.count then(m,false)else(zw b (b.ops.foldl (aT b) ⟨m,[],false⟩),true))else(QO,false)
def bF (i:Ins):Prop:=(0<=i.op/\i.op<=15)/\(0<=i.d/\i.d<=3)/\(0<=i.a/\i.a<=3)/\0<=i.k/\
 (i.op=0->i.d=0/\i.a=0/\i.k<=3)/\(i.op=1->i.a=0/\i.k<=255)/\(i.op=2->i.k=0)/\(3<=i.op/\i.op<=7->i.k<=3)/\(i.op=8->i.k<=15)/\(9<=i.op/\i.op<=12->i.k<=255)/\(i.op=13->i.d=0/\i.k=0)/\(14<=i.op->i.a=0/\i.k=0)
def FZ (i:Ins):Int:=i.op*4096+i.d*1024+i.a*256+i.k
def iF (w:Int):Ins:=⟨w/4096,w/1024%4,w/256%4,w%256⟩
structure mP (pc:Int) (l:List Ins):Prop where
 ln:1<=l.length/\l.length<=8
 pc:0<=pc/\pc<=64-l.length
 ok:∀i:Nat,i<l.length->bF (l.getD i default)/\(l.getD i default).op≠0/\(11<=(l.getD i default).op/\(l.getD i default).op<=13->i+1=l.length)
def bM (n b:Int) (i:Ins):List IOp:=
 if i.op=1 then [⟨1,0,0,i.k,0⟩,⟨8,b,0,i.d,0⟩]
 else if i.op=2 then [⟨2,0,0,i.a,0⟩,⟨8,b,0,i.d,0⟩]
 else if i.op=8 then [⟨2,0,0,i.a,0⟩,⟨1,0,0,2^i.k.toNat,0⟩,⟨3,b,b+1,3,0⟩,⟨8,b+2,0,i.d,0⟩]
 else if i.op=9 then [⟨2,0,0,i.a,0⟩,⟨1,0,0,i.k,0⟩,⟨3,b,b+1,1,0⟩,⟨4,b+2,0,0,n⟩,⟨8,b+3,0,i.d,0⟩]
 else if i.op=10 then [⟨2,0,0,i.a,0⟩,⟨1,0,0,i.k,0⟩,⟨3,b,b+1,1,0⟩,⟨2,0,0,i.d,0⟩,⟨5,b+2,b+3,0,n⟩]
 else if i.op=14 then [⟨2,0,0,i.d,0⟩,⟨7,b,0,0,n⟩]
 else if i.op=15 then [⟨6,0,0,0,n⟩,⟨8,b,0,i.d,0⟩]
 else if i.op=11\/i.op=12 then [⟨2,0,0,i.d,0⟩,⟨2,0,0,i.a,0⟩]
 else if i.op=13 then [⟨2,0,0,i.a,0⟩]
 else [⟨2,0,0,i.a,0⟩,⟨2,0,0,i.k,0⟩,⟨3,b,b+1,i.op-2,0⟩,⟨8,b+2,0,i.d,0⟩]
def bW (n:Int) (b:Blk) (i:Ins):Blk:=
 if i.op=11\/i.op=12 then {b with ops:=b.ops++bM n b.ops.length i,fin:=i.op-8,x:=b.ops.length,y:=b.ops.length+1,k:=i.k}
 else if i.op=13 then {b with ops:=b.ops++bM n b.ops.length i,fin:=2,x:=b.ops.length,k:=0}
 else {b with ops:=b.ops++bM n b.ops.length i}
def iq:Int->Blk->List Ins->Blk
 | _,b,[]=>b
 | n,b,i::r=>iq (n+1) (bW n b i) r
def lN (pc:Int) (l:List Ins):Blk:=⟨pc,l.length,[],1,0,0,pc+l.length⟩
noncomputable def lower (pc:Int) (l:List Ins):Blk:=if bp (mP pc l)=true then iq 0 (lN pc l) l else NU
def adr (m:aA) (i:Ins):Int:=(((m.regs).getD (i.a).toNat default)+i.k)%65536
def eff (m:aA) (i:Ins):aA:=
 if i.op=1 then {m with regs:=m.regs.set i.d.toNat i.k}
 else if i.op=2 then {m with regs:=m.regs.set i.d.toNat ((m.regs).getD (i.a).toNat default)}
 else if i.op=8 then {m with regs:=m.regs.set i.d.toNat (((m.regs).getD (i.a).toNat default)*2^i.k.toNat%65536)}
 else if i.op=9 then {m with regs:=m.regs.set i.d.toNat ((m.mem).getD (adr m i).toNat default)}
 else if i.op=10 then {m with mem:=m.mem.set (adr m i).toNat ((m.regs).getD (i.d).toNat default)}
 else if i.op=14 then {m with outs:=m.outs++ [((m.regs).getD (i.d).toNat default)]}
 else if i.op=15 then {m with regs:=m.regs.set i.d.toNat (m.ins.getD 0 default),ins:=m.ins.drop 1}
 else if i.op=0 then(if i.k=0 then {m with halt:=1}else if i.k=1 then {m with bJ:=true}else {m with bJ:=decide (i.k=2)})
 else if 11<=i.op then m
 else {m with regs:=m.regs.set i.d.toNat (wdo (i.op-2) ((m.regs).getD (i.a).toNat default) ((m.regs).getD (i.k).toNat default))}
def nxt (m:aA) (i:Ins):Int:=
 if i.op=0/\i.k=1 then m.save
 else if(i.op=11\/i.op=12)/\AX (i.op-10) ((m.regs).getD (i.d).toNat default) ((m.regs).getD (i.a).toNat default)=true then i.k
 else if i.op=13 then((m.regs).getD (i.a).toNat default)
 else(m.pc+1)%65536
def exec (m:aA) (i:Ins):aA:=if(i.op=9\/i.op=10)/\64<=adr m i then {m with halt:=3}else {eff m i with pc:=nxt m i,count:=m.count+1}
noncomputable def stepM (m:aA) (irq:Bool):aA:=
 let w:=m.waits || irq
 let m1:aA:=if w=true/\m.bJ=true then {m with waits:=false,bJ:=false,save:=m.pc,pc:=48}else {m with waits:=w}
 if 64<=m1.pc then {m1 with halt:=4}
 else if bp (bF (iF ((m1.mem).getD (m1.pc).toNat default)))=false then {m1 with halt:=2}
 else exec m1 (iF ((m1.mem).getD (m1.pc).toNat default))
end Go.TX.F
namespace Go.TX.F
open Go Go.AE Go.TX
theorem va (v l:List Int) (j:Nat):((v++l).getD ((v.length:Int)+j).toNat default)=l.getD j default:=by
 rw [List.getD_eq_getElem?_getD,List.getElem?_append_right (by omega),<-List.getD_eq_getElem?_getD,show((v.length:Int)+j).toNat-v.length=j by omega]
theorem va0 (v l:List Int):((v++l).getD ((v.length:Int)).toNat default)=l.getD 0 default:=by
 have:=va v l 0
 rwa [Int.natCast_zero,Int.add_zero]at this
theorem va1 (v l:List Int):((v++l).getD ((v.length:Int)+1).toNat default)=l.getD 1 default:=va v l 1
theorem va2 (v l:List Int):((v++l).getD ((v.length:Int)+2).toNat default)=l.getD 2 default:=va v l 2
theorem va3 (v l:List Int):((v++l).getD ((v.length:Int)+3).toNat default)=l.getD 3 default:=va v l 3
theorem gd0 (a b:Int): [a,b].getD 0 default=a:=rfl
theorem gd1 (a b:Int): [a,b].getD 1 default=b:=rfl
def rch (m:aA) (i:Ins):Prop:=(i.op=9\/i.op=10)/\64<=adr m i
def ovr (B:Blk) (n:Int) (m:aA) (i:Ins):Prop:=i.op=10/\B.pc+n+1<=adr m i/\adr m i<=B.pc+B.len-1
theorem Wos.at {l:List Int} (h:Wos l) (i:Int):Wo ((l).getD (i).toNat default):=by
 by_cases c:i.toNat<l.length
 ·rw [getD_lt c];exact h _ (List.getElem_mem _)
 ·rw [List.getD_eq_getElem?_getD,List.getElem?_eq_none (by omega)];exact⟨by decide,by decide⟩
theorem Tk {a k:Int} (ha:Wo a) (hk:Wo k):wdo 1 a k=(a+k)%65536:=by
 unfold wdo;rw [if_pos ⟨ha,hk⟩,if_pos rfl]
theorem acC {a k:Int} (ha:Wo a) (hk:Wo k):wdo 3 a k=a*k%65536:=by
 unfold wdo;rw [if_pos ⟨ha,hk⟩,if_neg (by decide),if_neg (by decide),if_pos rfl]
theorem F3 {k:Int} (h0:0<=k) (h1:k<=15):Wo (2^k.toNat):=by
 obtain⟨j,rfl⟩:∃j:Nat,k=j:=⟨k.toNat,by omega⟩
 have:j<=15:=by omega
 rw [show((j:Int)).toNat=j from rfl]
 have h:(2:Nat)^j<=2^15:=Nat.pow_le_pow_right (by decide) this
 have e:((2:Int)^j)=((2^j:Nat):Int):=by simp
 rw [e]
 have h15:(2:Nat)^15=32768:=by decide
 rw [h15]at h
 generalize (2:Nat)^j=z at h
 exact⟨by omega,by omega⟩
section
variable (B:Blk) (m:aA) (v:List Int)
theorem st1 (k:Int):aT B ⟨m,v,false⟩ ⟨1,0,0,k,0⟩=⟨m,v++ [k],false⟩:=by simp [aT,mM,mV]
theorem st2 (k:Int):aT B ⟨m,v,false⟩ ⟨2,0,0,k,0⟩=⟨m,v++ [((m.regs).getD (k).toNat default)],false⟩:=by simp [aT,mM,mV]
theorem st3 (k x y:Int):aT B ⟨m,v,false⟩ ⟨3,x,y,k,0⟩=⟨m,v++ [wdo k ((v).getD (x).toNat default) ((v).getD (y).toNat default)],false⟩:=by simp [aT,mM,mV,vx,vy,hX,hY]
theorem st4 (x n:Int) (h:¬64<=((v).getD (x).toNat default)):aT B ⟨m,v,false⟩ ⟨4,x,0,0,n⟩=⟨m,v++ [((m.mem).getD (((v).getD (x).toNat default)).toNat default)],false⟩:=by
 unfold aT;rw [if_neg (by simp),if_neg (by simp [vx,hX];simpa using h),if_neg (by simp)];simp [mM,mV,vx,hX]
theorem ap9 (x n:Int) (h:64<=((v).getD (x).toNat default)):aT B ⟨m,v,false⟩ ⟨4,x,0,0,n⟩=⟨leave m n 3,v,true⟩:=by
 unfold aT;rw [if_neg (by simp),if_pos (by simp [vx,hX];simpa using h)]
theorem aqa (x y n:Int) (h:64<=((v).getD (x).toNat default)):aT B ⟨m,v,false⟩ ⟨5,x,y,0,n⟩=⟨leave m n 3,v,true⟩:=by
 unfold aT;rw [if_neg (by simp),if_pos (by simp [vx,hX];simpa using h)]
theorem aqb (x y n:Int) (h:¬64<=((v).getD (x).toNat default)) (o:B.pc+n+1<=((v).getD (x).toNat default)/\((v).getD (x).toNat default)<=B.pc+B.len-1):aT B ⟨m,v,false⟩ ⟨5,x,y,0,n⟩=⟨leave {m with mem:=m.mem.set (((v).getD (x).toNat default)).toNat ((v).getD (y).toNat default)} (n+1) m.halt,v,true⟩:=by
 unfold aT;rw [if_neg (by simp),if_neg (by simp [vx,hX];simpa using h),if_pos (by simp [vx,hX];simpa using o)];simp [mM,vx,vy,hX,hY]
theorem st5 (x y n:Int) (h:¬64<=((v).getD (x).toNat default)) (o:¬(B.pc+n+1<=((v).getD (x).toNat default)/\((v).getD (x).toNat default)<=B.pc+B.len-1)):aT B ⟨m,v,false⟩ ⟨5,x,y,0,n⟩=⟨{m with mem:=m.mem.set (((v).getD (x).toNat default)).toNat ((v).getD (y).toNat default)},v++ [0],false⟩:=by
 unfold aT;rw [if_neg (by simp),if_neg (by simp [vx,hX];simpa using h),if_neg (by simp [vx,hX];simpa using o)];simp [mM,mV,vx,vy,hX,hY]
theorem st6 (n:Int):aT B ⟨m,v,false⟩ ⟨6,0,0,0,n⟩=⟨{m with ins:=m.ins.drop 1},v++ [m.ins.getD 0 default],false⟩:=by simp [aT,mM,mV]
theorem st7 (x n:Int):aT B ⟨m,v,false⟩ ⟨7,x,0,0,n⟩=⟨{m with outs:=m.outs++ [((v).getD (x).toNat default)]},v++ [0],false⟩:=by simp [aT,mM,mV,vx,hX]
theorem st8 (x k:Int):aT B ⟨m,v,false⟩ ⟨8,x,0,k,0⟩=⟨{m with regs:=m.regs.set k.toNat ((v).getD (x).toNat default)},v++ [0],false⟩:=by simp [aT,mM,mV,vx,hX]
end
theorem aqc (B:Blk) (m:aA) (v:List Int) (o:IOp):aT B ⟨m,v,true⟩ o=⟨m,v,true⟩:=by simp [aT]
theorem Jw (B:Blk) (m:aA) (v:List Int):∀l:List IOp,l.foldl (aT B) ⟨m,v,true⟩=⟨m,v,true⟩
 | []=>rfl
 | o::r=>by rw [List.foldl_cons,show aT B ⟨m,v,true⟩ o=⟨m,v,true⟩ by simp [aT]];exact Jw B m v r
theorem amk (B:Blk) (n:Int) {m:aA} (hm:MOK m) (v:List Int) {i:Ins} (hi:bF i) (h0:i.op≠0):
  (rch m i->((bM n v.length i).foldl (aT B) ⟨m,v,false⟩).left=true/\((bM n v.length i).foldl (aT B) ⟨m,v,false⟩).m=leave m n 3)/\
  (¬rch m i->ovr B n m i->((bM n v.length i).foldl (aT B) ⟨m,v,false⟩).left=true/\((bM n v.length i).foldl (aT B) ⟨m,v,false⟩).m=leave (eff m i) (n+1) m.halt)/\
  (¬rch m i->¬ovr B n m i->∃w,(bM n v.length i).foldl (aT B) ⟨m,v,false⟩=⟨eff m i,v++w,false⟩/\w.length=(bM n v.length i).length/\(i.op=11\/i.op=12->w=[((m.regs).getD (i.d).toNat default),((m.regs).getD (i.a).toNat default)])/\(i.op=13->w=[((m.regs).getD (i.a).toNat default)])):=by
 obtain⟨⟨o0,o1⟩,⟨d0,d1⟩,⟨a0,a1⟩,k0,_,r1,r2,r3,r8,r9,r13,r14⟩:=hi
 have wa:=hm.rw.at i.a
 have nr:i.op≠9->i.op≠10->¬rch m i:=λh g x=>x.1.elim h g
 have no:i.op≠10->¬ovr B n m i:=λh x=>h x.1
 rcases(by omega:i.op=1\/i.op=2\/(3<=i.op/\i.op<=7)\/i.op=8\/i.op=9\/i.op=10\/(i.op=11\/i.op=12)\/i.op=13\/i.op=14\/i.op=15)with c | c | c | c | c | c | c | c | c | c
 ·refine⟨λh=>absurd h (nr (by omega) (by omega)),λ_ h=>absurd h (no (by omega)),λ_ _=>⟨[i.k,0],?_,?_,λg=>by omega,λg=>by omega⟩⟩
  ·unfold bM eff;rw [if_pos c,if_pos c]
   simp only [List.foldl_cons,List.foldl_nil,st1,st8,List.append_assoc,List.cons_append,List.nil_append,va0];rfl
  ·unfold bM;rw [if_pos c];rfl
 ·refine⟨λh=>absurd h (nr (by omega) (by omega)),λ_ h=>absurd h (no (by omega)),λ_ _=>⟨[((m.regs).getD (i.a).toNat default),0],?_,?_,λg=>by omega,λg=>by omega⟩⟩
  ·unfold bM eff;rw [if_neg (by omega),if_pos c,if_neg (by omega),if_pos c]
   simp only [List.foldl_cons,List.foldl_nil,st2,st8,List.append_assoc,List.cons_append,List.nil_append,va0];rfl
  ·unfold bM;rw [if_neg (by omega),if_pos c];rfl
 ·refine⟨λh=>absurd h (nr (by omega) (by omega)),λ_ h=>absurd h (no (by omega)),λ_ _=>⟨[((m.regs).getD (i.a).toNat default),((m.regs).getD (i.k).toNat default),wdo (i.op-2) ((m.regs).getD (i.a).toNat default) ((m.regs).getD (i.k).toNat default),0],?_,?_,λg=>by omega,λg=>by omega⟩⟩
  ·unfold bM eff
   iterate 9 rw [if_neg (by omega)]
   iterate 9 rw [if_neg (by omega)]
   simp only [List.foldl_cons,List.foldl_nil,st2,st3,st8,List.append_assoc,List.cons_append,List.nil_append,va0,va1,va2];rfl
  ·unfold bM
   iterate 9 rw [if_neg (by omega)]
   rfl
 ·have wk:=F3 k0 (r8 c)
  refine⟨λh=>absurd h (nr (by omega) (by omega)),λ_ h=>absurd h (no (by omega)),λ_ _=>⟨[((m.regs).getD (i.a).toNat default),2^i.k.toNat,wdo 3 ((m.regs).getD (i.a).toNat default) (2^i.k.toNat),0],?_,?_,λg=>by omega,λg=>by omega⟩⟩
  ·unfold bM eff
   rw [if_neg (by omega),if_neg (by omega),if_pos c,if_neg (by omega),if_neg (by omega),if_pos c,<-acC wa wk]
   simp only [List.foldl_cons,List.foldl_nil,st1,st2,st3,st8,List.append_assoc,List.cons_append,List.nil_append,va0,va1,va2];rfl
  ·unfold bM;rw [if_neg (by omega),if_neg (by omega),if_pos c];rfl
 ·have wk:Wo i.k:=⟨k0,by have:=r9 (by omega);omega⟩
  have ea:wdo 1 ((m.regs).getD (i.a).toNat default) i.k=adr m i:=Tk wa wk
  have ei:bM n v.length i=[⟨2,0,0,i.a,0⟩,⟨1,0,0,i.k,0⟩,⟨3,v.length,v.length+1,1,0⟩,⟨4,v.length+2,0,0,n⟩,⟨8,v.length+3,0,i.d,0⟩]:=by
   unfold bM;rw [if_neg (by omega),if_neg (by omega),if_neg (by omega),if_pos c]
  have e3:((v++ [((m.regs).getD (i.a).toNat default),i.k,adr m i]).getD ((v.length:Int)+2).toNat default)=adr m i:=va2 _ _
  rw [ei]
  refine⟨λh=> ?_,λ_ h=>absurd h (no (by omega)),λh _=>⟨[((m.regs).getD (i.a).toNat default),i.k,adr m i,((m.mem).getD (adr m i).toNat default),0],?_,rfl,λg=>by omega,λg=>by omega⟩⟩
  ·simp only [List.foldl_cons,st1,st2,st3,List.append_assoc,List.cons_append,List.nil_append,va0,va1]
   simp only [gd0,gd1]
   rw [ea,ap9 _ _ _ _ _ (by rw [e3];exact h.2),aqc,List.foldl_nil]
   exact⟨rfl,rfl⟩
  ·have h2:¬64<=adr m i:=λg=>h ⟨Or.inl c,g⟩
   simp only [List.foldl_cons,List.foldl_nil,st1,st2,st3,List.append_assoc,List.cons_append,List.nil_append,va0,va1]
   simp only [gd0,gd1]
   rw [ea,st4 _ _ _ _ _ (by rw [e3];exact h2),e3,st8]
   unfold eff;rw [if_neg (by omega),if_neg (by omega),if_neg (by omega),if_pos c]
   simp only [List.append_assoc,List.cons_append,List.nil_append,va3];rfl
 ·have wk:Wo i.k:=⟨k0,by have:=r9 (by omega);omega⟩
  have ea:wdo 1 ((m.regs).getD (i.a).toNat default) i.k=adr m i:=Tk wa wk
  have ei:bM n v.length i=[⟨2,0,0,i.a,0⟩,⟨1,0,0,i.k,0⟩,⟨3,v.length,v.length+1,1,0⟩,⟨2,0,0,i.d,0⟩,⟨5,v.length+2,v.length+3,0,n⟩]:=by
   unfold bM;rw [if_neg (by omega),if_neg (by omega),if_neg (by omega),if_neg (by omega),if_pos c]
  have e2:((v++ [((m.regs).getD (i.a).toNat default),i.k,adr m i,((m.regs).getD (i.d).toNat default)]).getD ((v.length:Int)+2).toNat default)=adr m i:=va2 _ _
  have e3:((v++ [((m.regs).getD (i.a).toNat default),i.k,adr m i,((m.regs).getD (i.d).toNat default)]).getD ((v.length:Int)+3).toNat default)=((m.regs).getD (i.d).toNat default):=va3 _ _
  have ef:eff m i={m with mem:=m.mem.set (adr m i).toNat ((m.regs).getD (i.d).toNat default)}:=by
   unfold eff;rw [if_neg (by omega),if_neg (by omega),if_neg (by omega),if_neg (by omega),if_pos c]
  have fo: [⟨2,0,0,i.a,0⟩,⟨1,0,0,i.k,0⟩,⟨3,(v.length:Int),v.length+1,1,0⟩,⟨2,0,0,i.d,0⟩,⟨5,(v.length:Int)+2,v.length+3,0,n⟩].foldl (aT B) ⟨m,v,false⟩=aT B ⟨m,v++ [((m.regs).getD (i.a).toNat default),i.k,adr m i,((m.regs).getD (i.d).toNat default)],false⟩ ⟨5,(v.length:Int)+2,v.length+3,0,n⟩:=by
   simp only [List.foldl_cons,List.foldl_nil,st1,st2,st3,List.append_assoc,List.cons_append,List.nil_append,va0,va1]
   simp only [gd0,gd1]
   rw [ea]
  rw [ei,fo,ef]
  refine⟨λh=> ?_,λh o=> ?_,λh o=>⟨[((m.regs).getD (i.a).toNat default),i.k,adr m i,((m.regs).getD (i.d).toNat default),0],?_,rfl,λg=>by omega,λg=>by omega⟩⟩
  ·rw [aqa _ _ _ _ _ _ (by rw [e2];exact h.2)];exact⟨rfl,rfl⟩
  ·have h2:¬64<=adr m i:=λg=>h ⟨Or.inr c,g⟩
   rw [aqb _ _ _ _ _ _ (by rw [e2];exact h2) (by rw [e2];exact o.2),e2,e3];exact⟨rfl,rfl⟩
  ·have h2:¬64<=adr m i:=λg=>h ⟨Or.inr c,g⟩
   rw [st5 _ _ _ _ _ _ (by rw [e2];exact h2) (by rw [e2];exact λg=>o ⟨c,g⟩),e2,e3,List.append_assoc];rfl
 ·refine⟨λh=>absurd h (nr (by omega) (by omega)),λ_ h=>absurd h (no (by omega)),λ_ _=>⟨[((m.regs).getD (i.d).toNat default),((m.regs).getD (i.a).toNat default)],?_,?_,λg=>rfl,λg=>by omega⟩⟩
  ·unfold bM eff
   iterate 7 rw [if_neg (by omega)]
   rw [if_pos c]
   iterate 8 rw [if_neg (by omega)]
   rw [if_pos (by omega)]
   simp only [List.foldl_cons,List.foldl_nil,st2,List.append_assoc,List.cons_append,List.nil_append]
  ·unfold bM
   iterate 7 rw [if_neg (by omega)]
   rw [if_pos c];rfl
 ·refine⟨λh=>absurd h (nr (by omega) (by omega)),λ_ h=>absurd h (no (by omega)),λ_ _=>⟨[((m.regs).getD (i.a).toNat default)],?_,?_,λg=>by omega,λg=>rfl⟩⟩
  ·unfold bM eff
   iterate 8 rw [if_neg (by omega)]
   rw [if_pos c]
   iterate 8 rw [if_neg (by omega)]
   rw [if_pos (by omega)]
   simp only [List.foldl_cons,List.foldl_nil,st2]
  ·unfold bM
   iterate 8 rw [if_neg (by omega)]
   rw [if_pos c];rfl
 ·refine⟨λh=>absurd h (nr (by omega) (by omega)),λ_ h=>absurd h (no (by omega)),λ_ _=>⟨[((m.regs).getD (i.d).toNat default),0],?_,?_,λg=>by omega,λg=>by omega⟩⟩
  ·unfold bM eff
   iterate 5 rw [if_neg (by omega)]
   rw [if_pos c]
   iterate 5 rw [if_neg (by omega)]
   rw [if_pos c]
   simp only [List.foldl_cons,List.foldl_nil,st2,st7,List.append_assoc,List.cons_append,List.nil_append,va0];rfl
  ·unfold bM
   iterate 5 rw [if_neg (by omega)]
   rw [if_pos c];rfl
 ·refine⟨λh=>absurd h (nr (by omega) (by omega)),λ_ h=>absurd h (no (by omega)),λ_ _=>⟨[m.ins.getD 0 default,0],?_,?_,λg=>by omega,λg=>by omega⟩⟩
  ·unfold bM eff
   iterate 6 rw [if_neg (by omega)]
   rw [if_pos c]
   iterate 6 rw [if_neg (by omega)]
   rw [if_pos c]
   simp only [List.foldl_cons,List.foldl_nil,st6,st8,List.append_assoc,List.cons_append,List.nil_append,va0];rfl
  ·unfold bM
   iterate 6 rw [if_neg (by omega)]
   rw [if_pos c];rfl
end Go.TX.F
namespace Go.TX.F
open Go Go.AE Go.TX
def MSh (m:aA):Prop:=m.regs.length<1000000000/\m.mem.length<1000000000/\m.ins.length<1000000000/\m.outs.length<1000000000
abbrev m10 (m : aA) : Int × Int × Bool × Bool × Int × Int × List Int × List Int × List Int × List Int × Unit := (m.pc, m.save, m.bJ, m.waits, m.halt, m.count, m.regs, m.mem, m.ins, m.outs, ())
abbrev mB (m : aA) : Int × Int × Bool × Bool × Int × List Int × Int × List Int × List Int × List Int × Unit := (m.pc, m.save, m.bJ, m.waits, m.halt, m.ins, m.count, m.regs, m.mem, m.outs, ())
abbrev mR (x : aA × Bool) : Int × Int × Bool × Bool × Int × Int × Bool × List Int × List Int × List Int × List Int × Unit := (x.1.pc, x.1.save, x.1.bJ, x.1.waits, x.1.halt, x.1.count, x.2, x.1.regs, x.1.mem, x.1.ins, x.1.outs, ())
theorem MRB:(∀m:aA,kY .aB 0 .i64 m=m.regs)/\(∀m:aA,dW .aB 1 m=m.pc)/\(∀m:aA,kY .aB 2 .i64 m=m.mem)/\(∀m:aA,dW .aB 3 m=m.save)/\(∀m:aA,Va .aB 4 m=m.bJ)/\(∀m:aA,Va .aB 5 m=m.waits)/\(∀m:aA,dW .aB 6 m=m.halt)/\(∀m:aA,kY .aB 7 .i64 m=m.ins)/\(∀m:aA,kY .aB 8 .i64 m=m.outs)/\(∀m:aA,dW .aB 9 m=m.count):=
 ⟨λ_=>rfl,λ_=>rfl,λ_=>rfl,λ_=>rfl,λ_=>rfl,λ_=>rfl,λ_=>rfl,λ_=>rfl,λ_=>rfl,λ_=>rfl⟩
theorem tY {a b c:Int}:inB a b c=bp (b<=a/\a<=c):=by rw [tL];simp only [inB,AQ]
structure agT (pp:List Int×Unit->Bool) (ff:List Int×Unit->Bool×Unit):Prop where
 hp:∀l,l.length<1000000000->pp (l,())=true
 hf:∀l,l.length<1000000000->ff (l,())=(bp (Wos l),())
theorem aml {p1 f1 p2 f2 p3 f3} (U1:Y9 p1 f1) (U2:Y1 p2 f2) (U3:agT p3 f3) (m:aA) (h:MSh m):YB (std 0).al p1 f1 p2 f2 p3 f3 (m,()) (λy=>y=(bp (MOK m),())):=by
 obtain⟨a1,a2,a3,a4⟩:=h
 dsimp only [YB,Tup.q,Tup.o,Tup.e1]
 simp (disch:=omega) only [RR,MRB,U1.hp,U1.hf,U2.hp,U2.hf,U3.hp _ a1,U3.hf _ a1,U3.hp _ a2,U3.hf _ a2,U3.hp _ a3,U3.hf _ a3,U3.hp _ a4,U3.hf _ a4,tY,AQ]
 simp only [<-tL]
 refine Prod.ext (tN ⟨λh=> ?_,λh=> ?_⟩) rfl
 ·obtain⟨⟨⟨⟨⟨⟨⟨⟨⟨h1,h2⟩,h3⟩,h4⟩,h5⟩,h6⟩,h7⟩,h8⟩,h9⟩,h10⟩:=h
  exact⟨by omega,h3,by omega,h4,h5,h6,h7,h8,h9,h10⟩
 ·exact⟨⟨⟨⟨⟨⟨⟨⟨⟨by have:=h.r4;omega,by have:=h.m64;omega⟩,h.rw⟩,h.mw⟩,h.pc⟩,h.sv⟩,h.iw⟩,h.ow⟩,h.ha⟩,h.ct⟩
theorem amm {p1:List Int×Unit->Bool} {f1:List Int×Unit->List Int×Unit} (hp1:∀l,l.length<=1073741824->p1 (l,())=true) (hf1:∀l,l.length<=1073741824->f1 (l,())=(l,())) (m:aA) (h:MSh m):YD (std 0).al p1 f1 (m,()) (λy=>y=m10 m):=by
 obtain⟨a1,a2,a3,a4⟩:=h
 dsimp only [YD,Tup.q,Tup.o,Tup.e1]
 simp (disch:=omega) only [RR,MRB,hp1 m.regs (by omega),hf1 m.regs (by omega),hp1 m.mem (by omega),hf1 m.mem (by omega),hp1 m.ins (by omega),hf1 m.ins (by omega),hp1 m.outs (by omega),hf1 m.outs (by omega)]
theorem adJ (pc sv:Int) (lt wt:Bool) (ha:Int) (ins:List Int) (ct:Int) (regs mem outs:List Int) (h:ins.length<1000000000):YG (std 0).al (pc,sv,lt,wt,ha,ins,ct,regs,mem,outs,()) (λy=>y=(ins.getD 0 default,pc,sv,lt,wt,ha,ins.drop 1,ct,regs,mem,outs,())):=by
 dsimp only [YG,Tup.q,Tup.o,Tup.e1,Tup.e4,Tup.e10]
 simp (disch:=omega) only [RR]
 refine⟨λe=> ?_,λe=> ?_⟩
 ·have:ins=[]:=List.eq_nil_of_length_eq_zero (by omega)
  subst this;rfl
 ·exact⟨by omega,by omega,by omega,by omega,by omega,by rw [List.take_of_length_le (by omega)];rfl⟩
theorem amn {p1 f1} (U1:Y32 p1 f1) (a b:aA) (h:MSh a):Ze (std 0).al p1 f1 (a,b,()) (λy=>y=(bp (a=b),())):=by
 obtain⟨a1,a2,a3,a4⟩:=h
 dsimp only [Ze,Tup.q,Tup.o,Tup.e1]
 simp (disch:=omega) only [RR,MRB,U1.hp _ b.regs a1,U1.hf _ b.regs a1,U1.hp _ b.mem a2,U1.hf _ b.mem a2,U1.hp _ b.ins a3,U1.hf _ b.ins a3,U1.hp _ b.outs a4,U1.hf _ b.outs a4,AQ]
 refine Prod.ext ?_ rfl
 have eb:∀x y:Bool,(x==y)=bp (x=y):=λx y=>by cases x<;>cases y<;>simp [bp]
 simp only [eb,<-tL]
 refine tN ?_
 cases a;cases b;simp only [aA.mk.injEq]
 constructor<;>(intro h;simp only [h,and_self])
end Go.TX.F
namespace Go.TX.F
open Go Go.AE Go.TX
theorem Wos.set {l:List Int} (h:Wos l) {n:Int} (w:Wo n) (i:Nat):Wos (l.set i n):=λx hx=>(List.mem_or_eq_of_mem_set hx).elim (h x) (λe=>e▸w)
theorem Wos.drop {l:List Int} (h:Wos l) (i:Nat):Wos (l.drop i):=λx hx=>h x (List.mem_of_mem_drop hx)
theorem Wos.snoc {l:List Int} (h:Wos l) {n:Int} (w:Wo n):Wos (l++ [n]):=λx hx=>by
 rw [List.mem_append,List.mem_singleton]at hx
 exact hx.elim (h x) (λe=>e▸w)
theorem wo0:Wo 0:=⟨by decide,by decide⟩
theorem aae {s:MS} (h:Wos s.vals) (o:IOp):Wo (vx s o):=by
 unfold vx;split
 ·exact h.at _
 ·exact wo0
theorem adK {s:MS} (h:Wos s.vals) (o:IOp):Wo (vy s o):=by
 unfold vy;split
 ·exact h.at _
 ·exact wo0
theorem Wos.hd {l:List Int} (h:Wos l):Wo (l.getD 0 default):=h.at 0
theorem amo {s:MS} {o:IOp} (h:Wos s.vals) (k:MOK s.m) (k1:o.kind=1->0<=o.k/\o.k<=65535):Wo (mV s o):=by
 unfold mV
 split
 ·exact k1 ‹_›
 split
 ·exact k.rw.at _
 split
 ·exact SH _ _ _
 split
 ·exact k.mw.at _
 split
 ·exact k.iw.hd
 ·exact wo0
theorem amq {s:MS} (h:Wos s.vals) (k:MOK s.m) (o:IOp):MOK (mM s o):=by
 unfold mM
 split
 ·exact {k with m64:=by rw [List.length_set];exact k.m64,mw:=k.mw.set (adK h o) _}
 split
 ·exact {k with iw:=k.iw.drop 1}
 split
 ·exact {k with ow:=k.ow.snoc (aae h o)}
 split
 ·exact {k with r4:=by rw [List.length_set];exact k.r4,rw:=k.rw.set (aae h o) _}
 ·exact k
theorem aaf (s:MS) (o:IOp):(mM s o).ins.length<=s.m.ins.length/\(mM s o).outs.length<=s.m.outs.length+1/\(mM s o).regs.length=s.m.regs.length/\(mM s o).mem.length=s.m.mem.length:=by
 unfold mM
 split
 ·exact⟨Nat.le_refl _,Nat.le_succ _,rfl,List.length_set⟩
 split
 ·exact⟨by rw [List.length_drop];omega,Nat.le_succ _,rfl,rfl⟩
 split
 ·exact⟨Nat.le_refl _,by rw [List.length_append];exact Nat.le_refl _,rfl,rfl⟩
 split
 ·exact⟨Nat.le_refl _,Nat.le_succ _,List.length_set,rfl⟩
 ·exact⟨Nat.le_refl _,Nat.le_succ _,rfl,rfl⟩
theorem amr (b:Blk) (s:MS) (o:IOp):(aT b s o).m.ins.length<=s.m.ins.length/\(aT b s o).m.outs.length<=s.m.outs.length+1/\(aT b s o).m.regs.length=s.m.regs.length/\(aT b s o).m.mem.length=s.m.mem.length:=by
 unfold aT
 split
 ·exact⟨Nat.le_refl _,Nat.le_succ _,rfl,rfl⟩
 split
 ·exact⟨Nat.le_refl _,Nat.le_succ _,rfl,rfl⟩
 split
 ·exact aaf s o
 ·exact aaf s o
theorem Tm (b:Blk):∀(l:List IOp) (s:MS),(l.foldl (aT b) s).m.ins.length<=s.m.ins.length/\(l.foldl (aT b) s).m.outs.length<=s.m.outs.length+l.length/\(l.foldl (aT b) s).m.regs.length=s.m.regs.length/\(l.foldl (aT b) s).m.mem.length=s.m.mem.length
 | [],s=>⟨Nat.le_refl _,Nat.le_refl _,rfl,rfl⟩
 | o::l,s=>by
  rw [List.foldl_cons]
  have h:=Tm b l (aT b s o)
  have k:=amr b s o
  simp only [List.length_cons]
  exact⟨by omega,by omega,by omega,by omega⟩
theorem Tn {b:Blk} {m:aA} (hb:d9 b) (hs:MSh m) (ho:m.outs.length<900000000):MSh (zw b (b.ops.foldl (aT b) ⟨m,[],false⟩)):=by
 have h:=Tm b b.ops ⟨m,[],false⟩
 have sz:=hb.sz
 obtain⟨s1,s2,s3,s4⟩:=hs
 dsimp only at h
 unfold zw
 split<;>refine⟨?_,?_,?_,?_⟩<;>(try dsimp only)<;>omega
def SM (b:Blk) (m0:aA) (i:Nat):MS:=(b.ops.take i).foldl (aT b) ⟨m0,[],false⟩
structure RJ (b:Blk) (m0:aA) (i:Nat) (S:MS):Prop where
 e:S=SM b m0 i
 lf:S.left=false
 ln:S.vals.length=i
 wv:Wos S.vals
 ok:MOK S.m
 li:S.m.ins.length<1000000000
 lo:S.m.outs.length<=m0.outs.length+i
theorem Tp {b:Blk} {m0:aA} {i:Nat} (hi:i<b.ops.length):SM b m0 (i+1)=aT b (SM b m0 i) (b.ops.getD i default):=by
 unfold SM;rw [List.take_succ_eq_append_getElem hi,List.foldl_append,getD_lt hi];rfl
theorem acD {b:Blk} {m0:aA} {i:Nat} {m:aA} {v:List Int} (h:SM b m0 i=⟨m,v,true⟩):b.ops.foldl (aT b) ⟨m0,[],false⟩=⟨m,v,true⟩:=by
 conv=>lhs;rw [<-List.take_append_drop i b.ops]
 rw [List.foldl_append,show(b.ops.take i).foldl (aT b) ⟨m0,[],false⟩=_ from h];exact Jw b m v _
theorem RJ.next {b:Blk} {m0:aA} {i:Nat} {S:MS} {o:IOp} (h:RJ b m0 i S) (hi:i<b.ops.length) (ho:b.ops.getD i default=o) (k1:o.kind=1->0<=o.k/\o.k<=65535)
  (c1:¬((o.kind=4\/o.kind=5)/\64<=vx S o)) (c2:¬(o.kind=5/\b.pc+o.at_+1<=vx S o/\vx S o<=b.pc+b.len-1)):RJ b m0 (i+1) ⟨mM S o,S.vals++ [mV S o],false⟩:=by
 have l:=aaf S o
 refine⟨?_,rfl,by rw [List.length_append,h.ln];rfl,h.wv.snoc (amo h.wv h.ok k1),amq h.wv h.ok o,by have:=h.li;dsimp only;omega,by have:=h.lo;dsimp only;omega⟩
 rw [Tp hi,<-h.e,ho]
 unfold aT
 rw [if_neg (by rw [h.lf];decide),if_neg c1,if_neg c2]
theorem agU {l:List Int} {i n:Nat} (hl:l.length=i) (hi:i<n) (v:Int):(l++List.replicate (n-i) 0).set i v=(l++ [v])++List.replicate (n- (i+1)) 0:=by
 rw [List.set_append_right _ _ (by omega),hl,Nat.sub_self,show n-i=(n- (i+1))+1 by omega,List.replicate_succ,List.set_cons_zero,List.append_assoc];rfl
theorem acE {l:List Int} {i n:Nat} (hi:i<n):l++List.replicate (n-i) 0=(l++ [0])++List.replicate (n- (i+1)) 0:=by
 rw [show n-i=(n- (i+1))+1 by omega,List.replicate_succ,List.append_assoc];rfl
theorem ams {l:List Int} {i n:Nat} {x:Int} (hl:l.length=i) (h0:0<=x) (h:x<i):((l++List.replicate (n-i) 0).getD (x).toNat default)=((l).getD (x).toNat default):=by
 rw [List.getD_eq_getElem?_getD,List.getElem?_append_left (by omega),<-List.getD_eq_getElem?_getD]
theorem agV {l:List Int} {i n:Nat} (hl:l.length=i) (h:i<=n):(l++List.replicate (n-i) 0).length=n:=by
 rw [List.length_append,List.length_replicate];omega
end Go.TX.F
namespace Go.TX.F
open Go Go.AE Go.TX
theorem QS (a b:Int):AX 1 a b=(inB a 0 65535&&inB b 0 65535&&decide (a=b)):=by unfold AX;simp
theorem QT (a b:Int):AX 2 a b=(inB a 0 65535&&inB b 0 65535&&decide (a<b)):=by unfold AX;simp
def RT (b:Blk) (m0:aA) (y:List IOp×Int×Int×Int×Int×Bool×Bool×Int×List Int×Int×List Int×List Int×Blk×List Int×List Int×Unit):Prop:=
 ∃(i:Nat) (S:MS),i<=b.ops.length/\RJ b m0 i S/\y=(b.ops,(b.ops.length:Int),(i:Int),S.m.pc,S.m.save,S.m.bJ,S.m.waits,S.m.halt,S.m.ins,S.m.count,S.m.regs,S.m.mem,b,S.vals++List.replicate (b.ops.length-i) 0,S.m.outs,())
theorem RT.next {b:Blk} {m0:aA} {i:Nat} {S:MS} {o:IOp} {y:List IOp×Int×Int×Int×Int×Bool×Bool×Int×List Int×Int×List Int×List Int×Blk×List Int×List Int×Unit} (h:RJ b m0 i S) (hi:i<b.ops.length) (ho:b.ops.getD i default=o) (k1:o.kind=1->0<=o.k/\o.k<=65535)
  (c1:¬((o.kind=4\/o.kind=5)/\64<=vx S o)) (c2:¬(o.kind=5/\b.pc+o.at_+1<=vx S o/\vx S o<=b.pc+b.len-1))
  (e:y=(b.ops,(b.ops.length:Int),(i:Int)+1,(mM S o).pc,(mM S o).save,(mM S o).bJ,(mM S o).waits,(mM S o).halt,(mM S o).ins,(mM S o).count,(mM S o).regs,(mM S o).mem,b,(S.vals++ [mV S o])++List.replicate (b.ops.length- (i+1)) 0,(mM S o).outs,())):
  RT b m0 y/\(b.ops.length-y.2.2.1).toNat< (b.ops.length- (i:Int)).toNat:=by
 subst e
 exact⟨⟨i+1,_,hi,h.next hi ho k1 c1 c2,rfl⟩,by dsimp only;omega⟩
structure amt (pp:Int×Int×Bool×Bool×Int×List Int×Int×List Int×List Int×List Int×Unit->Bool) (ff:Int×Int×Bool×Bool×Int×List Int×Int×List Int×List Int×List Int×Unit->Int×Int×Int×Bool×Bool×Int×List Int×Int×List Int×List Int×List Int×Unit):Prop where
 hp:∀(pc sv:Int) (lt wt:Bool) (ha:Int) (ins:List Int) (ct:Int) (regs mem outs:List Int),ins.length<1000000000->pp (pc,sv,lt,wt,ha,ins,ct,regs,mem,outs,())=true
 hf:∀(pc sv:Int) (lt wt:Bool) (ha:Int) (ins:List Int) (ct:Int) (regs mem outs:List Int),ins.length<1000000000->ff (pc,sv,lt,wt,ha,ins,ct,regs,mem,outs,())=(ins.getD 0 default,pc,sv,lt,wt,ha,ins.drop 1,ct,regs,mem,outs,())
set_option maxHeartbeats 2000000 in
theorem amu {p1 f1 p2 f2 p3 f3 p4 f4} (U1:amt p1 f1) (U2:Y24 p2 f2) (U3:Y58 p3 f3) (U4:Y1 p4 f4) (b:Blk) (m:aA) (hb:d9 b) (hm:MOK m) (hs:MSh m) (ho:m.outs.length<900000000):YI (std 0).al p1 f1 p2 f2 p3 f3 p4 f4 (b,m.pc,m.save,m.bJ,m.waits,m.halt,m.ins,m.count,m.regs,m.mem,m.outs,()) (λy=>y=mB (zw b (b.ops.foldl (aT b) ⟨m,[],false⟩))):=by
 obtain⟨hp1,hf1⟩:=U1
 obtain⟨hp2,hf2⟩:=U2
 obtain⟨hp3,hf3⟩:=U3
 obtain⟨hp4,hf4⟩:=U4
 have sz:=hb.sz
 dsimp only [YI,Tup.q,Tup.o,Tup.e1,Tup.e10,Tup.e12,Tup.e15]
 simp (disch:=omega) only [RR,RB]
 refine⟨by omega,by omega,aG (RT b m) (λy=>(b.ops.length-y.2.2.1).toNat) ⟨0,⟨m,[],false⟩,Nat.zero_le _,⟨rfl,rfl,rfl,(by intro n hn;cases hn),hm,hs.2.2.1,Nat.le_add_right _ _⟩,rfl⟩ ?_⟩
 rintro y ⟨i,S,hi,R,rfl⟩
 dsimp only
 have ok:=R.ok
 have pw:0<=S.m.pc/\S.m.pc<=65535:=ok.pc
 have cw:=ok.ct
 have bl:=hb.ln
 have bp':=hb.pc
 have en:=hb.en
 by_cases h7:i<b.ops.length
 case neg=>
  have ei:i=b.ops.length:=by omega
  have eS:b.ops.foldl (aT b) ⟨m,[],false⟩=S:=by rw [R.e,ei];unfold SM;rw [List.take_of_length_le (Nat.le_refl _)]
  have vl:(S.vals++List.replicate (b.ops.length-i) 0)=S.vals:=by rw [ei,Nat.sub_self];simp
  have ln:=R.ln
  rw [eS]
  unfold zw
  rw [R.lf,if_neg (by decide)]
  rw [vl]
  have hf:=en.f
  have x1:=en.x1
  have y1:=en.y1
  unfold Vl at x1 y1
  have hh:¬((i:Int)<b.ops.length):=by omega
  rcases(by omega:b.fin=1\/b.fin=2\/b.fin=3\/b.fin=4)with f | f | f | f
  all_goals simp (disch:=omega) only [RR,RB,f,Int.reduceEq,Int.reduceSub,Int.reduceAdd,hp3,hf3,false_and,hh]
  ·have v:=x1 (by omega)
   exact⟨v.1,by omega,v.1,by omega⟩
  ·have v:=x1 (by omega)
   have w:=y1 (by omega)
   refine⟨v.1,by omega,v.1,by omega,w.1,by omega,w.1,by omega,λh=> ?_,λh=> ?_⟩
   ·rw [if_pos (by rw [QS,h.1.1,h.1.2,h.2];simp)]
   ·rw [if_neg (by rw [QS,h];decide)]
  ·have v:=x1 (by omega)
   have w:=y1 (by omega)
   refine⟨v.1,by omega,v.1,by omega,w.1,by omega,w.1,by omega,λh=> ?_,λh=> ?_⟩
   ·rw [if_pos (by rw [QT,h.1.1,h.1.2];simpa using h.2)]
   ·rw [if_neg (by rw [QT,h];decide)]
 have hop:=hb.op i (by omega) (by omega)
 have eT:((i:Int)).toNat=i:=rfl
 generalize hq:((b.ops).getD ((i:Int)).toNat default)=o at*
 rw [eT]at hq
 have kd:=hop.kd
 have x1:=hop.x1
 have y1:=hop.y1
 unfold Vl at x1 y1
 have k1:=hop.k1
 have k2:=hop.k2
 have k3:=hop.k3
 have a1:=hop.a1
 have a0:=hop.a0
 have ln:=R.ln
 have rl:=agV (n:=b.ops.length) ln hi
 have nx:=λ{y} c1 c2 e=>RT.next (y:=y) R h7 hq k1 c1 c2 e
 have vs:∀v:Int,(S.vals++List.replicate (b.ops.length-i) 0).set i v=(S.vals++ [v])++List.replicate (b.ops.length- (i+1)) 0:=λv=>agU ln h7 v
 have v0:(S.vals++List.replicate (b.ops.length-i) 0)=(S.vals++ [0])++List.replicate (b.ops.length- (i+1)) 0:=acE h7
 have va:∀x:Int,0<=x->x<i->((S.vals++List.replicate (b.ops.length-i) 0).getD (x).toNat default)=((S.vals).getD (x).toNat default):=λx a c=>ams ln a c
 have xb:0< (i:Int)->0<=o.x/\o.x<b.ops.length:=λ_=>by
  by_cases h:hX o
  ·have:=x1 h;omega
  ·have:=hop.x0 h;omega
 have yb:0< (i:Int)->0<=o.y/\o.y<b.ops.length:=λ_=>by
  by_cases h:hY o
  ·have:=y1 h;omega
  ·have:=hop.y0 h;omega
 have lv:∀mm:aA,aT b S o=⟨mm,S.vals,true⟩->b.ops.foldl (aT b) ⟨m,[],false⟩=⟨mm,S.vals,true⟩:=λmm h=>acD (i:=i+1) (by rw [Tp h7,<-R.e,hq];exact h)
 have m64:=ok.m64
 have r4:=ok.r4
 have lo:=R.lo
 have li:=R.li
 have i0:(0:Int)<=i:=by omega
 have i1:(i:Int)<b.ops.length:=by omega
 generalize hV:S.vals++List.replicate (b.ops.length-i) 0=V at*
 by_cases hz:0< (i:Int)
 case neg=>
  have nX:¬hX o:=λh=>by have:=x1 h;omega
  rcases(by omega:o.kind=1\/o.kind=2\/o.kind=6)with k | k | k
  ·simp (disch:=omega) only [RR,RB,hq,eT,hz,k,Int.reduceEq,false_and,decide_false,decide_true,Bool.or_false,Bool.false_or,Bool.false_and,Bool.true_and,Bool.true_or,Bool.or_true,or_self,rl,i0,i1]
   exact nx (λh=>by omega) (λh=>by omega) (by rw [vs];simp [mM,mV,k])
  ·have g:=k2 (Or.inl k)
   simp (disch:=omega) only [RR,RB,hq,eT,hz,k,Int.reduceEq,false_and,decide_false,decide_true,Bool.or_false,Bool.false_or,Bool.false_and,Bool.true_and,Bool.true_or,Bool.or_true,or_self,rl,i0,i1,r4]
   exact⟨g.1,by omega,g.1,by omega,nx (λh=>by omega) (λh=>by omega) (by rw [vs];simp [mM,mV,k])⟩
  ·simp (disch:=omega) only [RR,RB,hq,eT,hz,k,Int.reduceEq,false_and,decide_false,decide_true,Bool.or_false,Bool.false_or,Bool.false_and,Bool.true_and,Bool.true_or,Bool.or_true,or_self,rl,i0,i1,hp1 _ _ _ _ _ _ _ _ _ _ li,hf1 _ _ _ _ _ _ _ _ _ _ li]
   exact nx (λh=>by omega) (λh=>by omega) (by rw [vs];simp [mM,mV,k])
 obtain⟨xb0,xb1⟩:=xb hz
 obtain⟨yb0,yb1⟩:=yb hz
 have ex:hX o->((V).getD (o.x).toNat default)=vx S o:=λh=>by
  have:=x1 h
  unfold vx;rw [if_pos h];exact va o.x this.1 this.2.1
 have ey:hY o->((V).getD (o.y).toNat default)=vy S o:=λh=>by
  have:=y1 h
  unfold vy;rw [if_pos h];exact va o.y this.1 this.2.1
 have wx:=aae R.wv o
 have wy:=adK R.wv o
 generalize hX':((V).getD (o.x).toNat default)=X at*
 generalize hY':((V).getD (o.y).toNat default)=Y at*
 rcases(by omega:o.kind=1\/o.kind=2\/o.kind=3\/o.kind=4\/o.kind=5\/o.kind=6\/o.kind=7\/o.kind=8)with k | k | k | k | k | k | k | k
 ·simp (disch:=omega) only [RR,RB,hq,eT,hz,k,Int.reduceEq,false_and,decide_false,decide_true,Bool.or_false,Bool.false_or,Bool.false_and,Bool.true_and,Bool.true_or,Bool.or_true,or_self,rl,i0,i1,xb0,xb1,yb0,yb1,hX',hY']
  exact nx (λh=>by omega) (λh=>by omega) (by rw [vs];simp [mM,mV,k])
 ·have g:=k2 (Or.inl k)
  simp (disch:=omega) only [RR,RB,hq,eT,hz,k,Int.reduceEq,false_and,decide_false,decide_true,Bool.or_false,Bool.false_or,Bool.false_and,Bool.true_and,Bool.true_or,Bool.or_true,or_self,rl,i0,i1,xb0,xb1,yb0,yb1,hX',hY',r4]
  exact⟨g.1,by omega,g.1,by omega,nx (λh=>by omega) (λh=>by omega) (by rw [vs];simp [mM,mV,k])⟩
 ·have e1:=ex (by unfold hX;omega)
  have e2:=ey (Or.inl k)
  simp (disch:=omega) only [RR,RB,hq,eT,hz,k,Int.reduceEq,false_and,decide_false,decide_true,Bool.or_false,Bool.false_or,Bool.false_and,Bool.true_and,Bool.true_or,Bool.or_true,or_self,rl,i0,i1,xb0,xb1,yb0,yb1,hX',hY',hp2,hf2]
  exact nx (λh=>by omega) (λh=>by omega) (by rw [vs];simp [mM,mV,k,e1,e2])
 ·have e1:=ex (by unfold hX;omega)
  have g:=a1 (by unfold evO;omega)
  unfold Wo at wx
  simp (disch:=omega) only [RR,RB,hq,eT,hz,k,Int.reduceEq,false_and,decide_false,decide_true,Bool.or_false,Bool.false_or,Bool.false_and,Bool.true_and,Bool.true_or,Bool.or_true,or_self,rl,i0,i1,xb0,xb1,yb0,yb1,hX',hY',m64]
  refine⟨λh=> ?_,λh=> ?_⟩
  ·rw [lv (leave S.m o.at_ 3) (by unfold aT;rw [if_neg (by rw [R.lf];decide),if_pos ⟨Or.inl k,by omega⟩])]
   simp [zw,leave,mB]
  ·exact⟨by omega,by omega,by omega,by omega,nx (λh=>by omega) (λh=>by omega) (by rw [vs];simp [mM,mV,k,e1])⟩
 ·have e1:=ex (by unfold hX;omega)
  have e2:=ey (Or.inr k)
  have g:=a1 (by unfold evO;omega)
  unfold Wo at wx
  simp (disch:=omega) only [RR,RB,hq,eT,hz,k,Int.reduceEq,false_and,decide_false,decide_true,Bool.or_false,Bool.false_or,Bool.false_and,Bool.true_and,Bool.true_or,Bool.or_true,or_self,rl,i0,i1,xb0,xb1,yb0,yb1,hX',hY',m64,hp4,hf4,cZ,kN]
  refine⟨λh=> ?_,λh=>⟨by omega,by omega,by omega,by omega,λh2=> ?_,λh2=> ?_⟩⟩
  ·rw [lv (leave S.m o.at_ 3) (by unfold aT;rw [if_neg (by rw [R.lf];decide),if_pos ⟨Or.inr k,by omega⟩])]
   simp [zw,leave,mB]
  ·rw [lv (leave (mM S o) (o.at_+1) (mM S o).halt) (by unfold aT;rw [if_neg (by rw [R.lf];decide),if_neg (by omega),if_pos ⟨k,by omega⟩])]
   simp [zw,leave,mM,mB,k,e1,e2]
  ·exact nx (λh=>by omega) (λh=>by omega) (by rw [v0];simp [mM,mV,k,e1,e2])
 ·simp (disch:=omega) only [RR,RB,hq,eT,hz,k,Int.reduceEq,false_and,decide_false,decide_true,Bool.or_false,Bool.false_or,Bool.false_and,Bool.true_and,Bool.true_or,Bool.or_true,or_self,rl,i0,i1,xb0,xb1,yb0,yb1,hX',hY',hp1 _ _ _ _ _ _ _ _ _ _ li,hf1 _ _ _ _ _ _ _ _ _ _ li]
  exact nx (λh=>by omega) (λh=>by omega) (by rw [vs];simp [mM,mV,k])
 ·have e1:=ex (by unfold hX;omega)
  simp (disch:=omega) only [RR,RB,hq,eT,hz,k,Int.reduceEq,false_and,decide_false,decide_true,Bool.or_false,Bool.false_or,Bool.false_and,Bool.true_and,Bool.true_or,Bool.or_true,or_self,rl,i0,i1,xb0,xb1,yb0,yb1,hX',hY',List.length_cons,List.length_nil]
  exact⟨by omega,nx (λh=>by omega) (λh=>by omega) (by rw [v0];simp [mM,mV,k,e1])⟩
 ·have e1:=ex (by unfold hX;omega)
  have g:=k2 (Or.inr k)
  simp (disch:=omega) only [RR,RB,hq,eT,hz,k,Int.reduceEq,false_and,decide_false,decide_true,Bool.or_false,Bool.false_or,Bool.false_and,Bool.true_and,Bool.true_or,Bool.or_true,or_self,rl,i0,i1,xb0,xb1,yb0,yb1,hX',hY',r4]
  exact⟨g.1,by omega,g.1,by omega,nx (λh=>by omega) (λh=>by omega) (by rw [v0];simp [mM,mV,k,e1])⟩
structure acF (pp:aA×Unit->Bool) (ff:aA×Unit->Int×Int×Bool×Bool×Int×Int×List Int×List Int×List Int×List Int×Unit):Prop where
 hp:∀m,MSh m->pp (m,())=true
 hf:∀m,MSh m->ff (m,())=m10 m
structure aag (pp:aA×Unit->Bool) (ff:aA×Unit->Bool×Unit):Prop where
 hp:∀m,MSh m->pp (m,())=true
 hf:∀m,MSh m->ff (m,())=(bp (MOK m),())
theorem amv {p2 f2 p3 f3 p4 f4} {p1:Blk×Int×Int×Bool×Bool×Int×List Int×Int×List Int×List Int×List Int×Unit->Bool} {f1:Blk×Int×Int×Bool×Bool×Int×List Int×Int×List Int×List Int×List Int×Unit->Int×Int×Bool×Bool×Int×List Int×Int×List Int×List Int×List Int×Unit} (hp1:∀(b:Blk) (m:aA),d9 b->MOK m->MSh m->m.outs.length<900000000->p1 (b,m.pc,m.save,m.bJ,m.waits,m.halt,m.ins,m.count,m.regs,m.mem,m.outs,())=true) (hf1:∀(b:Blk) (m:aA),d9 b->MOK m->MSh m->m.outs.length<900000000->f1 (b,m.pc,m.save,m.bJ,m.waits,m.halt,m.ins,m.count,m.regs,m.mem,m.outs,())=mB (zw b (b.ops.foldl (aT b) ⟨m,[],false⟩))) (U2:Y59 p2 f2) (U3:acF p3 f3) (U4:aag p4 f4) (b:Blk) (m:aA) (hb:b.ops.length<1000000000) (hs:MSh m) (ho:m.outs.length<900000000):YP (std 0).al p1 f1 p2 f2 p3 f3 p4 f4 (b,m,()) (λy=>y=mR (dX b m)):=by
 obtain⟨hp2,hf2⟩:=U2
 obtain⟨hp3,hf3⟩:=U3
 obtain⟨hp4,hf4⟩:=U4
 have mM':∀m:aA,Co.mk .aB (m.regs,m.pc,m.mem,m.save,m.bJ,m.waits,m.halt,m.ins,m.outs,m.count,())=m:=λ_=>rfl
 unfold m10 at hf3
 unfold mB at hf1
 dsimp only [YP,Tup.q,Tup.o,Tup.e1,Tup.e4,RH]at*
 simp (disch:=omega) only [RR,RB,MRB,hp2 b hb,hf2 b hb,hp4 m hs,hf4 m hs,hp3 m hs,hf3 m hs]
 unfold dX
 by_cases c:d9 b/\MOK m
 case neg=>
  rw [dw c]
  by_cases c1:d9 b
  ·simp [bE c1,dw (λg=>c ⟨c1,g⟩),QO]
  ·simp [dw c1,QO]
 rw [bE c]
 obtain⟨c1,c2⟩:=c
 have bl:=c1.ln
 have sh:=Tn c1 hs ho
 simp (disch:=omega) only [RR,bE c1,bE c2,hp1 b m c1 c2 hs ho,hf1 b m c1 c2 hs ho,mM',hp3 _ sh,hf3 _ sh]
 refine⟨λh=> ?_,λh=> ?_⟩
 ·rw [if_pos (show m.halt≠0\/m.pc≠b.pc\/1000000-b.len<m.count from h.elim (λg=>g.elim Or.inl λk=>Or.inr (Or.inl k)) λk=>Or.inr (Or.inr k))]
 ·rw [if_neg (show¬(m.halt≠0\/m.pc≠b.pc\/1000000-b.len<m.count)from λg=>g.elim (λk=>k h.1.1) λg=>g.elim (λk=>k h.1.2) λk=>h.2 k)]
end Go.TX.F
namespace Go.TX.F
open Go Go.AE Go.TX
theorem amw {n:Int} (h0:0<=n) (h1:n<=15):(sJ.getD n.toNat default).d=decide (n≠0/\n≠13)/\(sJ.getD n.toNat default).a=decide (n≠0/\n≠1/\n≠14/\n≠15)/\
  (sJ.getD n.toNat default).most=(if n=0 then 3 else if n=1 then 255 else if n=2 then 0 else if n<=7 then 3 else if n=8 then 15 else if n<=12 then 255 else 0):=by
 rcases(by omega:n=0\/n=1\/n=2\/n=3\/n=4\/n=5\/n=6\/n=7\/n=8\/n=9\/n=10\/n=11\/n=12\/n=13\/n=14\/n=15)with h | h | h | h | h | h | h | h | h | h | h | h | h | h | h | h<;>subst h<;>exact⟨rfl,rfl,rfl⟩
theorem agW:(sJ.length:Int)=16:=rfl
theorem aqd {p1 f1 p2 f2} (U1:Y1 p1 f1) (U2:Y17 p2 f2) (i:Ins):afN (std 0).al p1 f1 p2 f2 (i,()) (λy=>y=(bp (bF i),())):=by
 have RI':(∀i:Ins,dW .ins 0 i=i.op)/\(∀i:Ins,dW .ins 1 i=i.d)/\(∀i:Ins,dW .ins 2 i=i.a)/\(∀i:Ins,dW .ins 3 i=i.k)/\(∀f:Form,Va .form 0 f=f.d)/\(∀f:Form,Va .form 1 f=f.a)/\(∀f:Form,dW .form 2 f=f.most):=⟨λ_=>rfl,λ_=>rfl,λ_=>rfl,λ_=>rfl,λ_=>rfl,λ_=>rfl,λ_=>rfl⟩
 have gl:RV .form=sJ:=rfl
 dsimp only [afN,Tup.q,Tup.o,Tup.e1]
 simp (disch:=omega) only [RR,RI',U1.hp,U1.hf,U2.hp,U2.hf,gl,agW,cZ,kN]
 refine⟨λh=>by rw [dw (λg=>h ⟨g.1.1,g.1.2⟩)],λh=> ?_⟩
 obtain⟨f1',f2',f3'⟩:=amw h.1 h.2
 rw [f1',f2',f3']
 refine⟨h.1,by omega,Prod.ext ?_ rfl⟩
 simp only [tY,AQ]
 have ob:∀P Q:Prop,(bp P || bp Q)=bp (P\/Q):=λP Q=>by by_cases h1:P<;>by_cases h2:Q<;>simp [bp,h1,h2]
 simp only [ob,<-tL]
 refine tN ?_
 unfold bF
 obtain⟨g0,g1⟩:=h
 rcases(by omega:i.op=0\/i.op=1\/i.op=2\/(3<=i.op/\i.op<=7)\/i.op=8\/(9<=i.op/\i.op<=12)\/i.op=13\/i.op=14\/i.op=15)with h | h | h | h | h | h | h | h | h
 all_goals (constructor<;>intro g<;>(repeat' split at g)<;>(repeat' split)<;>omega)
theorem aqe {p1 f1} (U1:Y1 p1 f1) (a:Int):afO (std 0).al p1 f1 (a,()) (λy=>y=(inB a 11 13,())):=by
 dsimp only [afO,Tup.q,Tup.o,Tup.e1]
 simp (disch:=omega) only [RR,U1.hp,U1.hf]
structure agX (pp:Int×Unit->Bool) (ff:Int×Unit->Bool×Unit):Prop where
 hp:∀a,pp (a,())=true
 hf:∀a,ff (a,())=(inB a 11 13,())
structure QU (pp:Ins×Unit->Bool) (ff:Ins×Unit->Bool×Unit):Prop where
 hp:∀i,pp (i,())=true
 hf:∀i,ff (i,())=(bp (bF i),())
theorem aqf {p1 f1 p2 f2 p3 f3} (U1:agX p1 f1) (U2:QU p2 f2) (U3:Y1 p3 f3) (pc:Int) (l:List Ins) (hl:l.length<1000000000):afP (std 0).al p1 f1 p2 f2 p3 f3 (pc,l,()) (λy=>y=(bp (mP pc l),())):=by
 have io:∀i:Ins,dW .ins 0 i=i.op:=λ_=>rfl
 dsimp only [afP,Tup.q,Tup.o,Tup.e1]
 simp (disch:=omega) only [RR,io,U1.hp,U1.hf,U2.hp,U2.hf,U3.hp,U3.hf,cZ,kN]
 refine⟨λh=> ?_,λh=> ?_⟩
 ·rw [dw]
  intro g
  have a:=g.ln
  have c:=g.pc
  omega
 refine aG (λ(y:List Ins×List Ins×Int×Int×Unit)=>y.1=l/\y.2.1=l/\y.2.2.1=l.length/\0<=y.2.2.2.1/\y.2.2.2.1<=l.length/\∀j:Nat,j<y.2.2.2.1->bF (l.getD j default)/\(l.getD j default).op≠0/\(11<=(l.getD j default).op/\(l.getD j default).op<=13->j+1=l.length)) (λy=>(l.length-y.2.2.2.1).toNat) ⟨rfl,rfl,rfl,by simp,by simp,λj hj=>absurd hj (by dsimp only;omega)⟩ ?_
 rintro⟨(l1:List Ins),(l2:List Ins),(n:Int),(i:Int),⟨⟩⟩ hI
 dsimp only at hI ⊢
 obtain⟨rfl,rfl,rfl,h1,h2,h3⟩:=hI
 simp (disch:=omega) only [RR,io,U1.hp,U1.hf,U2.hp,U2.hf,cZ,kN,cO,NJ]
 refine⟨λg=>⟨h1,g,λe=> ?_,λe=>⟨⟨by omega,by omega,λj hj=> ?_⟩,by omega⟩⟩,λg=> ?_⟩
 ·rw [dw]
  intro v
  have:=v.ok i.toNat (by omega)
  rcases e with(e | e) | e
  ·exact e this.1
  ·exact this.2.1 e
  ·have:=this.2.2 e.1;omega
 ·by_cases c:j<i
  ·exact h3 j c
  ·have ej:j=i.toNat:=by omega
   subst ej
   obtain⟨⟨e1,e2⟩,e3⟩:=e
   refine⟨e1,e2,λq=> ?_⟩
   rw [cZ.2 q,Bool.true_and]at e3
   have:=of_decide_eq_false e3
   omega
 ·rw [bE]
  exact⟨by omega,by omega,λj hj=>h3 j (by omega)⟩
theorem adL {p1 f1} (U1:Y60 p1 f1) (kd x y k a1 a2 a3 a4 a5 a6 a:Int) (ops:List IOp) (h:ops.length<1000000):YX (std 0).al p1 f1 (kd,x,y,k,a1,a2,a3,a4,a5,a6,a,ops,()) (λy'=>y'=((ops.length:Int),a1,a2,a3,a4,a5,a6,a,ops++ [⟨kd,x,y,k,if 4<=kd/\kd<=7 then a else 0⟩],())):=by
 have mk:∀a b c d e:Int,Co.mk .iop (a,b,c,d,e,())=⟨a,b,c,d,e⟩:=λ_ _ _ _ _=>rfl
 dsimp only [YX,Tup.q,Tup.o,Tup.e1,Tup.e5]
 simp (disch:=omega) only [RR,mk,U1.hp,U1.hf,evO,List.length_cons,List.length_nil,List.length_append]
 refine⟨λc=>⟨by omega,?_⟩,λc=>⟨by omega,?_⟩⟩
 ·rw [if_pos c,show((ops.length+(0+1):Nat):Int)-1=ops.length by omega]
 ·rw [if_neg c,show((ops.length+(0+1):Nat):Int)-1=ops.length by omega]
structure aah (pp:Int×Int×Int×Int×Int×Int×Int×Int×Int×Int×Int×List IOp×Unit->Bool) (ff:Int×Int×Int×Int×Int×Int×Int×Int×Int×Int×Int×List IOp×Unit->Int×Int×Int×Int×Int×Int×Int×Int×List IOp×Unit):Prop where
 hp:∀(kd x y k a1 a2 a3 a4 a5 a6 a:Int) (ops:List IOp),ops.length<1000000->pp (kd,x,y,k,a1,a2,a3,a4,a5,a6,a,ops,())=true
 hf:∀(kd x y k a1 a2 a3 a4 a5 a6 a:Int) (ops:List IOp),ops.length<1000000->ff (kd,x,y,k,a1,a2,a3,a4,a5,a6,a,ops,())=((ops.length:Int),a1,a2,a3,a4,a5,a6,a,ops++ [⟨kd,x,y,k,if 4<=kd/\kd<=7 then a else 0⟩],())
theorem adM {p1 f1} (U1:aah p1 f1) (k a1 a2 a3 a4 a5 a6 a:Int) (ops:List IOp) (h:ops.length<1000000):Y0 (std 0).al p1 f1 (k,a1,a2,a3,a4,a5,a6,a,ops,()) (λy=>y=((ops.length:Int),a1,a2,a3,a4,a5,a6,a,ops++ [⟨1,0,0,k,0⟩],())):=by
 dsimp only [Y0,Tup.q,Tup.o,Tup.e8,Tup.e9]
 simp (disch:=omega) only [RR,U1.hp 1 0 0 k a1 a2 a3 a4 a5 a6 a ops h,U1.hf 1 0 0 k a1 a2 a3 a4 a5 a6 a ops h]
 rfl
theorem adN {p1 f1} (U1:aah p1 f1) (k a1 a2 a3 a4 a5 a6 a:Int) (ops:List IOp) (h:ops.length<1000000):Za (std 0).al p1 f1 (k,a1,a2,a3,a4,a5,a6,a,ops,()) (λy=>y=((ops.length:Int),a1,a2,a3,a4,a5,a6,a,ops++ [⟨2,0,0,k,0⟩],())):=by
 dsimp only [Za,Tup.q,Tup.o,Tup.e8,Tup.e9]
 simp (disch:=omega) only [RR,U1.hp 2 0 0 k a1 a2 a3 a4 a5 a6 a ops h,U1.hf 2 0 0 k a1 a2 a3 a4 a5 a6 a ops h]
 rfl
theorem adO {p1 f1} (U1:aah p1 f1) (op x y a1 a2 a3 a4 a5 a6 a:Int) (ops:List IOp) (h:ops.length<1000000):Zb (std 0).al p1 f1 (op,x,y,a1,a2,a3,a4,a5,a6,a,ops,()) (λz=>z=((ops.length:Int),a1,a2,a3,a4,a5,a6,a,ops++ [⟨3,x,y,op,0⟩],())):=by
 dsimp only [Zb,Tup.q,Tup.o,Tup.e8]
 simp (disch:=omega) only [RR,U1.hp 3 x y op a1 a2 a3 a4 a5 a6 a ops h,U1.hf 3 x y op a1 a2 a3 a4 a5 a6 a ops h]
 rfl
theorem amx {p1 f1} (U1:aah p1 f1) (v:Int) (i:Ins) (a1 a2 a3 a4 a5 a6 a:Int) (ops:List IOp) (h:ops.length<1000000):YZ (std 0).al p1 f1 (v,i,a1,a2,a3,a4,a5,a6,a,ops,()) (λy=>y=(i,a1,a2,a3,a4,a5,a6,a,ops++ [⟨8,v,0,i.d,0⟩],())):=by
 have io:dW .ins 1 i=i.d:=rfl
 dsimp only [YZ,Tup.q,Tup.o,Tup.e8]
 simp (disch:=omega) only [RR,io,U1.hp 8 v 0 i.d a1 a2 a3 a4 a5 a6 a ops h,U1.hf 8 v 0 i.d a1 a2 a3 a4 a5 a6 a ops h]
 rfl
theorem acG {k:Int} (h0:0<=k) (h1:k<=15):fZ .shl .i64 1 k=2^k.toNat:=by
 have p:=F3 h0 h1
 unfold Wo at p
 show IntKind.i64.wrap (1*2^ (min k.toNat 64))=_
 rw [Nat.min_eq_left (by omega),Int.one_mul,w64 (by omega) (by omega)]
set_option maxHeartbeats 1000000 in
theorem amy {p4 f4} {p1:Int×Int×Int×Int×Int×Int×Int×Int×Int×Int×List IOp×Unit->Bool} {f1:Int×Int×Int×Int×Int×Int×Int×Int×Int×Int×List IOp×Unit->Int×Int×Int×Int×Int×Int×Int×Int×List IOp×Unit} (hp1:∀(op x y a1 a2 a3 a4 a5 a6 a:Int) (ops:List IOp),ops.length<1000000->p1 (op,x,y,a1,a2,a3,a4,a5,a6,a,ops,())=true) (hf1:∀(op x y a1 a2 a3 a4 a5 a6 a:Int) (ops:List IOp),ops.length<1000000->f1 (op,x,y,a1,a2,a3,a4,a5,a6,a,ops,())=((ops.length:Int),a1,a2,a3,a4,a5,a6,a,ops++ [⟨3,x,y,op,0⟩],())) {p2:Int×Int×Int×Int×Int×Int×Int×Int×List IOp×Unit->Bool} {f2:Int×Int×Int×Int×Int×Int×Int×Int×List IOp×Unit->Int×Int×Int×Int×Int×Int×Int×Int×List IOp×Unit} (hp2:∀(k a1 a2 a3 a4 a5 a6 a:Int) (ops:List IOp),ops.length<1000000->p2 (k,a1,a2,a3,a4,a5,a6,a,ops,())=true) (hf2:∀(k a1 a2 a3 a4 a5 a6 a:Int) (ops:List IOp),ops.length<1000000->f2 (k,a1,a2,a3,a4,a5,a6,a,ops,())=((ops.length:Int),a1,a2,a3,a4,a5,a6,a,ops++ [⟨2,0,0,k,0⟩],())) {p3:Int×Ins×Int×Int×Int×Int×Int×Int×Int×List IOp×Unit->Bool} {f3:Int×Ins×Int×Int×Int×Int×Int×Int×Int×List IOp×Unit->Ins×Int×Int×Int×Int×Int×Int×Int×List IOp×Unit} (hp3:∀(v:Int) (i:Ins) (a1 a2 a3 a4 a5 a6 a:Int) (ops:List IOp),ops.length<1000000->p3 (v,i,a1,a2,a3,a4,a5,a6,a,ops,())=true) (hf3:∀(v:Int) (i:Ins) (a1 a2 a3 a4 a5 a6 a:Int) (ops:List IOp),ops.length<1000000->f3 (v,i,a1,a2,a3,a4,a5,a6,a,ops,())=(i,a1,a2,a3,a4,a5,a6,a,ops++ [⟨8,v,0,i.d,0⟩],())) (U4:aah p4 f4) {p5:Int×Int×Int×Int×Int×Int×Int×Int×List IOp×Unit->Bool} {f5:Int×Int×Int×Int×Int×Int×Int×Int×List IOp×Unit->Int×Int×Int×Int×Int×Int×Int×Int×List IOp×Unit} (hp5:∀(k a1 a2 a3 a4 a5 a6 a:Int) (ops:List IOp),ops.length<1000000->p5 (k,a1,a2,a3,a4,a5,a6,a,ops,())=true) (hf5:∀(k a1 a2 a3 a4 a5 a6 a:Int) (ops:List IOp),ops.length<1000000->f5 (k,a1,a2,a3,a4,a5,a6,a,ops,())=((ops.length:Int),a1,a2,a3,a4,a5,a6,a,ops++ [⟨1,0,0,k,0⟩],())) (i:Ins) (B:Blk) (a:Int) (h:B.ops.length<900000) (h8:i.op=8->0<=i.k/\i.k<=15) (h0:0<=i.op/\i.op<=15):Zc (std 0).al p1 f1 p2 f2 p3 f3 p4 f4 p5 f5 (i,B.pc,B.len,B.fin,B.x,B.y,B.k,a,B.ops,()) (λy=>y=((bW a B i).pc,(bW a B i).len,(bW a B i).fin,(bW a B i).x,(bW a B i).y,(bW a B i).k,a,(bW a B i).ops,())):=by
 have io:(∀i:Ins,dW .ins 0 i=i.op)/\(∀i:Ins,dW .ins 1 i=i.d)/\(∀i:Ins,dW .ins 2 i=i.a)/\(∀i:Ins,dW .ins 3 i=i.k):=⟨λ_=>rfl,λ_=>rfl,λ_=>rfl,λ_=>rfl⟩
 have a2:∀n:Int,n+1+1=n+2:=λn=>by omega
 have a3:∀n:Int,n+2+1=n+3:=λn=>by omega
 have a4:∀n:Int,n-3+1=n-2:=λn=>by omega
 obtain⟨h00,h01⟩:=h0
 have n1:∀(l:List IOp) (o:IOp),((l++ [o]).length:Int)=l.length+1:=λl o=>by rw [List.length_append];rfl
 have m1:∀(l:List IOp) (o:IOp),l.length<990000->(l++ [o]).length<1000000:=λl o h=>by rw [List.length_append];simp only [List.length_cons,List.length_nil];omega
 have m2:∀(l:List IOp) (o o2:IOp),l.length<990000->((l++ [o])++ [o2]).length<1000000:=λl o o2 h=>by simp only [List.length_append,List.length_cons,List.length_nil];omega
 have m3:∀(l:List IOp) (o o2 o3:IOp),l.length<990000->(((l++ [o])++ [o2])++ [o3]).length<1000000:=λl o o2 o3 h=>by simp only [List.length_append,List.length_cons,List.length_nil];omega
 have m4:∀(l:List IOp) (o o2 o3 o4:IOp),l.length<990000->((((l++ [o])++ [o2])++ [o3])++ [o4]).length<1000000:=λl o o2 o3 o4 h=>by simp only [List.length_append,List.length_cons,List.length_nil];omega
 dsimp only [Zc,Tup.q,Tup.o,Tup.e3,Tup.e4,Tup.e8,Tup.e9]
 unfold bW bM
 by_cases e1:i.op=1
 ·simp (disch:=first | omega | (apply m1;omega) | (apply m2;omega) | (apply m3;omega) | (apply m4;omega)) only [RR,io,e1,hp1,hf1,hp2,hf2,hp3,hf3,U4.hp,U4.hf,hp5,hf5,n1,Int.reduceEq,Int.reduceAdd,Int.reduceSub,Int.reduceLE,or_self,true_and,and_true,and_self,false_and,and_false]
  try simp [a2,a3]
 by_cases e2:i.op=2
 ·simp (disch:=first | omega | (apply m1;omega) | (apply m2;omega) | (apply m3;omega) | (apply m4;omega)) only [RR,io,e2,hp1,hf1,hp2,hf2,hp3,hf3,U4.hp,U4.hf,hp5,hf5,n1,Int.reduceEq,Int.reduceAdd,Int.reduceSub,Int.reduceLE,or_self,true_and,and_true,and_self,false_and,and_false]
  try simp [a2,a3]
 by_cases e8:i.op=8
 ·simp (disch:=first | omega | (apply m1;omega) | (apply m2;omega) | (apply m3;omega) | (apply m4;omega)) only [RR,io,e8,hp1,hf1,hp2,hf2,hp3,hf3,U4.hp,U4.hf,hp5,hf5,n1,Int.reduceEq,Int.reduceAdd,Int.reduceSub,Int.reduceLE,or_self,true_and,and_true,and_self,false_and,and_false,acG (h8 e8).1 (h8 e8).2,(h8 e8).1]
  try simp [a2,a3]
 by_cases e9:i.op=9
 ·simp (disch:=first | omega | (apply m1;omega) | (apply m2;omega) | (apply m3;omega) | (apply m4;omega)) only [RR,io,e9,hp1,hf1,hp2,hf2,hp3,hf3,U4.hp,U4.hf,hp5,hf5,n1,Int.reduceEq,Int.reduceAdd,Int.reduceSub,Int.reduceLE,or_self,true_and,and_true,and_self,false_and,and_false]
  try simp [a2,a3]
 by_cases e10:i.op=10
 ·simp (disch:=first | omega | (apply m1;omega) | (apply m2;omega) | (apply m3;omega) | (apply m4;omega)) only [RR,io,e10,hp1,hf1,hp2,hf2,hp3,hf3,U4.hp,U4.hf,hp5,hf5,n1,Int.reduceEq,Int.reduceAdd,Int.reduceSub,Int.reduceLE,or_self,true_and,and_true,and_self,false_and,and_false]
  try simp [a2,a3]
 by_cases e14:i.op=14
 ·simp (disch:=first | omega | (apply m1;omega) | (apply m2;omega) | (apply m3;omega) | (apply m4;omega)) only [RR,io,e14,hp1,hf1,hp2,hf2,hp3,hf3,U4.hp,U4.hf,hp5,hf5,n1,Int.reduceEq,Int.reduceAdd,Int.reduceSub,Int.reduceLE,or_self,true_and,and_true,and_self,false_and,and_false]
  try simp [a2,a3]
 by_cases e15:i.op=15
 ·simp (disch:=first | omega | (apply m1;omega) | (apply m2;omega) | (apply m3;omega) | (apply m4;omega)) only [RR,io,e15,hp1,hf1,hp2,hf2,hp3,hf3,U4.hp,U4.hf,hp5,hf5,n1,Int.reduceEq,Int.reduceAdd,Int.reduceSub,Int.reduceLE,or_self,true_and,and_true,and_self,false_and,and_false]
  try simp [a2,a3]
 by_cases e11:i.op=11
 ·simp (disch:=first | omega | (apply m1;omega) | (apply m2;omega) | (apply m3;omega) | (apply m4;omega)) only [RR,io,e11,hp1,hf1,hp2,hf2,hp3,hf3,U4.hp,U4.hf,hp5,hf5,n1,Int.reduceEq,Int.reduceAdd,Int.reduceSub,Int.reduceLE,or_self,true_and,and_true,and_self,false_and,and_false]
  try simp [a2,a3]
 by_cases e12:i.op=12
 ·simp (disch:=first | omega | (apply m1;omega) | (apply m2;omega) | (apply m3;omega) | (apply m4;omega)) only [RR,io,e12,hp1,hf1,hp2,hf2,hp3,hf3,U4.hp,U4.hf,hp5,hf5,n1,Int.reduceEq,Int.reduceAdd,Int.reduceSub,Int.reduceLE,or_self,true_and,and_true,and_self,false_and,and_false]
  try simp [a2,a3]
 by_cases e13:i.op=13
 ·simp (disch:=first | omega | (apply m1;omega) | (apply m2;omega) | (apply m3;omega) | (apply m4;omega)) only [RR,io,e13,hp1,hf1,hp2,hf2,hp3,hf3,U4.hp,U4.hf,hp5,hf5,n1,Int.reduceEq,Int.reduceAdd,Int.reduceSub,Int.reduceLE,or_self,true_and,and_true,and_self,false_and,and_false]
  try simp [a2,a3]
 simp (disch:=first | omega | (apply m1;omega) | (apply m2;omega) | (apply m3;omega) | (apply m4;omega)) only [RR,io,e1,e2,e8,e9,e10,e14,e15,e11,e12,e13,hp1,hf1,hp2,hf2,hp3,hf3,U4.hp,U4.hf,hp5,hf5,n1,Int.reduceEq,Int.reduceAdd,Int.reduceSub,Int.reduceLE,or_self,true_and,and_true,and_self,false_and,and_false]
 try simp [a2,a3,a4]
theorem aai (n b:Int) (i:Ins):(bM n b i).length<=5:=by
 unfold bM;repeat' split
 all_goals simp only [List.length_cons,List.length_nil]
 all_goals omega
theorem aaj (n:Int) (b:Blk) (i:Ins):(bW n b i).ops.length<=b.ops.length+5:=by
 have:=aai n b.ops.length i
 unfold bW;repeat' split
 all_goals (dsimp only;rw [List.length_append];omega)
theorem pI:∀(l:List Ins) (n:Int) (b:Blk) (i:Ins),iq n b (l++ [i])=bW (n+l.length) (iq n b l) i
 | [],n,b,i=>by simp [iq]
 | j::l,n,b,i=>by
  show iq (n+1) (bW n b j) (l++ [i])=bW _ (iq (n+1) (bW n b j) l) i
  rw [pI l (n+1) (bW n b j) i,List.length_cons,show n+1+(l.length:Int)=n+((l.length+1:Nat):Int) by omega]
theorem zy:∀(l:List Ins) (n:Int) (b:Blk),(iq n b l).ops.length<=b.ops.length+5*l.length
 | [],_,_=>Nat.le_refl _
 | i::l,n,b=>by
  show(iq (n+1) (bW n b i) l).ops.length<=_
  have:=zy l (n+1) (bW n b i)
  have:=aaj n b i
  rw [List.length_cons];omega
structure amA (pp:Int×List Ins×Unit->Bool) (ff:Int×List Ins×Unit->Bool×Unit):Prop where
 hp:∀pc l,l.length<1000000000->pp (pc,l,())=true
 hf:∀pc l,l.length<1000000000->ff (pc,l,())=(bp (mP pc l),())
theorem aqg {p1 f1 p2 f2} (U1:amA p1 f1) (U2:Y97 p2 f2) {p3:Ins×Int×Int×Int×Int×Int×Int×Int×List IOp×Unit->Bool} {f3:Ins×Int×Int×Int×Int×Int×Int×Int×List IOp×Unit->Int×Int×Int×Int×Int×Int×Int×List IOp×Unit} (hp3:∀(i:Ins) (B:Blk) (a:Int),B.ops.length<900000->(i.op=8->0<=i.k/\i.k<=15)->(0<=i.op/\i.op<=15)->p3 (i,B.pc,B.len,B.fin,B.x,B.y,B.k,a,B.ops,())=true) (hf3:∀(i:Ins) (B:Blk) (a:Int),B.ops.length<900000->(i.op=8->0<=i.k/\i.k<=15)->(0<=i.op/\i.op<=15)->f3 (i,B.pc,B.len,B.fin,B.x,B.y,B.k,a,B.ops,())=((bW a B i).pc,(bW a B i).len,(bW a B i).fin,(bW a B i).x,(bW a B i).y,(bW a B i).k,a,(bW a B i).ops,())) (pc:Int) (l:List Ins) (hl:l.length<1000000000):afR (std 0).al p1 f1 p2 f2 p3 f3 (pc,l,()) (λy=>y=bk7 (lower pc l)):=by
 have mE:∀c:Blk,Co.mk .blk (c.pc,c.len,c.ops,c.fin,c.x,c.y,c.k,())=c:=λ_=>rfl
 dsimp only [afR,Tup.q,Tup.o,Tup.e1,Tup.e2,Tup.e7,Tup.e8,UY]
 simp (disch:=omega) only [RR,U1.hp pc l hl,U1.hf pc l hl,cO,NJ]
 unfold lower
 refine⟨λh=>by rw [dw h,if_neg (by decide)];rfl,λh=> ?_⟩
 rw [bE h,if_pos rfl]
 have ln:=h.ln
 have pp:=h.pc
 refine aG (λ(y:List Ins×Int×Int×Int×Int×Int×Int×Int×Int×Int×Int×Int×Int×Int×Int×Int×List IOp×Unit)=>y.1=l/\y.2.1=l.length/\0<=y.2.2.1/\y.2.2.1<=l.length/\∃B:Blk,B=iq 0 (lN pc l) (l.take y.2.2.1.toNat)/\y.2.2.2.2.2.2.2.2.2.1=B.pc/\y.2.2.2.2.2.2.2.2.2.2.1=B.len/\y.2.2.2.2.2.2.2.2.2.2.2.1=B.fin/\y.2.2.2.2.2.2.2.2.2.2.2.2.1=B.x/\y.2.2.2.2.2.2.2.2.2.2.2.2.2.1=B.y/\y.2.2.2.2.2.2.2.2.2.2.2.2.2.2.1=B.k/\y.2.2.2.2.2.2.2.2.2.2.2.2.2.2.2.2.1=B.ops) (λy=>(l.length-y.2.2.1).toNat) ⟨rfl,rfl,by simp,by simp,_,rfl,rfl,rfl,rfl,rfl,rfl,w64 (by omega) (by omega),rfl⟩ ?_
 rintro⟨(l':List Ins),(n:Int),(i:Int),z1,z2,z3,z4,z5,z6,q1,q2,q3,q4,q5,q6,q7,q8,⟨⟩⟩ hI
 dsimp only at hI ⊢
 obtain⟨rfl,rfl,h1,h2,B,eB,rfl,rfl,rfl,rfl,rfl,rfl,rfl⟩:=hI
 have bl:B.ops.length<=40:=by
  have:=zy (l'.take i.toNat) 0 (lN pc l')
  rw [<-eB]at this
  have t:=List.length_take_le i.toNat l'
  have:(lN pc l').ops.length=0:=rfl
  omega
 by_cases c:i<l'.length
 ·obtain⟨o1,o2,o3⟩:=h.ok i.toNat (by omega)
  have H8:(((l').getD (i).toNat default)).op=8->0<=(((l').getD (i).toNat default)).k/\(((l').getD (i).toNat default)).k<=15:=λe=>⟨o1.2.2.2.1,o1.2.2.2.2.2.2.2.2.1 e⟩
  have H0:=o1.1
  simp (disch:=omega) only [RR,c,hp3 (((l').getD (i).toNat default)) B i (by omega) H8 H0,hf3 (((l').getD (i).toNat default)) B i (by omega) H8 H0]
  refine⟨h1,⟨by omega,by omega,bW i B (((l').getD (i).toNat default)),?_,rfl,rfl,rfl,rfl,rfl,rfl,rfl⟩,by omega⟩
  rw [<-pE (d:=default) h1 c rfl,pI,<-eB,List.length_take,show(0:Int)+((min i.toNat l'.length:Nat):Int)=i by omega]
 ·rw [List.take_of_length_le (by omega)]at eB
  simp (disch:=omega) only [RR,c,mE,U2.hp B (by omega),U2.hf B (by omega),<-eB]
end Go.TX.F
namespace Go.TX.F
open Go Go.AE Go.TX
def OKS (ops:List IOp) (len:Int):Prop:=∀j:Int,0<=j->j<ops.length->lK ops len j ((ops).getD (j).toNat default)
theorem amB {ops w:List IOp} {x:Int} (h0:0<=x) (h:x<ops.length):((ops++w).getD (x).toNat default)=((ops).getD (x).toNat default):=by
 rw [List.getD_eq_getElem?_getD,List.getElem?_append_left (by omega),<-List.getD_eq_getElem?_getD]
theorem amC {ops w:List IOp} {t:Nat}:((ops++w).getD ((ops.length:Int)+t).toNat default)=w.getD t default:=by
 rw [List.getD_eq_getElem?_getD,List.getElem?_append_right (by omega),<-List.getD_eq_getElem?_getD,show((ops.length:Int)+t).toNat-ops.length=t by omega]
theorem Vl.mono {ops w:List IOp} {x n n':Int} (h:Vl ops x n) (h1:n<=ops.length) (h2:n<=n'):Vl (ops++w) x n':=by
 obtain⟨a,b,c⟩:=h
 exact⟨a,by omega,by rw [amB a (by omega)];exact c⟩
theorem lK.mono {ops w:List IOp} {len i:Int} {o:IOp} (h:lK ops len i o) (h1:i<=ops.length):lK (ops++w) len i o:=
 {h with x1:=λg=>(h.x1 g).mono h1 (Int.le_refl _),y1:=λg=>(h.y1 g).mono h1 (Int.le_refl _)}
theorem OKS.app {ops w:List IOp} {len:Int} (h:OKS ops len) (hw:∀t:Nat,t<w.length->lK (ops++w) len ((ops.length:Int)+t) (w.getD t default)):OKS (ops++w) len:=λj j0 j1=>by
 rw [List.length_append]at j1
 by_cases c:j<ops.length
 ·rw [amB j0 c];exact(h j j0 c).mono (by omega)
 ·obtain⟨t,rfl⟩:∃t:Nat,j=(ops.length:Int)+t:=⟨(j-ops.length).toNat,by omega⟩
  rw [amC];exact hw t (by omega)
theorem Tq (ops w:List IOp) (s t:Nat) (h:s<t) (m:mkV (w.getD s default)):Vl (ops++w) ((ops.length:Int)+s) ((ops.length:Int)+t):=⟨by omega,by omega,by rw [amC];exact m⟩
section
variable {ops:List IOp} {len i x y k n:Int}
theorem ok1 (h:0<=k/\k<=65535):lK ops len i ⟨1,0,0,k,0⟩:=by constructor<;>simp [hX,hY,evO]<;>omega
theorem ok2 (h:0<=k/\k<=3):lK ops len i ⟨2,0,0,k,0⟩:=by constructor<;>simp [hX,hY,evO]<;>omega
theorem ok3 (h:1<=k/\k<=5) (hx:Vl ops x i) (hy:Vl ops y i):lK ops len i ⟨3,x,y,k,0⟩:=by constructor<;>simp [hX,hY,evO,hx,hy]<;>omega
theorem ok4 (h:0<=n/\n<len) (hx:Vl ops x i):lK ops len i ⟨4,x,0,0,n⟩:=by constructor<;>simp [hX,hY,evO,hx]<;>omega
theorem ok5 (h:0<=n/\n<len) (hx:Vl ops x i) (hy:Vl ops y i):lK ops len i ⟨5,x,y,0,n⟩:=by constructor<;>simp [hX,hY,evO,hx,hy]<;>omega
theorem ok6 (h:0<=n/\n<len):lK ops len i ⟨6,0,0,0,n⟩:=by constructor<;>simp [hX,hY,evO]<;>omega
theorem ok7 (h:0<=n/\n<len) (hx:Vl ops x i):lK ops len i ⟨7,x,0,0,n⟩:=by constructor<;>simp [hX,hY,evO,hx]<;>omega
theorem ok8 (h:0<=k/\k<=3) (hx:Vl ops x i):lK ops len i ⟨8,x,0,k,0⟩:=by constructor<;>simp [hX,hY,evO,hx]<;>omega
end
theorem Tt {ops:List IOp} {len n:Int} {i:Ins} (h:OKS ops len) (hi:bF i) (h0:i.op≠0) (hn:0<=n/\n<len):OKS (ops++bM n ops.length i) len/\
  (i.op=11\/i.op=12->Vl (ops++bM n ops.length i) ops.length ((ops++bM n ops.length i).length)/\Vl (ops++bM n ops.length i) (ops.length+1) ((ops++bM n ops.length i).length))/\
  (i.op=13->Vl (ops++bM n ops.length i) ops.length ((ops++bM n ops.length i).length)):=by
 obtain⟨⟨o0,o1⟩,⟨d0,d1⟩,⟨a0,a1⟩,k0,_,r1,r2,r3,r8,r9,r13,r14⟩:=hi
 have v0:=λ(w:List IOp) (t:Nat) (h:0<t) (m:mkV (w.getD 0 default))=>show Vl (ops++w) (ops.length:Int) ((ops.length:Int)+t)from by have:=Tq ops w 0 t h m;rwa [Int.natCast_zero,Int.add_zero]at this
 have v1:=λ(w:List IOp) (t:Nat) (h:1<t) (m:mkV (w.getD 1 default))=>Tq ops w 1 t h m
 have v2:=λ(w:List IOp) (t:Nat) (h:2<t) (m:mkV (w.getD 2 default))=>Tq ops w 2 t h m
 have v3:=λ(w:List IOp) (t:Nat) (h:3<t) (m:mkV (w.getD 3 default))=>Tq ops w 3 t h m
 have m1:∀a b c d:Int,mkV ⟨1,a,b,c,d⟩:=λ_ _ _ _=>by unfold mkV;dsimp only;omega
 have m2:∀a b c d:Int,mkV ⟨2,a,b,c,d⟩:=λ_ _ _ _=>by unfold mkV;dsimp only;omega
 have m3:∀a b c d:Int,mkV ⟨3,a,b,c,d⟩:=λ_ _ _ _=>by unfold mkV;dsimp only;omega
 have m4:∀a b c d:Int,mkV ⟨4,a,b,c,d⟩:=λ_ _ _ _=>by unfold mkV;dsimp only;omega
 have m6:∀a b c d:Int,mkV ⟨6,a,b,c,d⟩:=λ_ _ _ _=>Or.inr rfl
 rcases(by omega:i.op=1\/i.op=2\/(3<=i.op/\i.op<=7)\/i.op=8\/i.op=9\/i.op=10\/(i.op=11\/i.op=12)\/i.op=13\/i.op=14\/i.op=15)with c | c | c | c | c | c | c | c | c | c
 ·have e:bM n ops.length i=[⟨1,0,0,i.k,0⟩,⟨8,ops.length,0,i.d,0⟩]:=by unfold bM;rw [if_pos c]
  rw [e]
  refine⟨h.app λt ht=> ?_,λg=>by omega,λg=>by omega⟩
  rcases t with _ | _ | t
  ·exact ok1 (by have:=r1 c;omega)
  ·exact ok8 ⟨d0,d1⟩ (v0 _ 1 (by decide) (m1 _ _ _ _))
  ·simp only [List.length_cons,List.length_nil]at ht;omega
 ·have e:bM n ops.length i=[⟨2,0,0,i.a,0⟩,⟨8,ops.length,0,i.d,0⟩]:=by unfold bM;rw [if_neg (by omega),if_pos c]
  rw [e]
  refine⟨h.app λt ht=> ?_,λg=>by omega,λg=>by omega⟩
  rcases t with _ | _ | t
  ·exact ok2 ⟨a0,a1⟩
  ·exact ok8 ⟨d0,d1⟩ (v0 _ 1 (by decide) (m2 _ _ _ _))
  ·simp only [List.length_cons,List.length_nil]at ht;omega
 ·have e:bM n ops.length i=[⟨2,0,0,i.a,0⟩,⟨2,0,0,i.k,0⟩,⟨3,ops.length,ops.length+1,i.op-2,0⟩,⟨8,ops.length+2,0,i.d,0⟩]:=by
   unfold bM
   iterate 9 rw [if_neg (by omega)]
  rw [e]
  refine⟨h.app λt ht=> ?_,λg=>by omega,λg=>by omega⟩
  rcases t with _ | _ | _ | _ | t
  ·exact ok2 ⟨a0,a1⟩
  ·exact ok2 ⟨k0,r3 c⟩
  ·exact ok3 (by omega) (v0 _ 2 (by decide) (m2 _ _ _ _)) (v1 _ 2 (by decide) (m2 _ _ _ _))
  ·exact ok8 ⟨d0,d1⟩ (v2 _ 3 (by decide) (m3 _ _ _ _))
  ·simp only [List.length_cons,List.length_nil]at ht;omega
 ·have e:bM n ops.length i=[⟨2,0,0,i.a,0⟩,⟨1,0,0,2^i.k.toNat,0⟩,⟨3,ops.length,ops.length+1,3,0⟩,⟨8,ops.length+2,0,i.d,0⟩]:=by
   unfold bM;rw [if_neg (by omega),if_neg (by omega),if_pos c]
  rw [e]
  refine⟨h.app λt ht=> ?_,λg=>by omega,λg=>by omega⟩
  rcases t with _ | _ | _ | _ | t
  ·exact ok2 ⟨a0,a1⟩
  ·exact ok1 (F3 k0 (r8 c))
  ·exact ok3 (by decide) (v0 _ 2 (by decide) (m2 _ _ _ _)) (v1 _ 2 (by decide) (m1 _ _ _ _))
  ·exact ok8 ⟨d0,d1⟩ (v2 _ 3 (by decide) (m3 _ _ _ _))
  ·simp only [List.length_cons,List.length_nil]at ht;omega
 ·have e:bM n ops.length i=[⟨2,0,0,i.a,0⟩,⟨1,0,0,i.k,0⟩,⟨3,ops.length,ops.length+1,1,0⟩,⟨4,ops.length+2,0,0,n⟩,⟨8,ops.length+3,0,i.d,0⟩]:=by
   unfold bM;rw [if_neg (by omega),if_neg (by omega),if_neg (by omega),if_pos c]
  have r:=r9 (by omega)
  rw [e]
  refine⟨h.app λt ht=> ?_,λg=>by omega,λg=>by omega⟩
  rcases t with _ | _ | _ | _ | _ | t
  ·exact ok2 ⟨a0,a1⟩
  ·exact ok1 (by omega)
  ·exact ok3 (by decide) (v0 _ 2 (by decide) (m2 _ _ _ _)) (v1 _ 2 (by decide) (m1 _ _ _ _))
  ·exact ok4 hn (v2 _ 3 (by decide) (m3 _ _ _ _))
  ·exact ok8 ⟨d0,d1⟩ (v3 _ 4 (by decide) (m4 _ _ _ _))
  ·simp only [List.length_cons,List.length_nil]at ht;omega
 ·have e:bM n ops.length i=[⟨2,0,0,i.a,0⟩,⟨1,0,0,i.k,0⟩,⟨3,ops.length,ops.length+1,1,0⟩,⟨2,0,0,i.d,0⟩,⟨5,ops.length+2,ops.length+3,0,n⟩]:=by
   unfold bM;rw [if_neg (by omega),if_neg (by omega),if_neg (by omega),if_neg (by omega),if_pos c]
  have r:=r9 (by omega)
  rw [e]
  refine⟨h.app λt ht=> ?_,λg=>by omega,λg=>by omega⟩
  rcases t with _ | _ | _ | _ | _ | t
  ·exact ok2 ⟨a0,a1⟩
  ·exact ok1 (by omega)
  ·exact ok3 (by decide) (v0 _ 2 (by decide) (m2 _ _ _ _)) (v1 _ 2 (by decide) (m1 _ _ _ _))
  ·exact ok2 ⟨d0,d1⟩
  ·exact ok5 hn (v2 _ 4 (by decide) (m3 _ _ _ _)) (v3 _ 4 (by decide) (m2 _ _ _ _))
  ·simp only [List.length_cons,List.length_nil]at ht;omega
 ·have e:bM n ops.length i=[⟨2,0,0,i.d,0⟩,⟨2,0,0,i.a,0⟩]:=by
   unfold bM
   iterate 7 rw [if_neg (by omega)]
   rw [if_pos c]
  have el:∀a b:IOp,(((ops++ [a,b]).length:Nat):Int)=(ops.length:Int)+((2:Nat):Int):=λa b=>by rw [List.length_append];rfl
  rw [e]
  refine⟨h.app λt ht=> ?_,λg=> ?_,λg=>by omega⟩
  ·rcases t with _ | _ | t
   ·exact ok2 ⟨d0,d1⟩
   ·exact ok2 ⟨a0,a1⟩
   ·simp only [List.length_cons,List.length_nil]at ht;omega
  ·rw [el];exact⟨v0 _ 2 (by decide) (m2 _ _ _ _),v1 _ 2 (by decide) (m2 _ _ _ _)⟩
 ·have e:bM n ops.length i=[⟨2,0,0,i.a,0⟩]:=by
   unfold bM
   iterate 8 rw [if_neg (by omega)]
   rw [if_pos c]
  have el:∀a:IOp,(((ops++ [a]).length:Nat):Int)=(ops.length:Int)+((1:Nat):Int):=λa=>by rw [List.length_append];rfl
  rw [e]
  refine⟨h.app λt ht=> ?_,λg=>by omega,λg=> ?_⟩
  ·rcases t with _ | t
   ·exact ok2 ⟨a0,a1⟩
   ·simp only [List.length_cons,List.length_nil]at ht;omega
  ·rw [el];exact v0 _ 1 (by decide) (m2 _ _ _ _)
 ·have e:bM n ops.length i=[⟨2,0,0,i.d,0⟩,⟨7,ops.length,0,0,n⟩]:=by
   unfold bM
   iterate 5 rw [if_neg (by omega)]
   rw [if_pos c]
  rw [e]
  refine⟨h.app λt ht=> ?_,λg=>by omega,λg=>by omega⟩
  rcases t with _ | _ | t
  ·exact ok2 ⟨d0,d1⟩
  ·exact ok7 hn (v0 _ 1 (by decide) (m2 _ _ _ _))
  ·simp only [List.length_cons,List.length_nil]at ht;omega
 ·have e:bM n ops.length i=[⟨6,0,0,0,n⟩,⟨8,ops.length,0,i.d,0⟩]:=by
   unfold bM
   iterate 6 rw [if_neg (by omega)]
   rw [if_pos c]
  rw [e]
  refine⟨h.app λt ht=> ?_,λg=>by omega,λg=>by omega⟩
  rcases t with _ | _ | t
  ·exact ok6 hn
  ·exact ok8 ⟨d0,d1⟩ (v0 _ 1 (by decide) (m6 _ _ _ _))
  ·simp only [List.length_cons,List.length_nil]at ht;omega
end Go.TX.F
namespace Go.TX.F
open Go Go.AE Go.TX
def Mid (i:Ins):Prop:=bF i/\i.op≠0/\¬(11<=i.op/\i.op<=13)
theorem aak {n:Int} {b:Blk} {i:Ins} (h:Mid i):bW n b i={b with ops:=b.ops++bM n b.ops.length i}:=by
 obtain⟨_,_,h3⟩:=h
 unfold bW;rw [if_neg (by omega),if_neg (by omega)]
theorem F4:∀(r:List Ins) (n:Int) (b:Blk),(∀i∈r,Mid i)->OKS b.ops b.len->0<=n->n+r.length<=b.len->OKS (iq n b r).ops b.len/\iq n b r={b with ops:=(iq n b r).ops}
 | [],n,b,_,h,_,_=>⟨h,rfl⟩
 | i::r,n,b,hr,h,h0,h1=>by
  have hi:=hr i (List.mem_cons_self ..)
  simp only [List.length_cons]at h1
  have k:=Tt (n:=n) h hi.1 hi.2.1 ⟨h0,by omega⟩
  have e:=aak (n:=n) (b:=b) hi
  show OKS (iq (n+1) (bW n b i) r).ops b.len/\iq (n+1) (bW n b i) r={b with ops:=(iq (n+1) (bW n b i) r).ops}
  have ih:=F4 r (n+1) (bW n b i) (λj hj=>hr j (List.mem_cons_of_mem _ hj)) (by rw [e];exact k.1) (by omega) (by rw [e];dsimp only;omega)
  rw [e]at ih ⊢
  exact ih
theorem tZ (n:Int) (b:Blk) (i:Ins):(bW n b i).ops=b.ops++bM n b.ops.length i:=by
 unfold bW
 split
 ·rfl
 split<;>rfl
theorem Oi:∀(r:List Ins) (n:Int) (b:Blk),∃w,(iq n b r).ops=b.ops++w
 | [],n,b=>⟨[],by rw [List.append_nil];rfl⟩
 | i::r,n,b=>by
  obtain⟨w,e⟩:=Oi r (n+1) (bW n b i)
  exact⟨bM n b.ops.length i++w,by show(iq (n+1) (bW n b i) r).ops=_;rw [e,tZ,List.append_assoc]⟩
theorem Ik {pc:Int} {l:List Ins} (h:mP pc l):∃r i,l=r++ [i]/\(∀j∈r,Mid j)/\bF i/\i.op≠0:=by
 have ln:=h.ln
 rcases List.eq_nil_or_concat l with e | ⟨r,i,e⟩
 ·subst e;simp at ln
 rw [List.concat_eq_append]at e
 subst e
 refine⟨r,i,rfl,λj hj=> ?_,?_,?_⟩
 ·obtain⟨t,ht,rfl⟩:=List.getElem_of_mem hj
  have:=h.ok t (by rw [List.length_append];omega)
  rw [List.getD_eq_getElem?_getD,List.getElem?_append_left ht,List.getElem?_eq_getElem ht]at this
  obtain⟨a,b,c⟩:=this
  refine⟨a,b,λg=> ?_⟩
  have:=c g
  rw [List.length_append,List.length_singleton]at this
  omega
 ·have:=h.ok r.length (by rw [List.length_append,List.length_singleton];omega)
  rw [List.getD_eq_getElem?_getD,List.getElem?_append_right (Nat.le_refl _),Nat.sub_self]at this
  exact this.1
 ·have:=h.ok r.length (by rw [List.length_append,List.length_singleton];omega)
  rw [List.getD_eq_getElem?_getD,List.getElem?_append_right (Nat.le_refl _),Nat.sub_self]at this
  exact this.2.1
theorem qD {pc:Int} {l:List Ins} (h:mP pc l):d9 (lower pc l):=by
 have ln:=h.ln
 have hp:=h.pc
 have e0:lower pc l=iq 0 (lN pc l) l:=by unfold lower;rw [bE h,if_pos rfl]
 have sz:=zy l 0 (lN pc l)
 obtain⟨r,i,e,hr,hi,h0⟩:=Ik h
 have rl:l.length=r.length+1:=by rw [e,List.length_append,List.length_singleton]
 have k0:OKS (lN pc l).ops (lN pc l).len:=λj j0 j1=>absurd j1 (by show¬j< ((0:Nat):Int);omega)
 obtain⟨a1,a2⟩:=F4 r 0 (lN pc l) hr k0 (by omega) (by show 0+(r.length:Int)<=(l.length:Int);omega)
 have e1:lower pc l=bW r.length (iq 0 (lN pc l) r) i:=by
  rw [e0]
  conv=>lhs;rw [e]
  rw [pI,<-e];simp
 obtain⟨b1,b2,b3⟩:=Tt (n:=r.length) a1 hi h0 ⟨by omega,by show(r.length:Int)< (l.length:Int);omega⟩
 have eo:=tZ r.length (iq 0 (lN pc l) r) i
 rw [<-e0]at sz
 generalize hB:(iq 0 (lN pc l) r).ops=ops at*
 have z0:(lN pc l).ops.length=0:=rfl
 have F:(lower pc l).pc=pc/\(lower pc l).len=l.length:=by
  rw [e1,a2];unfold bW
  split
  ·exact⟨rfl,rfl⟩
  split<;>exact⟨rfl,rfl⟩
 have O:(lower pc l).ops=ops++bM r.length ops.length i:=by rw [e1];exact eo
 refine⟨by rw [F.2];omega,by rw [F.1,F.2];omega,by omega,?_,?_⟩
 ·rw [O,F.2];exact λj j0 j1=>b1 j j0 j1
 ·by_cases c:i.op=11\/i.op=12
  ·obtain⟨v1,v2⟩:=b2 c
   have E:lower pc l=⟨pc,l.length,ops++bM r.length ops.length i,i.op-8,ops.length,ops.length+1,i.k⟩:=by rw [e1,a2];unfold bW;rw [if_pos c];rfl
   have kk:=hi.2.2.2.2.2.2.2.2.2.1
   rw [E]
   refine⟨by dsimp only;omega,λ_=>v1,λg=>by dsimp only at g;omega,λ_=>v2,λg=>by dsimp only at g;omega,λ_=> ?_,λg=>by dsimp only at g;omega⟩
   have:=hi.2.2.2.1
   have:=kk (by omega)
   dsimp only;omega
  by_cases d:i.op=13
  ·have v1:=b3 d
   have E:lower pc l=⟨pc,l.length,ops++bM r.length ops.length i,2,ops.length,0,0⟩:=by rw [e1,a2];unfold bW;rw [if_neg c,if_pos d];rfl
   rw [E]
   exact⟨by dsimp only;omega,λ_=>v1,λg=>by dsimp only at g;omega,λg=>by dsimp only at g;omega,λ_=>rfl,λg=>absurd rfl g,λ_=>rfl⟩
  ·have E:lower pc l=⟨pc,l.length,ops++bM r.length ops.length i,1,0,0,pc+l.length⟩:=by rw [e1,a2];unfold bW;rw [if_neg c,if_neg d];rfl
   rw [E]
   exact⟨by dsimp only;omega,λg=>absurd rfl g,λ_=>rfl,λg=>by dsimp only at g;omega,λ_=>rfl,λ_=>by dsimp only;omega,λg=>by dsimp only at g;omega⟩
end Go.TX.F
namespace Go.TX.F
open Go Go.AE Go.TX
theorem QV {m:aA} (h:MOK m) {i:Ins} (hi:bF i):MOK (eff m i):=by
 obtain⟨⟨o0,o1⟩,⟨d0,d1⟩,⟨a0,a1⟩,k0,r0,r1,r2,r3,r8,r9,r13,r14⟩:=hi
 have rs:∀(j:Nat) (v:Int),Wo v->MOK {m with regs:=m.regs.set j v}:=λj v w=> {h with r4:=by rw [List.length_set];exact h.r4,rw:=h.rw.set w j}
 unfold eff
 split
 ·exact rs _ _ ⟨k0,by have:=r1 ‹_›;omega⟩
 split
 ·exact rs _ _ (h.rw.at _)
 split
 ·exact rs _ _ (by unfold Wo;omega)
 split
 ·exact rs _ _ (h.mw.at _)
 split
 ·exact {h with m64:=by rw [List.length_set];exact h.m64,mw:=h.mw.set (h.rw.at _) _}
 split
 ·exact {h with ow:=h.ow.snoc (h.rw.at _)}
 split
 ·exact {rs i.d.toNat (m.ins.getD 0 default) h.iw.hd with iw:=h.iw.drop 1}
 split
 ·split
  ·exact {h with ha:=⟨show(0:Int)<=1 by decide,show(1:Int)<=4 by decide⟩}
  split
  ·exact {h with}
  ·exact {h with}
 split
 ·exact h
 ·exact rs _ _ (SH _ _ _)
def xr (pc len:Int):Int->aA->List Ins->aA×Bool
 | _,m,[]=>(m,false)
 | n,m,i::r=>if(i.op=9\/i.op=10)/\64<=adr m i then(leave m n 3,true)else if i.op=10/\pc+n+1<=adr m i/\adr m i<=pc+len-1 then(leave (eff m i) (n+1) m.halt,true)else xr pc len (n+1) (eff m i) r
theorem Jy (B:Blk) {S:MS} (h:S.left=true) (w:List IOp):w.foldl (aT B) S=S:=by
 obtain⟨m,v,l⟩:=S
 dsimp only at h;subst h
 exact Jw B m v w
theorem Tv (B:Blk) (s:MS):∀(r:List Ins) (n:Int) (b:Blk) (m:aA) (v:List Int),(∀i∈r,Mid i)->b.ops.foldl (aT B) s=⟨m,v,false⟩->v.length=b.ops.length->MOK m->
  ((iq n b r).ops.foldl (aT B) s).left=(xr B.pc B.len n m r).2/\((iq n b r).ops.foldl (aT B) s).m=(xr B.pc B.len n m r).1/\
  ((xr B.pc B.len n m r).2=false->((iq n b r).ops.foldl (aT B) s).vals.length=(iq n b r).ops.length/\MOK (xr B.pc B.len n m r).1)
 | [],n,b,m,v,_,h1,h2,h3=>by
  show(b.ops.foldl (aT B) s).left=false/\(b.ops.foldl (aT B) s).m=m/\_
  rw [h1]
  exact⟨rfl,rfl,λ_=>⟨by show(b.ops.foldl (aT B) s).vals.length=b.ops.length;rw [h1];exact h2,h3⟩⟩
 | i::r,n,b,m,v,hr,h1,h2,h3=>by
  have hi:=hr i (List.mem_cons_self ..)
  obtain⟨s1,s2,s3⟩:=amk B n h3 v hi.1 hi.2.1
  have e:(bW n b i).ops.foldl (aT B) s=(bM n v.length i).foldl (aT B) ⟨m,v,false⟩:=by rw [tZ,List.foldl_append,h1,h2]
  obtain⟨w,ew⟩:=Oi r (n+1) (bW n b i)
  have fw:(iq n b (i::r)).ops.foldl (aT B) s=w.foldl (aT B) ((bM n v.length i).foldl (aT B) ⟨m,v,false⟩):=by
   show(iq (n+1) (bW n b i) r).ops.foldl (aT B) s=_
   rw [ew,List.foldl_append,e]
  by_cases c1:rch m i
  ·obtain⟨q1,q2⟩:=s1 c1
   have ex:xr B.pc B.len n m (i::r)=(leave m n 3,true):=by show(if _ then _ else _)=_;rw [if_pos (show(i.op=9\/i.op=10)/\64<=adr m i from c1)]
   rw [fw,Jy B q1,ex]
   exact⟨q1,q2,λg=>by cases g⟩
  by_cases c2:ovr B n m i
  ·obtain⟨q1,q2⟩:=s2 c1 c2
   have ex:xr B.pc B.len n m (i::r)=(leave (eff m i) (n+1) m.halt,true):=by show(if _ then _ else if _ then _ else _)=_;rw [if_neg (show¬((i.op=9\/i.op=10)/\64<=adr m i)from c1),if_pos (show i.op=10/\B.pc+n+1<=adr m i/\adr m i<=B.pc+B.len-1 from c2)]
   rw [fw,Jy B q1,ex]
   exact⟨q1,q2,λg=>by cases g⟩
  ·obtain⟨w',q1,q2,_,_⟩:=s3 c1 c2
   have ex:xr B.pc B.len n m (i::r)=xr B.pc B.len (n+1) (eff m i) r:=by show(if _ then _ else if _ then _ else _)=_;rw [if_neg (show¬((i.op=9\/i.op=10)/\64<=adr m i)from c1),if_neg (show¬(i.op=10/\B.pc+n+1<=adr m i/\adr m i<=B.pc+B.len-1)from c2)]
   rw [ex]
   exact Tv B s r (n+1) (bW n b i) (eff m i) (v++w') (λj hj=>hr j (List.mem_cons_of_mem _ hj)) (by rw [e,q1]) (by rw [tZ,List.length_append,List.length_append,q2,h2]) (QV h3 hi.1)
def epc (pc len:Int) (m:aA) (i:Ins):Int:=if i.op=11\/i.op=12 then(if AX (i.op-10) ((m.regs).getD (i.d).toNat default) ((m.regs).getD (i.a).toNat default)=true then i.k else pc+len)else if i.op=13 then((m.regs).getD (i.a).toNat default)else pc+len
theorem acH {pc:Int} {r:List Ins} {i:Ins} {m:aA} (h:mP pc (r++ [i])) (hr:∀j∈r,Mid j) (hi:bF i) (h0:i.op≠0) (hm:MOK m) (g0:m.halt=0) (g1:m.pc=pc) (g2:m.count<=1000000- (r.length+1)):
  dX (lower pc (r++ [i])) m=if(xr pc (r.length+1) 0 m r).2=true then((xr pc (r.length+1) 0 m r).1,true)else
   if(xr pc (r.length+1) r.length (xr pc (r.length+1) 0 m r).1 [i]).2=true then((xr pc (r.length+1) r.length (xr pc (r.length+1) 0 m r).1 [i]).1,true)else
   ({eff (xr pc (r.length+1) 0 m r).1 i with count:=(eff (xr pc (r.length+1) 0 m r).1 i).count+(r.length+1),pc:=epc pc (r.length+1) (xr pc (r.length+1) 0 m r).1 i},true):=by
 have ok:=qD h
 have ll:(((r++ [i]).length:Nat):Int)=(r.length:Int)+1:=by rw [List.length_append];rfl
 have e0:lower pc (r++ [i])=bW r.length (iq 0 (lN pc (r++ [i])) r) i:=by
  unfold lower;rw [bE h,if_pos rfl,pI];simp
 have k0:OKS (lN pc (r++ [i])).ops (lN pc (r++ [i])).len:=λj j0 j1=>absurd j1 (by show¬j< ((0:Nat):Int);omega)
 obtain⟨_,a2⟩:=F4 r 0 (lN pc (r++ [i])) hr k0 (by omega) (by show 0+(r.length:Int)<=(((r++ [i]).length:Nat):Int);omega)
 generalize hL:iq 0 (lN pc (r++ [i])) r=L at*
 have lp:L.pc=pc/\L.len=(r.length:Int)+1/\L.fin=1/\L.x=0/\L.y=0/\L.k=pc+(r.length+1):=by
  rw [a2];exact⟨rfl,ll,rfl,rfl,rfl,by show pc+(((r++ [i]).length:Nat):Int)=_;rw [ll]⟩
 obtain⟨l1,l2,l3,l4,l5,l6⟩:=lp
 generalize hB:lower pc (r++ [i])=B at*
 have Bp:B.pc=pc/\B.len=(r.length:Int)+1:=by
  rw [e0];unfold bW
  split
  ·exact⟨l1,l2⟩
  split<;>exact⟨l1,l2⟩
 obtain⟨b1,b2⟩:=Bp
 have S:=Tv B ⟨m,[],false⟩ r 0 (lN pc (r++ [i])) m [] hr rfl rfl hm
 rw [hL,b1,b2]at S
 obtain⟨s1,s2,s3⟩:=S
 have run:dX B m=(zw B (B.ops.foldl (aT B) ⟨m,[],false⟩),true):=by
  unfold dX;rw [bE ⟨ok,hm⟩,if_pos rfl,if_neg (by rw [b1,b2];omega)]
 have ops:B.ops=L.ops++bM r.length L.ops.length i:=by rw [e0];exact tZ _ _ _
 rw [run,ops,List.foldl_append]
 by_cases c:(xr pc (r.length+1) 0 m r).2=true
 ·rw [if_pos c,Jy B (by rw [s1];exact c)]
  unfold zw;rw [if_pos (by rw [s1];exact c),s2]
 have c':(xr pc (r.length+1) 0 m r).2=false:=by simpa using c
 rw [if_neg c]
 obtain⟨t1,t2⟩:=s3 c'
 generalize hq:(xr pc (r.length+1) 0 m r).1=q at*
 obtain⟨S,hS⟩:∃S,S=L.ops.foldl (aT B) ⟨m,[],false⟩:=⟨_,rfl⟩
 rw [<-hS]at s1 s2 t1 ⊢
 obtain⟨sm,sv,sl⟩:=S
 dsimp only at s1 s2 t1
 subst s2
 rw [c']at s1
 subst s1
 rw [<-t1]
 obtain⟨u1,u2,u3⟩:=amk B r.length t2 sv hi h0
 have x1:∀m',xr pc (r.length+1) r.length m' [i]=if(i.op=9\/i.op=10)/\64<=adr m' i then(leave m' r.length 3,true)else if i.op=10/\pc+r.length+1<=adr m' i/\adr m' i<=pc+(r.length+1)-1 then(leave (eff m' i) (r.length+1) m'.halt,true)else(eff m' i,false):=λ_=>rfl
 by_cases c1:rch sm i
 ·obtain⟨q1,q2⟩:=u1 c1
  rw [x1,if_pos (show _/\_ from c1),if_pos rfl]
  unfold zw;rw [if_pos q1,q2]
 by_cases c2:ovr B r.length sm i
 ·unfold ovr at c2;rw [b1,b2]at c2;omega
 obtain⟨w,q1,q2,q3,q4⟩:=u3 c1 c2
 unfold ovr at c2
 rw [b1,b2]at c2
 rw [x1,if_neg (show¬(_/\_)from c1),if_neg c2,if_neg (show¬(false=true) by decide),q1]
 unfold zw
 rw [if_neg (show¬(false=true) by decide)]
 refine Prod.ext ?_ rfl
 have ef:B.fin=(if i.op=11\/i.op=12 then i.op-8 else if i.op=13 then 2 else 1)/\(i.op=11\/i.op=12->B.x=L.ops.length/\B.y=L.ops.length+1/\B.k=i.k)/\(i.op=13->B.x=L.ops.length)/\(¬(i.op=11\/i.op=12)->¬i.op=13->B.k=pc+(r.length+1)):=by
  rw [e0];unfold bW
  by_cases d1:i.op=11\/i.op=12
  ·rw [if_pos d1,if_pos d1];exact⟨rfl,λ_=>⟨rfl,rfl,rfl⟩,λg=>by omega,λg=>absurd d1 g⟩
  by_cases d2:i.op=13
  ·rw [if_neg d1,if_pos d2,if_neg d1,if_pos d2];exact⟨rfl,λg=>absurd g d1,λ_=>rfl,λ_ g=>absurd d2 g⟩
  ·rw [if_neg d1,if_neg d2,if_neg d1,if_neg d2];exact⟨l3,λg=>absurd g d1,λg=>absurd g d2,λ_ _=>l6⟩
 obtain⟨f1,f2,f3,f4⟩:=ef
 dsimp only
 rw [b1,b2]
 have pcE:(if B.fin=1 then B.k else if B.fin=2 then((sv++w).getD (B.x).toNat default)else if AX (B.fin-2) ((sv++w).getD (B.x).toNat default) ((sv++w).getD (B.y).toNat default)=true then B.k else pc+(r.length+1))=epc pc (r.length+1) sm i:=by
  unfold epc
  by_cases d1:i.op=11\/i.op=12
  ·obtain⟨x1,x2,x3⟩:=f2 d1
   have w':=q3 d1
   subst w'
   rw [if_pos d1,f1,if_pos d1,if_neg (by omega),if_neg (by omega),x1,x2,x3,<-t1,va0,va1,show i.op-8-2=i.op-10 by omega];rfl
  by_cases d2:i.op=13
  ·have w':=q4 d2
   subst w'
   rw [if_neg d1,if_pos d2,f1,if_neg d1,if_pos d2,if_neg (by decide),if_pos rfl,f3 d2,<-t1,va0];rfl
  ·rw [if_neg d1,if_neg d2,f1,if_neg d1,if_neg d2,if_pos rfl,f4 d1 d2]
 rw [pcE]
end Go.TX.F
namespace Go.TX.F
open Go Go.AE Go.TX
abbrev upd (m : aA) (u v : Int) : aA := { m with count := u, pc := v }
theorem Tw (m:aA) (u v:Int) (i:Ins):eff (upd m u v) i=upd (eff m i) u v:=by
 have a:adr (upd m u v) i=adr m i:=rfl
 unfold eff
 rw [a]
 by_cases e1:i.op=1
 ·rw [if_pos e1,if_pos e1]
 rw [if_neg e1,if_neg e1]
 by_cases e2:i.op=2
 ·rw [if_pos e2,if_pos e2]
 rw [if_neg e2,if_neg e2]
 by_cases e8:i.op=8
 ·rw [if_pos e8,if_pos e8]
 rw [if_neg e8,if_neg e8]
 by_cases e9:i.op=9
 ·rw [if_pos e9,if_pos e9]
 rw [if_neg e9,if_neg e9]
 by_cases e10:i.op=10
 ·rw [if_pos e10,if_pos e10]
 rw [if_neg e10,if_neg e10]
 by_cases e14:i.op=14
 ·rw [if_pos e14,if_pos e14]
 rw [if_neg e14,if_neg e14]
 by_cases e15:i.op=15
 ·rw [if_pos e15,if_pos e15]
 rw [if_neg e15,if_neg e15]
 by_cases e0:i.op=0
 ·rw [if_pos e0,if_pos e0]
  by_cases k0:i.k=0
  ·rw [if_pos k0,if_pos k0]
  rw [if_neg k0,if_neg k0]
  by_cases k1:i.k=1
  ·rw [if_pos k1,if_pos k1]
  rw [if_neg k1,if_neg k1]
 rw [if_neg e0,if_neg e0]
 by_cases e11:11<=i.op
 ·rw [if_pos e11,if_pos e11]
 rw [if_neg e11,if_neg e11]
theorem Tx (pc len n:Int) (m:aA) (i:Ins) (r:List Ins):xr pc len n m (i::r)=if(i.op=9\/i.op=10)/\64<=adr m i then(leave m n 3,true)else if i.op=10/\pc+n+1<=adr m i/\adr m i<=pc+len-1 then(leave (eff m i) (n+1) m.halt,true)else xr pc len (n+1) (eff m i) r:=rfl
theorem F5 {m:aA} {i:Ins} (h:i.op≠0):(eff m i).count=m.count/\(eff m i).pc=m.pc/\(eff m i).halt=m.halt:=by
 unfold eff
 repeat' split
 all_goals first | exact⟨rfl,rfl,rfl⟩ | (exfalso;omega)
theorem Tz {pc len:Int}:∀(a:List Ins) (n:Int) (m:aA),(∀i∈a,bF i/\i.op≠0)->MOK m->(xr pc len n m a).2=false->(xr pc len n m a).1.count=m.count/\(xr pc len n m a).1.pc=m.pc/\(xr pc len n m a).1.halt=m.halt/\MOK (xr pc len n m a).1
 | [],n,m,_,hm,h=>⟨rfl,rfl,rfl,hm⟩
 | i::a,n,m,ha,hm,h=>by
  simp only [Tx]at h ⊢
  split at h
  ·cases h
  split at h
  ·cases h
  ·rename_i c1 c2
   rw [if_neg c1,if_neg c2]
   have hi:=ha i (List.mem_cons_self ..)
   obtain⟨k1,k2,k3,k4⟩:=Tz a (n+1) (eff m i) (λj hj=>ha j (List.mem_cons_of_mem _ hj)) (QV hm hi.1) h
   obtain⟨e1,e2,e3⟩:=F5 (m:=m) hi.2
   exact⟨k1.trans e1,k2.trans e2,k3.trans e3,k4⟩
theorem agY (pc len n:Int) (m:aA) (i:Ins):xr pc len n m [i]=if(i.op=9\/i.op=10)/\64<=adr m i then(leave m n 3,true)else if i.op=10/\pc+n+1<=adr m i/\adr m i<=pc+len-1 then(leave (eff m i) (n+1) m.halt,true)else(eff m i,false):=rfl
end Go.TX.F
namespace Go.TX.F
open Go Go.AE Go.TX
theorem acI {b:Blk} {m:aA} (h:(dX b m).2=true):d9 b/\MOK m/\m.halt=0/\m.pc=b.pc/\m.count<=1000000-b.len:=by
 unfold dX at h
 by_cases c:d9 b/\MOK m
 ·rw [bE c,if_pos rfl]at h
  by_cases d:m.halt≠0\/m.pc≠b.pc\/1000000-b.len<m.count
  ·rw [if_pos d]at h;cases h
  ·exact⟨c.1,c.2,by omega,by omega,by omega⟩
 ·rw [dw c,if_neg (by decide)]at h;cases h
theorem agZ {pc:Int} {l:List Ins} (h:mP pc l):(lower pc l).pc=pc/\(lower pc l).len=l.length:=by
 have k:∀(l':List Ins) (n:Int) (b:Blk),(iq n b l').pc=b.pc/\(iq n b l').len=b.len:=by
  intro l'
  induction l' with
  | nil=>exact λ_ _=>⟨rfl,rfl⟩
  | cons i r ih=>
   intro n b
   have e:(bW n b i).pc=b.pc/\(bW n b i).len=b.len:=by
    unfold bW
    split
    ·exact⟨rfl,rfl⟩
    split<;>exact⟨rfl,rfl⟩
   exact⟨(ih (n+1) (bW n b i)).1.trans e.1,(ih (n+1) (bW n b i)).2.trans e.2⟩
 unfold lower;rw [bE h,if_pos rfl]
 exact k l 0 (lN pc l)
end Go.TX.F
namespace Go.TX.F
open Go Go.AE Go.TX
abbrev mD (y : Blk × Int × List Int × Int × Bool × Bool × Int × List Int × Int × List Int × List Int × Unit) : aA := ⟨y.2.2.2.2.2.2.2.2.2.1, y.2.1, y.2.2.1, y.2.2.2.1, y.2.2.2.2.1, y.2.2.2.2.2.1, y.2.2.2.2.2.2.1, y.2.2.2.2.2.2.2.1, y.2.2.2.2.2.2.2.2.2.2.1, y.2.2.2.2.2.2.2.2.1⟩
theorem aal {b:Blk} {m M:aA} (h:dX b m=(M,true)) (hs:MSh m) (ho:m.outs.length<900000000):MSh M:=by
 obtain⟨ok,hm,g0,g1,g2⟩:=acI (b:=b) (m:=m) (by rw [h])
 unfold dX at h
 rw [bE ⟨ok,hm⟩,if_pos rfl,if_neg (by omega)]at h
 have e:M=zw b (b.ops.foldl (aT b) ⟨m,[],false⟩):=(congrArg Prod.fst h).symm
 rw [e];exact Tn ok hs ho
structure aqh (pp:Int×List Ins×Unit->Bool) (ff:Int×List Ins×Unit->Int×Int×Int×Int×Int×Int×List IOp×Unit):Prop where
 hp:∀pc l,l.length<1000000000->pp (pc,l,())=true
 hf:∀pc l,l.length<1000000000->ff (pc,l,())=bk7 (lower pc l)
structure aqi (pp:Blk×aA×Unit->Bool) (ff:Blk×aA×Unit->Int×Int×Bool×Bool×Int×Int×Bool×List Int×List Int×List Int×List Int×Unit):Prop where
 hp:∀b m,b.ops.length<1000000000->MSh m->m.outs.length<900000000->pp (b,m,())=true
 hf:∀b m,b.ops.length<1000000000->MSh m->m.outs.length<900000000->ff (b,m,())=mR (dX b m)
structure aqj (pp:aA×aA×Unit->Bool) (ff:aA×aA×Unit->Bool×Unit):Prop where
 hp:∀a b,MSh a->pp (a,b,())=true
 hf:∀a b,MSh a->ff (a,b,())=(bp (a=b),())
structure aqk (pp:List Int×Unit->Bool) (ff:List Int×Unit->Int×List Ins×Unit):Prop where
 hp:∀c,By c->c.length<1000000000->pp (c,())=true
 hf:∀c,By c->c.length<1000000000->(ff (c,())).2.1.length<1000
structure aql (pp:List Int×Unit->Bool) (ff:List Int×Unit->Blk×Int×List Int×Int×Bool×Bool×Int×List Int×Int×List Int×List Int×Unit):Prop where
 hp:∀c,By c->c.length<1000000000->pp (c,())=true
 hf:∀c,By c->c.length<1000000000->MSh (mD (ff (c,())))/\(mD (ff (c,()))).outs.length<800000000
end Go.TX.F
namespace Go.TX.F
open Go Go.AE Go.TX
theorem amD {p1 f1} (U1:Y9 p1 f1) (l:List Int) (h:l.length<1000000000):Xu (std 0).al p1 f1 (l,()) (λy=>y=(bp (Wos l),())):=by
 dsimp only [Xu,Tup.q,Tup.o,Tup.e1]
 simp (disch:=omega) only [RR]
 refine aG (λ(y:List Int×Int×Unit)=>y.1=l/\0<=y.2.1/\y.2.1<=l.length/\Wos (l.take y.2.1.toNat)) (λy=>(l.length-y.2.1).toNat) ⟨rfl,by simp,by simp,by intro n hn;cases hn⟩ ?_
 rintro⟨(l:List Int),(i:Int),⟨⟩⟩ hI
 dsimp only at hI ⊢
 obtain⟨rfl,h1,h2,h3⟩:=hI
 simp (disch:=omega) only [RR,U1.hp,U1.hf,cZ,kN]
 refine⟨λg=>⟨h1,g,λe=> ?_,λe=>⟨⟨by omega,by omega,?_⟩,by omega⟩⟩,λg=> ?_⟩
 ·rw [dw];intro v;exact e (v _ (jD h1 g))
 ·rw [show(i+1).toNat=i.toNat+1 by omega]
  intro n hn
  rw [List.take_succ_eq_append_getElem (by omega),List.mem_append,List.mem_singleton]at hn
  rcases hn with hn | rfl
  ·exact h3 n hn
  ·rw [getD_lt (by omega)]at e;exact e
 ·rw [List.take_of_length_le (by omega)]at h3;rw [bE h3]
theorem amE {p1 f1 p2 f2 p3 f3} (U1:Y9 p1 f1) (U2:Y1 p2 f2) (U3:agT p3 f3) (m:aA) (h:MSh m):XD (std 0).al p1 f1 p2 f2 p3 f3 (m,()) (λy=>y=(bp (MOK m),())):=by
 obtain⟨a1,a2,a3,a4⟩:=h
 dsimp only [XD,Tup.q,Tup.o,Tup.e1]
 simp (disch:=omega) only [RR,MRB,U1.hp,U1.hf,U2.hp,U2.hf,U3.hp _ a1,U3.hf _ a1,U3.hp _ a2,U3.hf _ a2,U3.hp _ a3,U3.hf _ a3,U3.hp _ a4,U3.hf _ a4,tY,AQ]
 simp only [<-tL]
 refine Prod.ext (tN ⟨λh=> ?_,λh=> ?_⟩) rfl
 ·obtain⟨⟨⟨⟨⟨⟨⟨⟨⟨h1,h2⟩,h3⟩,h4⟩,h5⟩,h6⟩,h7⟩,h8⟩,h9⟩,h10⟩:=h
  exact⟨by omega,h2,by omega,h5,h3,h6,h8,h9,h7,h10⟩
 ·exact⟨⟨⟨⟨⟨⟨⟨⟨⟨by have:=h.r4;omega,h.rw⟩,h.pc⟩,by have:=h.m64;omega⟩,h.mw⟩,h.sv⟩,h.ha⟩,h.iw⟩,h.ow⟩,h.ct⟩
theorem amF {p1 f1} (U1:Y41 p1 f1) {p2:Int×List Int×Int×Unit->Bool} {f2:Int×List Int×Int×Unit->Int×List Int×Int×List Ins×Unit} (hp2:∀n b p,Bt b->0<=p->p<600000000->p2 (n,b,p,())=true) (hf2:∀n b p,Bt b->0<=p->p<600000000->(f2 (n,b,p,())).2.1=b/\p<=(f2 (n,b,p,())).2.2.1/\(f2 (n,b,p,())).2.2.1<=p+10000/\(f2 (n,b,p,())).2.2.2.1.length<1000) (c:List Int) (hc:By c) (hl:c.length<1000000000):Xm (std 0).al p1 f1 p2 f2 (c,()) (λy=>y.2.1.length<1000):=by
 obtain⟨hb,e0⟩:=U1.hf c hc hl
 generalize hbe:(f1 (c,())).1=b at hb
 obtain⟨a1,a2,a3,a4⟩:=hf2 9 b 0 hb (by omega) (by omega)
 dsimp only [Xm,Tup.q,Tup.o,Tup.e1,Tup.e2]
 simp (disch:=omega) only [RR,U1.hp c hc hl,hbe,e0,hp2 9 b 0 hb (by omega) (by omega)]
 exact a4
theorem amG {p1 f1 p2 f2 p3 f3} (U1:Y69 p1 f1) (U2:Y39 p2 f2) (U3:Y38 p3 f3) (n:Int) (b:List Int) (p:Int) (hb:Bt b) (h1:0<=p) (h2:p<700000000):Xj (std 0).al p1 f1 p2 f2 p3 f3 (n,b,p,()) (λ(y:Int×Int×Int×Int×List Int×Int×Unit)=>y.2.2.2.2.1=b/\p<=y.2.2.2.2.2.1/\y.2.2.2.2.2.1<=p+60):=by
 obtain⟨a1,a2,a3,a4⟩:=U1.hf b p hb h1 (by omega)
 have R:=pkR hb U3.hf
 have P:=λn p h1 h2=>U3.hp n b p hb h1 h2
 obtain⟨o1,o2⟩:=U2.hf n b (f1 (b,p,())).2.2.2.2.2.1 hb (by omega) (by omega)
 have OP:=U2.hp n b (f1 (b,p,())).2.2.2.2.2.1 hb (by omega) (by omega)
 dsimp only [Xj,Tup.q,Tup.o,Tup.e1,Tup.e2,Tup.e10]
 simp (disch:=omega) only [RR,U1.hp b p hb h1 (by omega),a1,OP,o1,o2,R,P,List.length_cons,List.length_nil]
 repeat' (first | (refine⟨?_,?_⟩) | intro _)
 all_goals first | rfl | omega | (dsimp only;omega)
theorem amH {p1 f1 p3 f3 p4 f4 p5 f5} (U1:Y70 p1 f1) {p2:Int×List Int×Int×Unit->Bool} {f2:Int×List Int×Int×Unit->Int×Int×Int×Int×List Int×Int×Unit} (hp2:∀n b p,Bt b->0<=p->p<700000000->p2 (n,b,p,())=true) (hf2:∀n b p,Bt b->0<=p->p<700000000->(f2 (n,b,p,())).2.2.2.2.1=b/\p<=(f2 (n,b,p,())).2.2.2.2.2.1/\(f2 (n,b,p,())).2.2.2.2.2.1<=p+60) (U3:Y39 p3 f3) (U4:Y38 p4 f4) (U5:Y81 p5 f5) (n:Int) (b:List Int) (p:Int) (hb:Bt b) (h1:0<=p) (h2:p<600000000):Xk (std 0).al p1 f1 p2 f2 p3 f3 p4 f4 p5 f5 (n,b,p,()) (λ(y:Int×List Int×Int×List Ins×Unit)=>y.2.1=b/\p<=y.2.2.1/\y.2.2.1<=p+10000/\y.2.2.2.1.length<1000):=by
 have L:=U5.hf b p hb h1 (by omega)
 have PL:=U5.hp b p hb h1 (by omega)
 generalize hy:f5 (b,p,())=y at L
 obtain⟨b',q,l,⟨⟩⟩:=y
 have lb:=L.b
 have lo:=L.lo
 have hi:=L.hi
 have ll:=L.len
 have l1:=L.l1
 dsimp only at lb lo hi ll l1
 subst lb
 have R:=pkR hb U4.hf
 have P:=λn p h1 h2=>U4.hp n b' p hb h1 h2
 obtain⟨o1,o2⟩:=U3.hf n b' (q+1) hb (by omega) (by omega)
 have OP:=U3.hp n b' (q+1) hb (by omega) (by omega)
 obtain⟨i1,i2,i3⟩:=hf2 1 b' (q+1+1+1+1) hb (by omega) (by omega)
 have IP:=hp2 1 b' (q+1+1+1+1) hb (by omega) (by omega)
 dsimp only [Xk,Tup.q,Tup.o,Tup.e1,Tup.e2,Tup.e3,Tup.e4]
 simp (disch:=omega) only [RR,PL,hy,OP,o1,o2,R,P,i1,IP,List.length_cons,List.length_nil,List.length_set]
 have le:q+1+1+1+1+1<=p+2000:=by omega
 refine⟨λ_=>⟨λ_=>⟨by omega,by omega,by omega⟩,λ_=>⟨λ_=>⟨by omega,by omega,by omega⟩,λ_=>⟨λ_=>⟨Int.le_trans (by omega) i2,Int.le_trans i3 (by omega),by omega⟩,λ_=>⟨λ_=>⟨by omega,by omega,by omega⟩,λ_=>⟨λ_=> ?_,λ_=>⟨by omega,by omega,by omega⟩⟩⟩⟩⟩⟩,λ_=>⟨by omega,by omega,by omega⟩⟩
 refine aG (λ(y:Int×List Int×Int×List Ins×Unit)=>y.2.1=b'/\p<=y.2.2.1/\y.2.2.1<=p+2000+40*y.2.2.2.1.length/\y.2.2.2.1.length<=25) (λy=>9-y.2.2.2.1.length) ⟨rfl,by dsimp only;omega,by dsimp only;omega,by dsimp only;omega⟩ ?_
 rintro⟨(k:Int),(b2:List Int),(r:Int),(l2:List Ins),⟨⟩⟩ hI
 dsimp only at hI ⊢
 obtain⟨rfl,j1,j2,j3⟩:=hI
 obtain⟨c1,c2,c3,c4⟩:=U1.hf b2 r hb (by omega) (by omega)
 simp (disch:=omega) only [RR,U1.hp b2 r hb (by omega) (by omega),c1,List.length_cons,List.length_nil,List.length_append]
 refine⟨λg=>⟨by omega,⟨Int.le_trans j1 c2,Int.le_trans c3 (by omega),by omega⟩,by omega⟩,λg=>⟨j1,by omega,by omega⟩⟩
end Go.TX.F
namespace Go.TX.F
open Go Go.AE Go.TX
theorem aam (m:aA) (h:MSh m):Qh (std 0).al (m,()) (λy=>y=m10 m):=by
 obtain⟨a1,a2,a3,a4⟩:=h
 dsimp only [Qh,Tup.q,Tup.o,Tup.e1]
 simp (disch:=omega) only [RR,MRB,List.nil_append,List.length_nil]
 exact⟨by omega,by omega,by omega,by omega⟩
theorem aan (m:aA) (h:Int):Qj (std 0).al (m.pc,m.save,m.bJ,m.waits,m.halt,m.ins,m.count,h,m.regs,m.mem,m.outs,()) (λy=>y=mB {m with halt:=h}):=by
 dsimp only [Qj,Tup.q,Tup.o,Tup.e3]
theorem ag0 {p1 f1} (U1:Y10 p1 f1) (m:aA) (n:Int) (h:0<=m.count/\m.count<=1000000):Qk (std 0).al p1 f1 (m.pc,m.save,m.bJ,m.waits,m.halt,m.ins,m.count,n,m.regs,m.mem,m.outs,()) (λy=>y=mB {m with pc:=n%65536,count:=m.count+1}):=by
 dsimp only [Qk,Tup.q,Tup.o,Tup.e1,Tup.e3]
 simp (disch:=omega) only [RR,U1.hp,U1.hf]
structure aao (pp:Int×Int×Bool×Bool×Int×List Int×Int×Int×List Int×List Int×List Int×Unit->Bool) (ff:Int×Int×Bool×Bool×Int×List Int×Int×Int×List Int×List Int×List Int×Unit->Int×Int×Bool×Bool×Int×List Int×Int×List Int×List Int×List Int×Unit):Prop where
 hp:∀(m:aA) (n:Int),(0<=m.count/\m.count<=1000000)->pp (m.pc,m.save,m.bJ,m.waits,m.halt,m.ins,m.count,n,m.regs,m.mem,m.outs,())=true
 hf:∀(m:aA) (n:Int),(0<=m.count/\m.count<=1000000)->ff (m.pc,m.save,m.bJ,m.waits,m.halt,m.ins,m.count,n,m.regs,m.mem,m.outs,())=mB {m with pc:=n%65536,count:=m.count+1}
theorem aap {p1 f1} (U1:aao p1 f1) (m:aA) (d v:Int) (h:MOK m) (d0:0<=d) (d1:d<=3):Qm (std 0).al p1 f1 (m.pc,m.save,m.bJ,m.waits,m.halt,m.ins,m.count,d,v,m.regs,m.mem,m.outs,()) (λy=>y=mB {m with regs:=m.regs.set d.toNat v,pc:=(m.pc+1)%65536,count:=m.count+1}):=by
 have r4:=h.r4
 have c:=h.ct
 have pw:0<=m.pc/\m.pc<=65535:=h.pc
 have H:=U1.hf {m with regs:=m.regs.set d.toNat v} (m.pc+1) c
 have P:=U1.hp {m with regs:=m.regs.set d.toNat v} (m.pc+1) c
 dsimp only at H P
 dsimp only [Qm,Tup.q,Tup.o,Tup.e1,Tup.e2,Tup.e10]
 simp (disch:=omega) only [RR,H,P,r4,d0]
 omega
theorem dbl (v:Int) (j:Nat):(v*2^j%65536+v*2^j%65536)%65536=v*2^ (j+1)%65536:=by
 rw [Int.pow_succ,<-Int.mul_assoc];omega
theorem ag1 {p1 f1} (U1:Y10 p1 f1) (v k:Int) (h:Wo v) (k0:0<=k) (k1:k<=15):Qn (std 0).al p1 f1 (v,k,()) (λy=>y=(v*2^k.toNat%65536,())):=by
 dsimp only [Qn,Tup.q,Tup.o,Tup.e1]
 simp (disch:=omega) only [RR]
 refine aG (λ(y:Int×Int×Int×Unit)=>y.1=k/\0<=y.2.2.1/\y.2.2.1<=k/\y.2.1=v*2^y.2.2.1.toNat%65536) (λy=>(k-y.2.2.1).toNat) ⟨rfl,by simp,k0,by have:=h.1;have:=h.2;dsimp only;rw [show Int.toNat 0=0 from rfl,Int.pow_zero];omega⟩ ?_
 rintro⟨(z:Int),(a:Int),(i:Int),⟨⟩⟩ hI
 dsimp only at hI ⊢
 obtain⟨rfl,j1,j2,rfl⟩:=hI
 by_cases g:i<z
 ·simp (disch:=omega) only [RR,U1.hp,U1.hf,g]
  exact⟨⟨by omega,by omega,by rw [show(i+1).toNat=i.toNat+1 by omega];exact dbl v i.toNat⟩,by omega⟩
 ·simp (disch:=omega) only [RR,U1.hp,U1.hf,g]
  rw [show i=z by omega]
theorem IR:(∀i:Ins,dW .ins 0 i=i.op)/\(∀i:Ins,dW .ins 1 i=i.d)/\(∀i:Ins,dW .ins 2 i=i.a)/\(∀i:Ins,dW .ins 3 i=i.k):=⟨λ_=>rfl,λ_=>rfl,λ_=>rfl,λ_=>rfl⟩
theorem Da {m:aA} {i:Ins} {u:aA} (h:exec m i=u):mB u=mB (exec m i):=by rw [h]
theorem bC {m:aA} {i:Ins} (h:¬((i.op=9\/i.op=10)/\64<=adr m i)) {u:aA} (e:eff m i=u) {n:Int} (f:nxt m i=n):mB {u with pc:=n,count:=m.count+1}=mB (exec m i):=by
 refine Da ?_;unfold exec;rw [if_neg h,e,f]
theorem ef0 {m:aA} {i:Ins} (e:i.op=0):eff m i=(if i.k=0 then {m with halt:=1}else if i.k=1 then {m with bJ:=true}else {m with bJ:=decide (i.k=2)}):=by
 unfold eff;(iterate 7 rw [if_neg (by omega)]);rw [if_pos e]
theorem ef1 {m:aA} {i:Ins} (e:i.op=1):eff m i={m with regs:=m.regs.set i.d.toNat i.k}:=by unfold eff;rw [if_pos e]
theorem ef2 {m:aA} {i:Ins} (e:i.op=2):eff m i={m with regs:=m.regs.set i.d.toNat ((m.regs).getD (i.a).toNat default)}:=by unfold eff;rw [if_neg (by omega),if_pos e]
theorem ef8 {m:aA} {i:Ins} (e:i.op=8):eff m i={m with regs:=m.regs.set i.d.toNat (((m.regs).getD (i.a).toNat default)*2^i.k.toNat%65536)}:=by unfold eff;(iterate 2 rw [if_neg (by omega)]);rw [if_pos e]
theorem ef9 {m:aA} {i:Ins} (e:i.op=9):eff m i={m with regs:=m.regs.set i.d.toNat ((m.mem).getD (adr m i).toNat default)}:=by unfold eff;(iterate 3 rw [if_neg (by omega)]);rw [if_pos e]
theorem ag2 {m:aA} {i:Ins} (e:i.op=10):eff m i={m with mem:=m.mem.set (adr m i).toNat ((m.regs).getD (i.d).toNat default)}:=by unfold eff;(iterate 4 rw [if_neg (by omega)]);rw [if_pos e]
theorem amI {m:aA} {i:Ins} (e:i.op=14):eff m i={m with outs:=m.outs++ [((m.regs).getD (i.d).toNat default)]}:=by unfold eff;(iterate 5 rw [if_neg (by omega)]);rw [if_pos e]
theorem ag3 {m:aA} {i:Ins} (e:i.op=15):eff m i={m with regs:=m.regs.set i.d.toNat (m.ins.getD 0 default),ins:=m.ins.drop 1}:=by unfold eff;(iterate 6 rw [if_neg (by omega)]);rw [if_pos e]
theorem efj {m:aA} {i:Ins} (e:11<=i.op/\i.op<=13):eff m i=m:=by unfold eff;(iterate 8 rw [if_neg (by omega)]);rw [if_pos (by omega)]
theorem efd {m:aA} {i:Ins} (e:3<=i.op/\i.op<=7):eff m i={m with regs:=m.regs.set i.d.toNat (wdo (i.op-2) ((m.regs).getD (i.a).toNat default) ((m.regs).getD (i.k).toNat default))}:=by unfold eff;(iterate 9 rw [if_neg (by omega)])
theorem nxp {m:aA} {i:Ins} (h:(i.op=0->i.k≠1)/\¬(11<=i.op/\i.op<=13)):nxt m i=(m.pc+1)%65536:=by unfold nxt;rw [if_neg (λq=>h.1 q.1 q.2),if_neg (λq=>h.2 (by omega)),if_neg (by omega)]
theorem n9 {m:aA} {i:Ins} (h:¬(i.op=9\/i.op=10)):¬((i.op=9\/i.op=10)/\64<=adr m i):=λq=>h q.1
structure ag4 (pp:Int×Int×Bool×Bool×Int×List Int×Int×Int×List Int×List Int×List Int×Unit->Bool) (ff:Int×Int×Bool×Bool×Int×List Int×Int×Int×List Int×List Int×List Int×Unit->Int×Int×Bool×Bool×Int×List Int×Int×List Int×List Int×List Int×Unit):Prop where
 hp:∀(m:aA) (h:Int),pp (m.pc,m.save,m.bJ,m.waits,m.halt,m.ins,m.count,h,m.regs,m.mem,m.outs,())=true
 hf:∀(m:aA) (h:Int),ff (m.pc,m.save,m.bJ,m.waits,m.halt,m.ins,m.count,h,m.regs,m.mem,m.outs,())=mB {m with halt:=h}
structure ag5 (pp:Int×Int×Bool×Bool×Int×List Int×Int×Int×Int×List Int×List Int×List Int×Unit->Bool) (ff:Int×Int×Bool×Bool×Int×List Int×Int×Int×Int×List Int×List Int×List Int×Unit->Int×Int×Bool×Bool×Int×List Int×Int×List Int×List Int×List Int×Unit):Prop where
 hp:∀(m:aA) (d v:Int),MOK m->0<=d->d<=3->pp (m.pc,m.save,m.bJ,m.waits,m.halt,m.ins,m.count,d,v,m.regs,m.mem,m.outs,())=true
 hf:∀(m:aA) (d v:Int),MOK m->0<=d->d<=3->ff (m.pc,m.save,m.bJ,m.waits,m.halt,m.ins,m.count,d,v,m.regs,m.mem,m.outs,())=mB {m with regs:=m.regs.set d.toNat v,pc:=(m.pc+1)%65536,count:=m.count+1}
theorem ag6 {p1 f1 p2 f2 p3 f3 p4 f4} (U1:Y10 p1 f1) (U2:ag4 p2 f2) (U3:aao p3 f3) (U4:ag5 p4 f4) (m:aA) (i:Ins) (h:MOK m) (hi:bF i) (ho:i.op=9\/i.op=10):Qo (std 0).al p1 f1 p2 f2 p3 f3 p4 f4 (m.pc,m.save,m.bJ,m.waits,m.halt,m.ins,m.count,i,m.regs,m.mem,m.outs,()) (λy=>y=mB (exec m i)):=by
 obtain⟨_,⟨d0,d1⟩,⟨a0,a1⟩,k0,_,_,_,_,_,r9,_⟩:=hi
 have k1:=r9 (by omega)
 have r4:=h.r4
 have m6:=h.m64
 have c:=h.ct
 have pw:0<=m.pc/\m.pc<=65535:=h.pc
 have H3:=λmem=>U3.hf {m with mem:=mem} (m.pc+1) c
 have P3:=λmem=>U3.hp {m with mem:=mem} (m.pc+1) c
 dsimp only at H3 P3
 have H4:=λv=>U4.hf m i.d v h d0 d1
 have P4:=λv=>U4.hp m i.d v h d0 d1
 have wa:0<=((m.regs).getD (i.a).toNat default)/\((m.regs).getD (i.a).toNat default)<=65535:=h.rw.at i.a
 dsimp only [Qo,Tup.q,Tup.o,Tup.e1,Tup.e3,Tup.e10]
 simp (disch:=omega) only [RR,IR,U1.hp,U1.hf,U2.hp,U2.hf,H3,P3,H4,P4,r4,m6,d0,a0,iE]
 have ad:(((m.regs).getD (i.a).toNat default)+i.k)%65536=adr m i:=rfl
 rw [ad]
 have a0':0<=adr m i:=by unfold adr;omega
 refine⟨by omega,by omega,λg=>Da (by unfold exec;rw [if_pos ⟨ho,g⟩]),λg=>⟨λe=>⟨by omega,by omega,by omega,by omega,?_⟩,λe=>⟨by omega,by omega,by omega,by omega,by omega,by omega,?_⟩⟩⟩
 ·exact bC (u:={m with regs:=m.regs.set i.d.toNat ((m.mem).getD (adr m i).toNat default)}) (λq=>by omega) (ef9 e) (nxp (by omega))
 ·exact bC (u:={m with mem:=m.mem.set (adr m i).toNat ((m.regs).getD (i.d).toNat default)}) (λq=>by omega) (ag2 (ho.resolve_left e)) (nxp (by omega))
theorem ag7 {p1 f1 p2 f2} (U1:aao p1 f1) (U2:ag5 p2 f2) (m:aA) (i:Ins) (h:MOK m) (hi:bF i) (hq:i.op=14\/i.op=15) (hn:m.ins.length<1000000000) (ho:m.outs.length<900000000):Qp (std 0).al p1 f1 p2 f2 (m.pc,m.save,m.bJ,m.waits,m.halt,m.ins,m.count,i,m.regs,m.mem,m.outs,()) (λy=>y=mB (exec m i)):=by
 obtain⟨_,⟨d0,d1⟩,⟨a0,a1⟩,k0,_⟩:=hi
 have r4:=h.r4
 have m6:=h.m64
 have c:=h.ct
 have pw:0<=m.pc/\m.pc<=65535:=h.pc
 have H3:=λo=>U1.hf {m with outs:=o} (m.pc+1) c
 have P3:=λo=>U1.hp {m with outs:=o} (m.pc+1) c
 dsimp only at H3 P3
 have mk:∀l:List Int,l=m.ins\/l=m.ins.drop 1->MOK {m with ins:=l}:=λl hl=> {h with iw:=by rcases hl with rfl | rfl;exact h.iw;exact h.iw.drop 1}
 have H4:=λv=>U2.hf m i.d v h d0 d1
 have P4:=λv=>U2.hp m i.d v h d0 d1
 have H5:=λv=>U2.hf {m with ins:=m.ins.drop 1} i.d v (mk _ (Or.inr rfl)) d0 d1
 have P5:=λv=>U2.hp {m with ins:=m.ins.drop 1} i.d v (mk _ (Or.inr rfl)) d0 d1
 dsimp only at H5 P5
 have e1:List.drop (Int.toNat 1) (List.take (Int.toNat (m.ins.length:Int)) m.ins)=m.ins.drop 1:=by rw [show Int.toNat (m.ins.length:Int)=m.ins.length by omega,List.take_of_length_le (Nat.le_refl _)];rfl
 dsimp only [Qp,Tup.q,Tup.o,Tup.e1,Tup.e10]
 simp (disch:=omega) only [RR,IR,H3,P3,H4,P4,H5,P5,e1,r4,m6,d0,List.length_cons,List.length_nil,iE]
 have n9:¬((i.op=9\/i.op=10)/\64<=adr m i):=n9 (by omega)
 have nx:nxt m i=(m.pc+1)%65536:=nxp (by omega)
 refine⟨λe=>⟨by omega,by omega,by omega,?_⟩,λe=>⟨λg=>⟨by omega,g,by omega,by omega,by omega,?_⟩,λg=> ?_⟩⟩
 ·exact bC (u:={m with outs:=m.outs++ [((m.regs).getD (i.d).toNat default)]}) n9 (amI e) nx
 ·exact bC (u:={m with regs:=m.regs.set i.d.toNat (m.ins.getD 0 default),ins:=m.ins.drop 1}) n9 (ag3 (hq.resolve_left e)) nx
 ·have e0:m.ins=[]:=by
   cases hm:m.ins with
   | nil=>rfl
   | cons a r=>rw [hm]at g;simp only [List.length_cons]at g;omega
  have:=bC (u:={m with regs:=m.regs.set i.d.toNat (m.ins.getD 0 default),ins:=m.ins.drop 1}) n9 (ag3 (hq.resolve_left e)) nx
  rw [e0]at this
  rw [<-this,e0];rfl
theorem ag8 {p1 f1 p2 f2} (U1:ag4 p1 f1) (U2:aao p2 f2) (m:aA) (i:Ins) (h:MOK m) (ho:i.op=0):Ql (std 0).al p1 f1 p2 f2 (m.pc,m.save,m.bJ,m.waits,m.halt,m.ins,m.count,i.k,m.regs,m.mem,m.outs,()) (λy=>i.k<=3->0<=i.k->y=mB (exec m i)):=by
 have c:=h.ct
 have pw:0<=m.pc/\m.pc<=65535:=h.pc
 have sw:0<=m.save/\m.save<=65535:=h.sv
 have H1:=U1.hf m 1
 have P1:=U1.hp m 1
 have H2:=λb n=>U2.hf {m with bJ:=b} n c
 have P2:=λb n=>U2.hp {m with bJ:=b} n c
 have H3:=λn=>U2.hf {m with halt:=1} n c
 have P3:=λn=>U2.hp {m with halt:=1} n c
 dsimp only at H2 P2 H3 P3
 have n9:¬((i.op=9\/i.op=10)/\64<=adr m i):=n9 (by omega)
 have ef:=ef0 (m:=m) ho
 have nx:i.k≠1->nxt m i=(m.pc+1)%65536:=λe=>nxp ⟨λ_=>e,by omega⟩
 dsimp only [Ql,Tup.q,Tup.o,Tup.e3,Tup.e10,Tup.e16]
 simp (disch:=omega) only [RR,H1,P1,H2,P2,H3,P3]
 refine⟨λe _ _=> ?_,λe=>⟨λe2 _ _=> ?_,λe2=>⟨λe3 _ _=> ?_,λe3 g0 g1=> ?_⟩⟩⟩
 ·rw [show m.save%65536=m.save by omega]
  exact bC (u:={m with bJ:=true}) n9 (by rw [ef,if_neg (by omega),if_pos e]) (by unfold nxt;rw [if_pos ⟨ho,e⟩])
 ·exact bC (u:={m with bJ:=true}) n9 (by rw [ef,if_neg (by omega),if_neg (by omega),e2];rfl) (nx (by omega))
 ·exact bC (u:={m with bJ:=false}) n9 (by rw [ef,if_neg (by omega),if_neg (by omega),e3];rfl) (nx (by omega))
 ·exact bC (u:={m with halt:=1}) n9 (by rw [ef,if_pos (by omega)]) (nx (by omega))
theorem TA {a b:Int} (ha:Wo a) (hb:Wo b):(AX 1 a b=true↔a=b)/\(AX 2 a b=true↔a<b):=by
 rw [QS,QT,tY,tY,bE (show 0<=a/\a<=65535 from ha),bE (show 0<=b/\b<=65535 from hb)];simp
theorem ag9 {p1 f1 p2 f2 p5 f5} (U1:Y24 p1 f1) (U2:aao p2 f2) {p3:Int×Int×Bool×Bool×Int×List Int×Int×Ins×List Int×List Int×List Int×Unit->Bool} {f3:Int×Int×Bool×Bool×Int×List Int×Int×Ins×List Int×List Int×List Int×Unit->Int×Int×Bool×Bool×Int×List Int×Int×List Int×List Int×List Int×Unit} (hp3:∀(m:aA) (i:Ins),MOK m->bF i->(i.op=14\/i.op=15)->m.ins.length<1000000000->m.outs.length<900000000->p3 (m.pc,m.save,m.bJ,m.waits,m.halt,m.ins,m.count,i,m.regs,m.mem,m.outs,())=true) (hf3:∀(m:aA) (i:Ins),MOK m->bF i->(i.op=14\/i.op=15)->m.ins.length<1000000000->m.outs.length<900000000->f3 (m.pc,m.save,m.bJ,m.waits,m.halt,m.ins,m.count,i,m.regs,m.mem,m.outs,())=mB (exec m i)) {p4:Int×Int×Bool×Bool×Int×List Int×Int×Ins×List Int×List Int×List Int×Unit->Bool} {f4:Int×Int×Bool×Bool×Int×List Int×Int×Ins×List Int×List Int×List Int×Unit->Int×Int×Bool×Bool×Int×List Int×Int×List Int×List Int×List Int×Unit} (hp4:∀(m:aA) (i:Ins),MOK m->bF i->(i.op=9\/i.op=10)->p4 (m.pc,m.save,m.bJ,m.waits,m.halt,m.ins,m.count,i,m.regs,m.mem,m.outs,())=true) (hf4:∀(m:aA) (i:Ins),MOK m->bF i->(i.op=9\/i.op=10)->f4 (m.pc,m.save,m.bJ,m.waits,m.halt,m.ins,m.count,i,m.regs,m.mem,m.outs,())=mB (exec m i)) (U5:ag5 p5 f5) {p6:Int×Int×Unit->Bool} {f6:Int×Int×Unit->Int×Unit} (hp6:∀(v k:Int),Wo v->0<=k->k<=15->p6 (v,k,())=true) (hf6:∀(v k:Int),Wo v->0<=k->k<=15->f6 (v,k,())=(v*2^k.toNat%65536,())) {p7:Int×Int×Bool×Bool×Int×List Int×Int×Int×List Int×List Int×List Int×Unit->Bool} {f7:Int×Int×Bool×Bool×Int×List Int×Int×Int×List Int×List Int×List Int×Unit->Int×Int×Bool×Bool×Int×List Int×Int×List Int×List Int×List Int×Unit} (hp7:∀(m:aA) (i:Ins),MOK m->i.op=0->p7 (m.pc,m.save,m.bJ,m.waits,m.halt,m.ins,m.count,i.k,m.regs,m.mem,m.outs,())=true) (hf7:∀(m:aA) (i:Ins),MOK m->i.op=0->i.k<=3->0<=i.k->f7 (m.pc,m.save,m.bJ,m.waits,m.halt,m.ins,m.count,i.k,m.regs,m.mem,m.outs,())=mB (exec m i)) (m:aA) (i:Ins) (h:MOK m) (hi:bF i) (hn:m.ins.length<1000000000) (ho:m.outs.length<900000000):Qq (std 0).al p1 f1 p2 f2 p3 f3 p4 f4 p5 f5 p6 f6 p7 f7 (m.pc,m.save,m.bJ,m.waits,m.halt,m.ins,m.count,i,m.regs,m.mem,m.outs,()) (λy=>y=mB (exec m i)):=by
 have hi':=hi
 obtain⟨⟨o0,o1⟩,⟨d0,d1⟩,⟨a0,a1⟩,k0,r0,r1,r2,r3,r8,r9,_⟩:=hi
 have r4:=h.r4
 have c:=h.ct
 have pw:0<=m.pc/\m.pc<=65535:=h.pc
 have wa:=h.rw.at i.a
 have wd:=h.rw.at i.d
 obtain⟨q1,q2⟩:=TA wd wa
 have wa':0<=((m.regs).getD (i.a).toNat default)/\((m.regs).getD (i.a).toNat default)<=65535:=wa
 have H5:=λv=>U5.hf m i.d v h d0 d1
 have P5:=λv=>U5.hp m i.d v h d0 d1
 have H2:=λn=>U2.hf m n c
 have P2:=λn=>U2.hp m n c
 dsimp only [Qq,Tup.q,Tup.o,Tup.e3,Tup.e10,Tup.e17]
 rcases(by omega:i.op=0\/i.op=1\/i.op=2\/(3<=i.op/\i.op<=7)\/i.op=8\/(i.op=9\/i.op=10)\/i.op=11\/i.op=12\/i.op=13\/(i.op=14\/i.op=15))with e | e | e | e | e | e | e | e | e | e
 case inr.inr.inr.inl=>
  have n0:∀z:Int,z<3\/7<z->¬i.op=z:=λz g q=>by omega
  have kk:=r3 e
  simp (disch:=omega) only [RR,IR,n0 0 (by omega),n0 1 (by omega),n0 2 (by omega),n0 8 (by omega),n0 9 (by omega),n0 10 (by omega),n0 11 (by omega),n0 12 (by omega),n0 13 (by omega),n0 14 (by omega),n0 15 (by omega),U1.hp,U1.hf,H5,P5,r4,d0,a0,k0]
  refine⟨by omega,by omega,by omega,by omega,?_⟩
  rw [show i.op-3+1=i.op-2 by omega]
  exact bC (u:={m with regs:=m.regs.set i.d.toNat (wdo (i.op-2) ((m.regs).getD (i.a).toNat default) ((m.regs).getD (i.k).toNat default))}) (n9 (by omega)) (efd e) (nxp (by omega))
 case inr.inr.inr.inr.inr.inl=>
  rcases e with e | e<;>simp (disch:=omega) only [RR,IR,e,Int.reduceEq,hp4 m i h hi' (by omega),hf4 m i h hi' (by omega),r4,d0,a0,k0]
  all_goals exact⟨by omega,by omega⟩
 case inr.inr.inr.inr.inr.inr.inr.inr.inr=>
  rcases e with e | e<;>simp (disch:=omega) only [RR,IR,e,Int.reduceEq,hp3 m i h hi' (by omega) hn ho,hf3 m i h hi' (by omega) hn ho,r4,d0,a0,k0]
  all_goals exact⟨by omega,by omega⟩
 case inl=>
  simp (disch:=omega) only [RR,IR,e,Int.reduceEq,hp7 m i h e,r4,d0,a0,k0]
  exact⟨by omega,by omega,hf7 m i h e (r0 e).2.2 k0⟩
 case inr.inr.inr.inr.inl=>
  simp (disch:=omega) only [RR,IR,e,Int.reduceEq,hp6 _ _ wa k0 (r8 e),hf6 _ _ wa k0 (r8 e),H5,P5,r4,d0,a0,k0]
  exact⟨by omega,by omega,bC (u:={m with regs:=m.regs.set i.d.toNat (((m.regs).getD (i.a).toNat default)*2^i.k.toNat%65536)}) (n9 (by omega)) (ef8 e) (nxp (by omega))⟩
 all_goals simp (disch:=omega) only [RR,IR,e,Int.reduceEq,H5,P5,H2,P2,r4,d0,a0,k0]
 ·exact⟨by omega,by omega,bC (u:={m with regs:=m.regs.set i.d.toNat i.k}) (n9 (by omega)) (ef1 e) (nxp (by omega))⟩
 ·exact⟨by omega,by omega,bC (u:={m with regs:=m.regs.set i.d.toNat ((m.regs).getD (i.a).toNat default)}) (n9 (by omega)) (ef2 e) (nxp (by omega))⟩
 ·have ef:eff m i=m:=efj (by omega)
  have k1:=r9 (by omega)
  refine⟨by omega,by omega,by omega,by omega,λg=> ?_,λg=> ?_⟩
  ·rw [show i.k%65536=i.k by omega]
   exact bC (u:=m) (n9 (by omega)) ef (by unfold nxt;rw [if_neg (by omega),if_pos ⟨Or.inl e,by rw [e];exact q1.2 g⟩])
  ·exact bC (u:=m) (n9 (by omega)) ef (by unfold nxt;rw [if_neg (by omega),if_neg (λq=>g (q1.1 (by have:=q.2;rw [e]at this;exact this))),if_neg (by omega)])
 ·have ef:eff m i=m:=efj (by omega)
  have k1:=r9 (by omega)
  refine⟨by omega,by omega,by omega,by omega,λg=> ?_,λg=> ?_⟩
  ·rw [show i.k%65536=i.k by omega]
   exact bC (u:=m) (n9 (by omega)) ef (by unfold nxt;rw [if_neg (by omega),if_pos ⟨Or.inr e,by rw [e];exact q2.2 g⟩])
  ·exact bC (u:=m) (n9 (by omega)) ef (by unfold nxt;rw [if_neg (by omega),if_neg (λq=>g (q2.1 (by have:=q.2;rw [e]at this;exact this))),if_neg (by omega)])
 ·have ef:eff m i=m:=efj (by omega)
  rw [show((m.regs).getD (i.a).toNat default)%65536=((m.regs).getD (i.a).toNat default) by omega]
  exact⟨by omega,by omega,bC (u:=m) (n9 (by omega)) ef (by unfold nxt;rw [if_neg (by omega),if_neg (by omega),if_pos e];rfl)⟩
def smp (m:aA) (b:Bool):aA:=if(m.waits || b)=true/\m.bJ=true then {m with waits:=false,bJ:=false,save:=m.pc,pc:=48}else {m with waits:=m.waits || b}
theorem aaq (m:aA) (b:Bool):Qi (std 0).al (m.pc,m.save,m.bJ,m.waits,m.halt,m.ins,m.count,b,m.regs,m.mem,m.outs,()) (λy=>y=mB (smp m b)):=by
 dsimp only [Qi,Tup.q,Tup.o]
 unfold smp
 cases hw:m.waits<;>cases hb:b<;>cases hl:m.bJ<;>simp
theorem aar (l:List Int) (n:Int) (h:l.length<1000000000):Qt (std 0).al (l,n,()) (λy=>y=(bp (n∈l),())):=by
 dsimp only [Qt,Tup.q,Tup.o,Tup.e1]
 simp (disch:=omega) only [RR]
 refine aG (λ(y:List Int×Int×Int×Unit)=>y.1=l/\y.2.1=n/\0<=y.2.2.1/\y.2.2.1<=l.length/\n∉l.take y.2.2.1.toNat) (λy=>(l.length-y.2.2.1).toNat) ⟨rfl,rfl,by simp,by simp,by simp⟩ ?_
 rintro⟨(l:List Int),(n:Int),(i:Int),⟨⟩⟩ hI
 dsimp only at hI ⊢
 obtain⟨rfl,rfl,h1,h2,h3⟩:=hI
 simp (disch:=omega) only [RR]
 refine⟨λg=>⟨h1,g,λe=> ?_,λe=>⟨⟨by omega,by omega,λq=> ?_⟩,by omega⟩⟩,λg=> ?_⟩
 ·rw [bE (by rw [<-e];exact jD h1 g)]
 ·rw [show(i+1).toNat=i.toNat+1 by omega,List.take_succ_eq_append_getElem (by omega),List.mem_append,List.mem_singleton,<-getD_lt (d:=default) (show i.toNat<l.length by omega)]at q
  exact q.elim h3 (λz=>e z.symm)
 ·rw [List.take_of_length_le (by omega)]at h3
  rw [dw h3]
end Go.TX.F
namespace Go.TX.F
open Go Go.AE Go.TX
def fm (i:Ins):Bool:=if i.op=0 then decide (i.d=0)&&decide (i.a=0)&&decide (i.k<=3)else if i.op=1 then decide (i.a=0)else if i.op=2 then decide (i.k=0)else if 3<=i.op/\i.op<=7 then decide (i.k<4)else if i.op=8 then decide (i.k<16)else if i.op=13 then decide (i.d=0)&&decide (i.k=0)else if i.op=14\/i.op=15 then decide (i.a=0)&&decide (i.k=0)else true
theorem aqm (b:Bool):bp (b=true)=b:=by
 cases b with
 | true=>exact bE rfl
 | false=>exact dw (by decide)
theorem aha (i:Ins):(inB i.op 0 15&&inB i.d 0 3&&inB i.a 0 3&&inB i.k 0 255&&fm i)=bp (bF i):=by
 have h:((0<=i.op/\i.op<=15)/\(0<=i.d/\i.d<=3)/\(0<=i.a/\i.a<=3)/\(0<=i.k/\i.k<=255)/\fm i=true)↔bF i:=by
  unfold bF fm
  split
  ·simp only [Bool.and_eq_true,decide_eq_true_eq];omega
  split
  ·simp only [decide_eq_true_eq];omega
  split
  ·simp only [decide_eq_true_eq];omega
  split
  ·simp only [decide_eq_true_eq];omega
  split
  ·simp only [decide_eq_true_eq];omega
  split
  ·simp only [Bool.and_eq_true,decide_eq_true_eq];omega
  split
  ·simp only [Bool.and_eq_true,decide_eq_true_eq];omega
  ·simp only [eq_self,and_true];omega
 rw [<-tN h]
 simp only [tY,tL,Bool.and_assoc,aqm]
theorem uf (i:Ins):PZ (std 0).al (i,()) (λy=>y=(fm i,())):=by
 dsimp only [PZ,Tup.q,Tup.o,Tup.e1,Tup.e3]
 rcases(by omega:(i.op=0\/i.op=1\/i.op=2\/i.op=3\/i.op=4\/i.op=5\/i.op=6\/i.op=7\/i.op=8\/i.op=13\/i.op=14\/i.op=15)\/(¬(0<=i.op/\i.op<=8)/\¬(13<=i.op/\i.op<=15)))with(e | e | e | e | e | e | e | e | e | e | e | e) | ⟨n1,n2⟩
 case inr=>
  have n:∀z:Int,(0<=z/\z<=8)\/(13<=z/\z<=15)->¬i.op=z:=λz g q=>by omega
  have n3:¬(3<=i.op/\i.op<=7):=λq=>by omega
  simp (disch:=omega) only [RR,IR,n]
  unfold fm
  simp (disch:=omega) only [n,n3,if_false,or_self]
 all_goals simp (disch:=omega) only [RR,IR,e,Int.reduceEq]
 all_goals unfold fm
 all_goals simp [e]
end Go.TX.F
namespace Go.TX.F
open Go Go.AE Go.TX
theorem Gr {p1 f1} (U1:Y1 p1 f1) {p2:Ins×Unit->Bool} {f2:Ins×Unit->Bool×Unit} (hp2:∀i,p2 (i,())=true) (hf2:∀i,f2 (i,())=(fm i,())) (i:Ins):Xc (std 0).al p1 f1 p2 f2 (i,()) (λy=>y=(bp (bF i),())):=by
 dsimp only [Xc,Tup.q,Tup.o,Tup.e1]
 simp (disch:=omega) only [RR,IR,U1.hp,U1.hf,hp2,hf2]
 rw [aha]
noncomputable def tkI (w:Int):Int×Int×Int×Int×Bool×Unit:=if bp (Wo w/\bF (iF w))=true then((iF w).op,(iF w).d,(iF w).a,(iF w).k,true,())else(0,0,0,0,false,())
theorem amJ {p1 f1 p2 f2} (U1:QU p1 f1) (U2:Y9 p2 f2) (w:Int):XE (std 0).al p1 f1 p2 f2 (w,()) (λy=>y=tkI w):=by
 dsimp only [XE,Tup.q,Tup.o,Tup.e1]
 simp (disch:=omega) only [RR,U1.hp,U1.hf,U2.hp,U2.hf,tY]
 by_cases h:Wo w
 ·obtain⟨w0,w1⟩:=id h
  have e:∀x y z u:Int,Co.mk .ins (x,y,z,u,())=⟨x,y,z,u⟩:=λ_ _ _ _=>rfl
  have q:∀n:Int,0<n->0<=w/n/\w/n<=65535:=λn hn=>⟨Int.ediv_nonneg w0 (by omega),Int.le_trans (Int.ediv_le_self _ w0) w1⟩
  have q1:=q 4096 (by decide)
  have q2:=q 1024 (by decide)
  have q3:=q 256 (by decide)
  rw [bE (show 0<=w/\w<=65535 from h)]
  simp (disch:=omega) only [RR,e,Int.tdiv_eq_ediv_of_nonneg,Int.tmod_eq_emod_of_nonneg]
  have ed:(⟨w/4096,w/1024%4,w/256%4,w%256⟩:Ins)=iF w:=rfl
  unfold tkI
  by_cases k:bF (iF w)
  ·rw [ed,bE k,bE ⟨h,k⟩];simp;rfl
  ·rw [ed,dw k,dw (λg=>k g.2)];simp
 ·rw [dw (show¬(0<=w/\w<=65535)from h)]
  unfold tkI
  rw [dw (λg=>h g.1)]
  simp
noncomputable def jF (i:Ins):Int:=if bp (bF i)=true then FZ i else 0
theorem vK (i:Ins):Wo (jF i):=by
 unfold jF
 split
 ·rename_i h
  obtain⟨⟨o0,o1⟩,⟨d0,d1⟩,⟨a0,a1⟩,k0,h⟩:=cO.1 h
  unfold FZ Wo;omega
 ·exact wo0
theorem amK {p1 f1} (U1:QU p1 f1) (i:Ins):Xy (std 0).al p1 f1 (i,()) (λy=>y=(jF i,())):=by
 dsimp only [Xy,Tup.q,Tup.o,Tup.e1]
 simp (disch:=omega) only [RR,IR,U1.hp,U1.hf]
 unfold jF FZ
 refine⟨λh=>by rw [h];rfl,λh=> ?_⟩
 rw [if_pos h]
 obtain⟨⟨o0,o1⟩,⟨d0,d1⟩,⟨a0,a1⟩,k0,h⟩:=cO.1 h
 have k1:i.k<=255:=by omega
 simp (disch:=omega) only [w64]
structure ahb (pp:Ins×Unit->Bool) (ff:Ins×Unit->Int×Unit):Prop where
 hp:∀i,pp (i,())=true
 hf:∀i,ff (i,())=(jF i,())
theorem amL {p1 f1} (U1:ahb p1 f1) (l:List Ins) (hl:l.length<1000000):Xz (std 0).al p1 f1 (l,()) (λy=>y=(l.map jF,())):=by
 dsimp only [Xz,Tup.q,Tup.o,Tup.e1]
 simp (disch:=omega) only [RR,List.length_nil]
 refine aG (λ(y:List Ins×Int×List Int×Unit)=>y.1=l/\0<=y.2.1/\y.2.1<=l.length/\y.2.2.1=(l.take y.2.1.toNat).map jF) (λy=>(l.length-y.2.1).toNat) ⟨rfl,by simp,by simp,by simp⟩ ?_
 rintro⟨(l:List Ins),(i:Int),(o:List Int),⟨⟩⟩ hI
 dsimp only at hI ⊢
 obtain⟨rfl,h1,h2,rfl⟩:=hI
 simp (disch:=omega) only [RR,U1.hp,U1.hf,List.length_map,List.length_cons,List.length_nil]
 have h3:=List.length_take_le' i.toNat l
 refine⟨λh4=>⟨by omega,by omega,by omega,⟨by omega,by omega,?_⟩,by omega⟩,λh4=>by rw [List.take_of_length_le (by omega)]⟩
 rw [<-pE (d:=default) h1 h4 rfl,List.map_append];rfl
theorem ahc {l:List Int} (h:Wos l) {n:Int} (w:Wo n):Wos (n::l):=λx hx=>(List.mem_cons.1 hx).elim (λe=>e▸w) (h x)
noncomputable def jG (w i:List Int):aA:=if bp (w.length<=64/\Wos w/\Wos i)=true then⟨[0,0,0,0],0,w++List.replicate (64-w.length) 0,0,false,false,0,i,[],0⟩else QO
theorem acJ {w i:List Int} (h:w.length<=64) (hw:Wos w) (hi:Wos i):MOK (jG w i):=by
 unfold jG
 rw [bE ⟨h,hw,hi⟩,if_pos rfl]
 have z:∀n:Nat,Wos (List.replicate n 0):=λn x hx=>by rw [List.eq_of_mem_replicate hx];exact wo0
 exact⟨rfl,z 4,by show(w++List.replicate (64-w.length) 0).length=64;rw [List.length_append,List.length_replicate];omega,λx hx=>(List.mem_append.1 hx).elim (hw x) (z _ x),wo0,wo0,hi,λx hx=>(by cases hx),⟨show(0:Int)<=0 by decide,show(0:Int)<=4 by decide⟩,⟨show(0:Int)<=0 by decide,show(0:Int)<=1000000 by decide⟩⟩
theorem amM {p1 f1} (U1:agT p1 f1) (w i:List Int) (hw:w.length<1000000) (hi:i.length<1000000):Xv (std 0).al p1 f1 (w,i,()) (λy=>y=((jG w i).pc,(jG w i).save,(jG w i).bJ,(jG w i).waits,(jG w i).halt,(jG w i).count,(jG w i).regs,(jG w i).mem,(jG w i).ins,())):=by
 have P:=U1.hp w (by omega)
 have P':=U1.hp i (by omega)
 have Q:=U1.hf w (by omega)
 have Q':=U1.hf i (by omega)
 dsimp only [Xv,Tup.q,Tup.o,Tup.e1,Tup.e9,Tup.e15]
 simp (disch:=omega) only [RR,P,P',Q,Q',iE,List.nil_append,List.length_nil]
 by_cases c:w.length<=64/\Wos w/\Wos i
 ·have e:jG w i=⟨[0,0,0,0],0,w++List.replicate (64-w.length) 0,0,false,false,0,i,[],0⟩:=by unfold jG;rw [bE c,if_pos rfl]
  obtain⟨c1,c2,c3⟩:=c
  rw [e,bE c2,bE c3]
  refine⟨λq=>absurd q (by simp;omega),λ_=>⟨by omega,?_⟩⟩
  have lm:(w++List.replicate (64-w.length) (0:Int)).length=64:=by rw [List.length_append,List.length_replicate];omega
  have am:∀k:Nat,k<64->(w++List.replicate (64-w.length) (0:Int))[k]? =some (if k<w.length then w.getD k default else 0):=λk hk=>by
   by_cases g:k<w.length
   ·rw [if_pos g,List.getElem?_append_left g,List.getElem?_eq_getElem g,getD_lt g]
   ·rw [if_neg g,List.getElem?_append_right (by omega),List.getElem?_replicate,if_pos (by omega)]
  generalize w++List.replicate (64-w.length) (0:Int)=M at lm am
  refine aG (λ(y:List Int×Int×Int×Int×Bool×Bool×Int×Int×Int×Int×Bool×Bool×Int×Int×List Int×List Int×List Int×Unit)=>y.1=w/\0<=y.2.1/\y.2.1<=64/\y.2.2.2.2.2.2.2.2=(0,0,false,false,0,0,[0,0,0,0],M.take y.2.1.toNat,i,())) (λy=>(64-y.2.1).toNat) ⟨rfl,by simp,by simp,rfl⟩ ?_
  rintro⟨(w:List Int),(k:Int),u1,u2,u3,u4,u5,u6,v1,v2,v3,v4,v5,v6,r,l,j,⟨⟩⟩ hI
  dsimp only at hI ⊢
  obtain⟨rfl,h1,h2,h3⟩:=hI
  simp only [Prod.mk.injEq,and_true]at h3
  obtain⟨rfl,rfl,rfl,rfl,rfl,rfl,rfl,rfl,rfl⟩:=h3
  have tl:(M.take k.toNat).length<=64:=by rw [List.length_take];omega
  have nx:k<64->M.take (k+1).toNat=M.take k.toNat++ [if k.toNat<w.length then w.getD k.toNat default else 0]:=λg=>by
   rw [show(k+1).toNat=k.toNat+1 by omega,List.take_add_one,am _ (by omega)];rfl
  simp (disch:=omega) only [RR,List.length_cons,List.length_nil]
  refine⟨λg=>⟨λg2=>⟨h1,g2,by omega,⟨by omega,by omega,?_⟩,by omega⟩,λg2=>⟨by omega,⟨by omega,by omega,?_⟩,by omega⟩⟩,λg=> ?_⟩
  ·rw [nx g,if_pos (by omega)]
  ·rw [nx g,if_neg (by omega)]
  ·rw [List.take_of_length_le (by omega)]
 ·have e:jG w i=QO:=by unfold jG;rw [dw c,if_neg (by decide)]
  rw [e]
  refine⟨λ_=>rfl,λg=>absurd ⟨by omega,cO.1 g.1.2,cO.1 g.2⟩ c⟩
end Go.TX.F
namespace Go.TX.F
open Go Go.AE Go.TX
theorem ug (m:aA) (b:Bool):stepM m b=(if 64<=(smp m b).pc then {smp m b with halt:=4}else if bp (bF (iF (((smp m b).mem).getD ((smp m b).pc).toNat default)))=false then {smp m b with halt:=2}else exec (smp m b) (iF (((smp m b).mem).getD ((smp m b).pc).toNat default))):=rfl
theorem QW {m:aA} (h:MOK m) (b:Bool):MOK (smp m b):=by
 unfold smp
 split
 ·exact {h with sv:=h.pc,pc:=⟨show(0:Int)<=48 by decide,show(48:Int)<=65535 by decide⟩}
 ·exact {h with}
theorem Jz (m:aA) (b:Bool):(smp m b).ins=m.ins/\(smp m b).outs=m.outs/\(smp m b).count=m.count:=by unfold smp;split<;>exact⟨rfl,rfl,rfl⟩
theorem ahd {m:aA} (h:MOK m) {i:Ins} (hi:bF i):Wo (nxt m i):=by
 obtain⟨_,_,_,k0,_,_,_,_,_,r9,_⟩:=hi
 unfold nxt
 split
 ·exact h.sv
 split
 ·rename_i c;exact⟨k0,by have:=r9 (by omega);omega⟩
 split
 ·exact h.rw.at _
 ·unfold Wo;omega
theorem acK (m:aA) (i:Ins):(eff m i).count=m.count/\(eff m i).ins.length<=m.ins.length/\(eff m i).outs.length<=m.outs.length+1:=by
 unfold eff
 repeat' split
 all_goals refine⟨rfl,?_,?_⟩
 all_goals first | exact Nat.le_refl _ | exact Nat.le_succ _ | (simp only [List.length_append,List.length_cons,List.length_nil];omega) | (simp only [List.length_drop];omega)
theorem lJ {m:aA} (h:MOK m) {i:Ins} (hi:bF i) (c:m.count<1000000):MOK (exec m i):=by
 unfold exec
 split
 ·exact {h with ha:=⟨show(0:Int)<=3 by decide,show(3:Int)<=4 by decide⟩}
 ·have:=h.ct
  exact {QV h hi with pc:=ahd h hi,ct:=⟨show 0<=m.count+1 by omega,show m.count+1<=1000000 by omega⟩}
theorem acL (m:aA) (i:Ins):(exec m i).ins.length<=m.ins.length/\(exec m i).outs.length<=m.outs.length+1:=by
 unfold exec
 split
 ·exact⟨Nat.le_refl _,Nat.le_succ _⟩
 ·exact(acK m i).2
theorem F6 {m:aA} (h:MOK m) (c:m.count<1000000) (b:Bool):MOK (stepM m b):=by
 have s:=QW h b
 rw [ug]
 split
 ·exact {s with ha:=⟨show(0:Int)<=4 by decide,show(4:Int)<=4 by decide⟩}
 split
 ·exact {s with ha:=⟨show(0:Int)<=2 by decide,show(2:Int)<=4 by decide⟩}
 ·rename_i g
  exact lJ s (cO.1 (by simpa using g)) (by rw [(Jz m b).2.2];exact c)
theorem F7 (m:aA) (b:Bool):(stepM m b).ins.length<=m.ins.length/\(stepM m b).outs.length<=m.outs.length+1:=by
 obtain⟨e1,e2,_⟩:=Jz m b
 rw [ug]
 split
 ·exact⟨by rw [<-e1];exact Nat.le_refl _,by rw [<-e2];exact Nat.le_succ _⟩
 split
 ·exact⟨by rw [<-e1];exact Nat.le_refl _,by rw [<-e2];exact Nat.le_succ _⟩
 ·rw [<-e1,<-e2];exact acL _ _
noncomputable def stS (m:aA) (b:Bool):aA:=if bp (MOK m)=true then(if m.halt≠0\/m.count=1000000 then m else stepM m b)else QO
structure amN (pp:Int×Unit->Bool) (ff:Int×Unit->Int×Int×Int×Int×Bool×Unit):Prop where
 hp:∀w,pp (w,())=true
 hf:∀w,ff (w,())=tkI w
theorem amO {p1 f1 p2 f2 p3 f3 p5 f5} (U1:amN p1 f1) (U2:aag p2 f2) (U3:acF p3 f3) {p4:Int×Int×Bool×Bool×Int×List Int×Int×Ins×List Int×List Int×List Int×Unit->Bool} {f4:Int×Int×Bool×Bool×Int×List Int×Int×Ins×List Int×List Int×List Int×Unit->Int×Int×Bool×Bool×Int×List Int×Int×List Int×List Int×List Int×Unit} (hp4:∀(m:aA) (i:Ins),MOK m->bF i->m.ins.length<1000000000->m.outs.length<900000000->p4 (m.pc,m.save,m.bJ,m.waits,m.halt,m.ins,m.count,i,m.regs,m.mem,m.outs,())=true) (hf4:∀(m:aA) (i:Ins),MOK m->bF i->m.ins.length<1000000000->m.outs.length<900000000->f4 (m.pc,m.save,m.bJ,m.waits,m.halt,m.ins,m.count,i,m.regs,m.mem,m.outs,())=mB (exec m i)) (U5:ag4 p5 f5) {p6:Int×Int×Bool×Bool×Int×List Int×Int×Bool×List Int×List Int×List Int×Unit->Bool} {f6:Int×Int×Bool×Bool×Int×List Int×Int×Bool×List Int×List Int×List Int×Unit->Int×Int×Bool×Bool×Int×List Int×Int×List Int×List Int×List Int×Unit} (hp6:∀(m:aA) (b:Bool),p6 (m.pc,m.save,m.bJ,m.waits,m.halt,m.ins,m.count,b,m.regs,m.mem,m.outs,())=true) (hf6:∀(m:aA) (b:Bool),f6 (m.pc,m.save,m.bJ,m.waits,m.halt,m.ins,m.count,b,m.regs,m.mem,m.outs,())=mB (smp m b)) (m:aA) (b:Bool) (h:MSh m) (ho:m.outs.length<900000000):XJ (std 0).al p1 f1 p2 f2 p3 f3 p4 f4 p5 f5 p6 f6 (m,b,()) (λy=>y=mB (stS m b)):=by
 have P6:=hp6 m b
 have H6:=hf6 m b
 dsimp only [XJ,Tup.q,Tup.o,Tup.e1,Tup.e3,Tup.e10]
 simp (disch:=omega) only [RR,MRB,U1.hp,U1.hf,U2.hp m h,U2.hf m h,U3.hp m h,U3.hf m h,P6,H6]
 unfold stS
 refine⟨λg=>by rw [if_neg (by rw [g];decide)];rfl,λg=> ?_⟩
 have ok:=cO.1 g
 have s:=QW ok b
 obtain⟨e1,e2,_⟩:=Jz m b
 have m64:=s.m64
 have pw:0<=(smp m b).pc/\(smp m b).pc<=65535:=s.pc
 have P5:=U5.hp (smp m b)
 have H5:=U5.hf (smp m b)
 rw [if_pos g]
 refine⟨λq=>by rw [if_pos q],λq=> ?_⟩
 rw [if_neg (by omega),ug]
 have wm:=s.mw.at (smp m b).pc
 simp only [P5,H5]
 refine⟨λq=>⟨trivial,by rw [if_pos q]⟩,λq=>⟨by omega,by omega,by omega,by omega,?_⟩⟩
 rw [if_neg (by omega)]
 by_cases k:bF (iF (((smp m b).mem).getD ((smp m b).pc).toNat default))
 ·have t:tkI (((smp m b).mem).getD ((smp m b).pc).toNat default)=((iF (((smp m b).mem).getD ((smp m b).pc).toNat default)).op,(iF (((smp m b).mem).getD ((smp m b).pc).toNat default)).d,(iF (((smp m b).mem).getD ((smp m b).pc).toNat default)).a,(iF (((smp m b).mem).getD ((smp m b).pc).toNat default)).k,true,()):=by unfold tkI;rw [bE ⟨wm,k⟩,if_pos rfl]
  rw [t,bE k,if_neg (by decide)]
  have P4:=hp4 (smp m b) _ s k (by rw [e1];exact h.2.2.1) (by rw [e2];exact ho)
  have H4:=hf4 (smp m b) _ s k (by rw [e1];exact h.2.2.1) (by rw [e2];exact ho)
  exact⟨λc=>(by cases c),λ_=>⟨P4,H4⟩⟩
 ·have t:tkI (((smp m b).mem).getD ((smp m b).pc).toNat default)=(0,0,0,0,false,()):=by unfold tkI;rw [dw (λq=>k q.2),if_neg (by decide)]
  rw [t,dw k,if_pos rfl]
  exact⟨λ_=>⟨trivial,rfl⟩,λc=>(by cases c)⟩
noncomputable def kQ (q:List Int):Nat->aA->aA
 | 0,m=>m
 | k+1,m=>if m.halt=0/\m.count<1000000 then kQ q k (stepM m (bp (m.count∈q)))else m
theorem TB (q:List Int):∀(k:Nat) {m:aA},MOK m->MOK (kQ q k m)
 | 0,m,h=>h
 | k+1,m,h=>by
  unfold kQ
  split
  ·rename_i c;exact TB q k (F6 h c.2 _)
  ·exact h
theorem TD (q:List Int):∀(k:Nat) (m:aA),(kQ q k m).ins.length<=m.ins.length/\(kQ q k m).outs.length<=m.outs.length+k
 | 0,m=>⟨Nat.le_refl _,Nat.le_refl _⟩
 | k+1,m=>by
  unfold kQ
  split
  ·have a:=TD q k (stepM m (bp (m.count∈q)))
   have b:=F7 m (bp (m.count∈q))
   omega
  ·omega
noncomputable def jU (q:List Int) (n:Int) (m:aA):aA:=if bp (MOK m/\n<=400)=true then kQ q n.toNat m else QO
structure amP (pp:List Int×Int×Unit->Bool) (ff:List Int×Int×Unit->Bool×Unit):Prop where
 hp:∀l n,l.length<1000000000->pp (l,n,())=true
 hf:∀l n,l.length<1000000000->ff (l,n,())=(bp (n∈l),())
theorem amQ {p1 f1 p3 f3 p4 f4} (U1:aag p1 f1) {p2:aA×Bool×Unit->Bool} {f2:aA×Bool×Unit->Int×Int×Bool×Bool×Int×List Int×Int×List Int×List Int×List Int×Unit} (hp2:∀m b,MSh m->m.outs.length<900000000->p2 (m,b,())=true) (hf2:∀m b,MSh m->m.outs.length<900000000->f2 (m,b,())=mB (stS m b)) (U3:acF p3 f3) (U4:amP p4 f4) (m:aA) (q:List Int) (n:Int) (h:MSh m) (hq:q.length<1000000000) (ho:m.outs.length<800000000):XK (std 0).al p1 f1 p2 f2 p3 f3 p4 f4 (m,q,n,()) (λy=>y=mB (jU q n m)):=by
 dsimp only [XK,Tup.q,Tup.o,Tup.e1,Tup.e10]
 simp (disch:=omega) only [RR,MRB,U1.hp m h,U1.hf m h,U3.hp m h,U3.hf m h]
 refine⟨λg=> ?_,λg=> ?_⟩
 ·unfold jU
  rw [tL,if_neg]
  ·rfl
  ·rcases g with g | g
   ·rw [g];simp
   ·rw [dw (show¬n<=400 by omega)];simp
 have ok:=cO.1 g.1
 have e:jU q n m=kQ q n.toNat m:=by unfold jU;rw [bE ⟨ok,by omega⟩,if_pos rfl]
 rw [e]
 have n4:n<=400:=by omega
 refine aG (λ(y:List Int×Int×Int×Int×Int×Bool×Bool×Int×Int×Int×Int×Bool×Bool×Int×List Int×Int×List Int×List Int×List Int×Unit)=>∃(x:aA) (k:Nat),y.1=q/\y.2.1=n/\y.2.2.1=k/\k<=n.toNat/\y.2.2.2.2.2.2.2.2.2=mB x/\MOK x/\x.ins.length<=m.ins.length/\x.outs.length<=m.outs.length+k/\kQ q (n.toNat-k) x=kQ q n.toNat m) (λy=>(n-y.2.2.1).toNat)
  ⟨m,0,rfl,rfl,rfl,by omega,rfl,ok,Nat.le_refl _,Nat.le_refl _,rfl⟩ ?_
 rintro⟨(q:List Int),(n:Int),(i:Int),u1,u2,u3,u4,u5,u6,v1,v2,v3,v4,v5,v6,v7,v8,v9,v10,⟨⟩⟩ ⟨x,k,hI⟩
 dsimp only at hI ⊢
 obtain⟨rfl,rfl,rfl,h1,h2,h3,h4,h5,h6⟩:=hI
 simp only [Prod.mk.injEq,and_true]at h2
 obtain⟨rfl,rfl,rfl,rfl,rfl,rfl,rfl,rfl,rfl,rfl⟩:=h2
 have xs:MSh x:=⟨by rw [h3.r4];decide,by rw [h3.m64];decide,by have:=h.2.2.1;omega,by omega⟩
 have mK:Co.mk .aB (x.regs,x.pc,x.mem,x.save,x.bJ,x.waits,x.halt,x.ins,x.outs,x.count,())=x:=rfl
 simp (disch:=omega) only [RR,mK,U4.hp _ _ hq,U4.hf _ _ hq,hp2 x _ xs (by omega),hf2 x _ xs (by omega)]
 refine⟨λg=> ?_,λg=> ?_⟩
 ·have e:stS x (bp (x.count∈q))=stepM x (bp (x.count∈q)):=by unfold stS;rw [bE h3,if_pos rfl,if_neg (by omega)]
  rw [e]
  have l:=F7 x (bp (x.count∈q))
  refine⟨⟨stepM x (bp (x.count∈q)),k+1,rfl,by omega,rfl,F6 h3 (by omega) _,by omega,by omega,?_⟩,by omega⟩
  rw [<-h6,show n.toNat-k=(n.toNat- (k+1))+1 by omega]
  conv=>rhs;unfold kQ
  rw [if_pos (by omega)]
 ·rw [<-h6]
  by_cases c:(k:Int)<n
  ·rw [show n.toNat-k=(n.toNat- (k+1))+1 by omega]
   unfold kQ
   rw [if_neg (λz=>by rw [decide_eq_true c,decide_eq_true z.1,decide_eq_true z.2]at g;cases g)]
  ·rw [show n.toNat-k=0 by omega];rfl
end Go.TX.F
namespace Go.TX.F
open Go Go.AE Go.TX
theorem amR {p1 f1} (U1:Y38 p1 f1) (b:List Int) (p:Int) (hb:Bt b) (h1:0<=p) (h2:p<900000000):XL (std 0).al p1 f1 (b,p,()) (λ(y:List Int×Int×List Int×Unit)=>y.1=b/\p<=y.2.1/\y.2.1<=p+10/\y.2.2.1.length<=5):=by
 obtain⟨a1,a2,a3,a4⟩:=U1.hf 5 b p hb h1 (by omega)
 dsimp only [XL,Tup.q,Tup.o,Tup.e1,Tup.e2,Tup.e3]
 simp (disch:=omega) only [RR,U1.hp 5 b p hb h1 (by omega),a1,a2,List.length_nil]
 refine aG (λ(y:Int×List Int×Int×List Int×Unit)=>0<=y.1/\y.1<=5/\y.2.1=b/\p<=y.2.2.1/\y.2.2.1+y.1<=p+6/\(y.2.2.2.1.length:Int)+y.1<=5) (λy=>y.1.toNat) ⟨a3,by dsimp only;omega,rfl,by dsimp only;omega,by dsimp only;omega,by dsimp only [List.length_nil];omega⟩ ?_
 rintro⟨(k:Int),(b':List Int),(q:Int),(l:List Int),⟨⟩⟩ hI
 dsimp only at hI ⊢
 obtain⟨k1,k2,rfl,k3,k4,k5⟩:=hI
 obtain⟨c1,c2,_,_⟩:=U1.hf 50 b' q hb (by omega) (by omega)
 simp (disch:=omega) only [RR,U1.hp 50 b' q hb (by omega) (by omega),c1,c2,List.length_cons,List.length_nil,List.length_append]
 exact⟨λg=>⟨by omega,⟨by omega,by omega,by omega,by omega,by omega⟩,by omega⟩,λg=>⟨by omega,by omega,by omega⟩⟩
theorem amS {p1 f1} (U1:Y38 p1 f1) (t:Int) (b:List Int) (p:Int) (hb:Bt b) (t0:0<=t/\t<=1000) (h1:0<=p) (h2:p<900000000):Xx (std 0).al p1 f1 (t,b,p,()) (λ(y:List Int×Int×List Ins×Unit)=>y.1=b/\p<=y.2.1/\y.2.1<=p+500/\y.2.2.1.length<=10):=by
 have R:=pkR hb U1.hf
 have P:=λn p h1 h2=>U1.hp n b p hb h1 h2
 dsimp only [Xx,Tup.q,Tup.o,Tup.e1,Tup.e2]
 simp (disch:=omega) only [RR,R,P,List.length_cons,List.length_nil]
 exact⟨by omega,by omega,by omega⟩
theorem amT {p1 f1 p2 f2} (U1:Y70 p1 f1) (U2:Y38 p2 f2) (t:Int) (b:List Int) (p:Int) (hb:Bt b) (t0:0<=t/\t<=1000) (h1:0<=p) (h2:p<700000000):Xw (std 0).al p1 f1 p2 f2 (t,b,p,()) (λ(y:List Int×Int×List Ins×Unit)=>y.1=b/\p<=y.2.1/\y.2.1<=p+500/\y.2.2.1.length<=10):=by
 have R:=pkR hb U2.hf
 have P:=λn p h1 h2=>U2.hp n b p hb h1 h2
 obtain⟨_,_,a3,a4⟩:=U2.hf 4 b (p+1+1) hb (by omega) (by omega)
 dsimp only [Xw,Tup.q,Tup.o,Tup.e1,Tup.e2,Tup.e4]
 simp (disch:=omega) only [RR,R,P,List.length_cons,List.length_nil,List.length_append]
 refine aG (λ(y:Int×Int×List Int×Int×List Ins×Unit)=>0<=y.2.1/\y.2.1<=4/\y.2.2.1=b/\p<=y.2.2.2.1/\y.2.2.2.1+50*y.2.1<=p+300/\(y.2.2.2.2.1.length:Int)+y.2.1<=7) (λy=>y.2.1.toNat) ⟨a3,by dsimp only;omega,rfl,by dsimp only;omega,by dsimp only;omega,by dsimp only [List.length_cons,List.length_nil];omega⟩ ?_
 rintro⟨(t:Int),(k:Int),(b':List Int),(q:Int),(l:List Ins),⟨⟩⟩ hI
 dsimp only at hI ⊢
 obtain⟨k1,k2,rfl,k3,k4,k5⟩:=hI
 obtain⟨c1,c2,c3,c4⟩:=U1.hf b' q hb (by omega) (by omega)
 simp (disch:=omega) only [RR,U1.hp b' q hb (by omega) (by omega),c1,List.length_cons,List.length_nil,List.length_append]
 refine⟨λg=>⟨λ_=>⟨by omega,⟨by omega,by omega,by omega,by omega,by omega⟩,by omega⟩,λ_=>⟨by omega,⟨by omega,by omega,by omega,by omega,by omega⟩,by omega⟩⟩,λg=>⟨by omega,by omega,by omega,by omega⟩⟩
end Go.TX.F
namespace Go.TX.F
open Go Go.AE Go.TX
structure ImD (b:List Int) (p:Int) (y:List Int×Int×List Int×Unit):Prop where
 b:y.1=b
 lo:p<=y.2.1
 hi:y.2.1<=p+8000
 len:y.2.2.1.length<=64
 w:Wos y.2.2.1
structure amU (pp:List Ins×Unit->Bool) (ff:List Ins×Unit->List Int×Unit):Prop where
 hp:∀l,l.length<1000000->pp (l,())=true
 hf:∀l,l.length<1000000->ff (l,())=(l.map jF,())
theorem amV {p1 f1 p2 f2 p4 f4 p5 f5 p7 f7 p8 f8 p9 f9} (U1:amU p1 f1) (U2:ahb p2 f2) {p3:Int×List Int×Int×Unit->Bool} {f3:Int×List Int×Int×Unit->List Int×Int×List Ins×Unit} (hp3:∀t b p,Bt b->(0<=t/\t<=1000)->0<=p->p<700000000->p3 (t,b,p,())=true) (hf3:∀t b p,Bt b->(0<=t/\t<=1000)->0<=p->p<700000000->(f3 (t,b,p,())).1=b/\p<=(f3 (t,b,p,())).2.1/\(f3 (t,b,p,())).2.1<=p+500/\(f3 (t,b,p,())).2.2.1.length<=10) (U4:Y70 p4 f4) (U5:Y69 p5 f5) {p6:Int×List Int×Int×Unit->Bool} {f6:Int×List Int×Int×Unit->List Int×Int×List Ins×Unit} (hp6:∀t b p,Bt b->(0<=t/\t<=1000)->0<=p->p<900000000->p6 (t,b,p,())=true) (hf6:∀t b p,Bt b->(0<=t/\t<=1000)->0<=p->p<900000000->(f6 (t,b,p,())).1=b/\p<=(f6 (t,b,p,())).2.1/\(f6 (t,b,p,())).2.1<=p+500/\(f6 (t,b,p,())).2.2.1.length<=10) (U7:Y39 p7 f7) (U8:Y38 p8 f8) (U9:Y40 p9 f9) (b:List Int) (p:Int) (hb:Bt b) (h1:0<=p) (h2:p<600000000):XB (std 0).al p1 f1 p2 f2 p3 f3 p4 f4 p5 f5 p6 f6 p7 f7 p8 f8 p9 f9 (b,p,()) (λy=>ImD b p y):=by
 have R:=pkR hb U8.hf
 have P:=λn p h1 h2=>U8.hp n b p hb h1 h2
 obtain⟨_,_,a3,a4⟩:=U8.hf 5 b (p+1) hb (by omega) (by omega)
 dsimp only [XB,Tup.q,Tup.o,Tup.e1,Tup.e2,Tup.e3,Tup.e4]
 simp (disch:=omega) only [RR,R,P,List.length_cons,List.length_nil,List.length_append]
 refine⟨λ_=>⟨by omega,?_⟩,λ_=> ?_⟩
 all_goals refine aG (λ(y:Int×List Int×Int×List Ins×Unit)=>0<=y.1/\y.1<=5/\y.2.1=b/\p<=y.2.2.1/\y.2.2.1+550*y.1<=p+2800/\(y.2.2.2.1.length:Int)<=44) (λy=>y.1.toNat) ⟨by dsimp only;omega,by dsimp only;omega,rfl,by dsimp only;omega,by dsimp only;omega,by simp⟩ ?_
 all_goals
  rintro⟨(k:Int),(b':List Int),(q:Int),(l:List Ins),⟨⟩⟩ hI
  dsimp only at hI ⊢
  obtain⟨k1,k2,rfl,k3,k4,k5⟩:=hI
  obtain⟨_,_,d3,d4⟩:=U8.hf 8 b' (q+1) hb (by omega) (by omega)
  simp (disch:=omega) only [RR,R,P,List.length_cons,List.length_nil,List.length_append]
  refine⟨λg=>⟨λ_=> ?_,λ_=>⟨λ_=> ?_,λ_=> ?_⟩⟩,λg=>⟨by omega,U1.hp _ (by simp;omega),?_⟩⟩
  ·obtain⟨z1,z2,z3,z4⟩:=hf3 l.length b' (q+1) hb (by omega) (by omega) (by omega)
   exact⟨hp3 l.length b' (q+1) hb (by omega) (by omega) (by omega),by omega,⟨by omega,by omega,z1,by omega,by omega,by omega⟩,by omega⟩
  ·obtain⟨z1,z2,z3,z4⟩:=hf6 l.length b' (q+1) hb (by omega) (by omega) (by omega)
   exact⟨hp6 l.length b' (q+1) hb (by omega) (by omega) (by omega),by omega,⟨by omega,by omega,z1,by omega,by omega,by omega⟩,by omega⟩
  ·refine aG (λ(y:Int×Int×List Int×Int×List Ins×Unit)=>y.1=k/\0<=y.2.1/\y.2.1<=8/\y.2.2.1=b'/\q<=y.2.2.2.1/\y.2.2.2.1+30*y.2.1<=q+300/\(y.2.2.2.2.1.length:Int)+y.2.1<=42) (λy=>y.2.1.toNat) ⟨rfl,by dsimp only;omega,by dsimp only;omega,rfl,by dsimp only;omega,by dsimp only;omega,by dsimp only;omega⟩ ?_
   rintro⟨(k:Int),(j:Int),(b'':List Int),(q':Int),(l':List Ins),⟨⟩⟩ hI
   dsimp only at hI ⊢
   obtain⟨rfl,j1,j2,rfl,j3,j4,j5⟩:=hI
   obtain⟨c1,c2,c3,_⟩:=U5.hf b'' q' hb (by omega) (by omega)
   simp (disch:=omega) only [RR,U5.hp b'' q' hb (by omega) (by omega),c1,List.length_cons,List.length_nil,List.length_append]
   exact⟨λ_=>⟨by omega,⟨by omega,by omega,by omega,by omega,by omega⟩,by omega⟩,λ_=>⟨⟨by omega,by omega,by omega,by omega,by omega⟩,by omega⟩⟩
  ·rw [U1.hf _ (by simp;omega)]
   have ww:∀l:List Ins,Wos (l.map jF):=λl x hx=>by obtain⟨i,_,rfl⟩:=List.mem_map.1 hx;exact vK i
   refine aG (λ(y:List Int×Int×List Int×Unit)=>y.1=b'/\q<=y.2.1/\y.2.1<=q+40*y.2.2.1.length/\y.2.2.1.length<=48/\Wos y.2.2.1) (λy=>48-y.2.2.1.length) ⟨rfl,by dsimp only;omega,by dsimp only;omega,by simp;omega,ww _⟩ ?_
   rintro⟨(b'':List Int),(r:Int),(o:List Int),⟨⟩⟩ hI
   dsimp only at hI ⊢
   obtain⟨rfl,j1,j2,j3,j4⟩:=hI
   obtain⟨e1,e2,e3,e4⟩:=U9.hf b'' r hb (by omega) (by omega)
   obtain⟨c1,c2,c3,_⟩:=U5.hf b'' (f9 (b'',r,())).2.2.1 hb (by omega) (by omega)
   have p5':=U5.hp b'' (f9 (b'',r,())).2.2.1 hb (by omega) (by omega)
   obtain⟨_,_,g3,g4⟩:=U8.hf 4 b'' r hb (by omega) (by omega)
   simp (disch:=omega) only [RR,R,P,U9.hp b'' r hb (by omega) (by omega),e1,p5',c1,U2.hp,U2.hf,List.length_cons,List.length_nil,List.length_append,iE]
   refine⟨λ_=>⟨by omega,⟨by omega,by omega,by omega,j4.snoc (Wos.at (ahc (ahc (ahc (λ_ h=>(by cases h)) (vK _)) e4) wo0) _)⟩,by omega⟩,λ_=>⟨by omega,by omega,by omega,by omega,by omega,?_⟩⟩
   refine aG (λ(y:Int×List Int×Int×List Int×Unit)=>0<=y.1/\y.1<=4/\y.2.1=b''/\r<=y.2.2.1/\y.2.2.1+50*y.1<=r+300/\(y.2.2.2.1.length:Int)+y.1<=52/\Wos y.2.2.2.1) (λy=>y.1.toNat) ⟨g3,by dsimp only;omega,rfl,by dsimp only;omega,by dsimp only;omega,by simp only [List.length_drop,List.length_take];omega,λx hx=>j4 x (List.mem_of_mem_take (List.mem_of_mem_drop hx))⟩ ?_
   rintro⟨(m:Int),(b3:List Int),(t:Int),(u:List Int),⟨⟩⟩ hI
   dsimp only at hI ⊢
   obtain⟨m1,m2,rfl,m3,m4,m5,m6⟩:=hI
   obtain⟨c1,c2,c3,_⟩:=U4.hf b3 t hb (by omega) (by omega)
   obtain⟨o1,o2⟩:=U7.hf 9 b3 t hb (by omega) (by omega)
   have OP:=U7.hp 9 b3 t hb (by omega) (by omega)
   obtain⟨_,_,n3,n4⟩:=U8.hf (u.length+2) b3 (t+1) hb (by omega) (by omega)
   obtain⟨e1,e2,e3,e4⟩:=U9.hf b3 (t+1+1) hb (by omega) (by omega)
   have W9:=U9.hp b3 (t+1+1) hb (by omega) (by omega)
   simp (disch:=omega) only [RR,R,P,U4.hp b3 t hb (by omega) (by omega),c1,U2.hp,U2.hf,OP,o1,o2,W9,e1,List.length_cons,List.length_nil,List.length_append,iE]
   have w2:Wos (u++ [jF (Co.mk .ins (14,3,0,0,())),jF (Co.mk .ins (0,0,0,1,()))]):=by
    rw [show∀x y:Int,u++ [x,y]=(u++ [x])++ [y] by simp]
    exact(m6.snoc (vK _)).snoc (vK _)
   refine⟨λ_=>⟨by omega,⟨by omega,by omega,by omega,by omega,by omega,m6.snoc (vK _)⟩,by omega⟩,λ_=>⟨by omega,λ_=>⟨rfl,?_,?_,?_,w2.set e4 _⟩,λ_=>⟨rfl,?_,?_,?_,w2⟩⟩⟩
   ·dsimp only;omega
   ·dsimp only;omega
   ·dsimp only;rw [List.length_set,List.length_append,List.length_cons,List.length_cons,List.length_nil];omega
   ·dsimp only;omega
   ·dsimp only;omega
   ·dsimp only;rw [List.length_append,List.length_cons,List.length_cons,List.length_nil];omega
end Go.TX.F
namespace Go.TX.F
open Go Go.AE Go.TX
abbrev YMc:=Int×Int×Bool×Bool×Int×List Int×Int×List Int×Int×List Int×List Int×List Int×Unit
abbrev mE (y : YMc) : aA := ⟨y.2.2.2.2.2.2.2.2.2.1, y.1, y.2.2.2.2.2.2.2.2.2.2.1, y.2.1, y.2.2.1, y.2.2.2.1, y.2.2.2.2.1, y.2.2.2.2.2.1, y.2.2.2.2.2.2.2.2.2.2.2.1, y.2.2.2.2.2.2.1⟩
structure McD (b:List Int) (p:Int) (y:YMc):Prop where
 b:y.2.2.2.2.2.2.2.1=b
 lo:p<=y.2.2.2.2.2.2.2.2.1
 hi:y.2.2.2.2.2.2.2.2.1<=p+9500
 ok:MOK (mE y)
 i:(mE y).ins.length<=10
 o:(mE y).outs.length<=100
theorem amW {X:aA} (h:MOK X) {r:List Int} {pc ha:Int} {l w:Bool} (h1:Wo pc) (h2:0<=ha/\ha<=4) (h3:r.length=4) (h4:Wos r):MOK ⟨r,pc,X.mem,X.save,l,w,ha,X.ins,X.outs,X.count⟩:=
 {h with r4:=h3,rw:=h4,pc:=h1,ha:=h2}
theorem amX {p5 f5 p6 f6} {p1:List Int×List Int×Unit->Bool} {f1:List Int×List Int×Unit->Int×Int×Bool×Bool×Int×Int×List Int×List Int×List Int×Unit} (hp1:∀w i,w.length<1000000->i.length<1000000->p1 (w,i,())=true) (hf1:∀w i,w.length<1000000->i.length<1000000->f1 (w,i,())=((jG w i).pc,(jG w i).save,(jG w i).bJ,(jG w i).waits,(jG w i).halt,(jG w i).count,(jG w i).regs,(jG w i).mem,(jG w i).ins,())) {p2:aA×List Int×Int×Unit->Bool} {f2:aA×List Int×Int×Unit->Int×Int×Bool×Bool×Int×List Int×Int×List Int×List Int×List Int×Unit} (hp2:∀m q n,MSh m->q.length<1000000000->m.outs.length<800000000->p2 (m,q,n,())=true) (hf2:∀m q n,MSh m->q.length<1000000000->m.outs.length<800000000->f2 (m,q,n,())=mB (jU q n m)) {p3:List Int×Int×Unit->Bool} {f3:List Int×Int×Unit->List Int×Int×List Int×Unit} (hp3:∀b p,Bt b->0<=p->p<600000000->p3 (b,p,())=true) (hf3:∀b p,Bt b->0<=p->p<600000000->ImD b p (f3 (b,p,()))) {p4:List Int×Int×Unit->Bool} {f4:List Int×Int×Unit->List Int×Int×List Int×Unit} (hp4:∀b p,Bt b->0<=p->p<900000000->p4 (b,p,())=true) (hf4:∀b p,Bt b->0<=p->p<900000000->(f4 (b,p,())).1=b/\p<=(f4 (b,p,())).2.1/\(f4 (b,p,())).2.1<=p+10/\(f4 (b,p,())).2.2.1.length<=5) (U5:Y39 p5 f5) (U6:Y38 p6 f6) {p7:Int×List Int×Int×Unit->Bool} {f7:Int×List Int×Int×Unit->List Int×Int×List Int×Unit} (hp7:∀n b p,Bt b->(0<=n/\n<=100)->0<=p->p<800000000->p7 (n,b,p,())=true) (hf7:∀n b p,Bt b->(0<=n/\n<=100)->0<=p->p<800000000->(f7 (n,b,p,())).1=b/\p<=(f7 (n,b,p,())).2.1/\(f7 (n,b,p,())).2.1<=p+300/\(f7 (n,b,p,())).2.2.1.length=n/\wOK (f7 (n,b,p,())).2.2.1) (b:List Int) (p:Int) (hb:Bt b) (h1:0<=p) (h2:p<500000000):XM (std 0).al p1 f1 p2 f2 p3 f3 p4 f4 p5 f5 p6 f6 p7 f7 (b,p,()) (λy=>McD b p y):=by
 obtain⟨i1,i2,i3,i4,i5⟩:=hf3 b p hb h1 (by omega)
 have P3:=hp3 b p hb h1 (by omega)
 generalize hy:f3 (b,p,())=y at i1 i2 i3 i4 i5
 obtain⟨b',q0,w,⟨⟩⟩:=y
 dsimp only at i1 i2 i3 i4 i5
 subst i1
 have R:=pkR hb U6.hf
 have P:=λn p h1 h2=>U6.hp n b' p hb h1 h2
 obtain⟨_,_,a3,a4⟩:=U6.hf 5 b' q0 hb (by omega) (by omega)
 obtain⟨w1,w2,w3,w4,w5⟩:=hf7 (f6 (5,b',q0,())).1 b' (q0+1) hb (by omega) (by omega) (by omega)
 have P7:=hp7 (f6 (5,b',q0,())).1 b' (q0+1) hb (by omega) (by omega) (by omega)
 generalize hz:f7 ((f6 (5,b',q0,())).1,b',q0+1,())=z at w1 w2 w3 w4 w5
 obtain⟨b2,q1,is,⟨⟩⟩:=z
 dsimp only at w1 w2 w3 w4 w5
 subst w1
 have P1:=hp1 w is (by omega) (by omega)
 have H1:=hf1 w is (by omega) (by omega)
 have ok:=acJ i4 i5 w5
 have oe:(jG w is).outs=[]:=by unfold jG;split<;>rfl
 have ie:(jG w is).ins.length<=10:=by unfold jG;split;(dsimp only;omega);exact Nat.zero_le _
 generalize jG w is=M at P1 H1 ok oe ie
 have mK:Co.mk .aB (M.regs,M.pc,M.mem,M.save,M.bJ,M.waits,M.halt,M.ins,[],M.count,())=M:=by cases M;dsimp only at oe;subst oe;rfl
 have P4:=hp4 b2 q1 hb (by omega) (by omega)
 obtain⟨q1',q2',q3',q4'⟩:=hf4 b2 q1 hb (by omega) (by omega)
 generalize hr:f4 (b2,q1,())=r at q1' q2' q3' q4'
 obtain⟨b3,q2,qs,⟨⟩⟩:=r
 dsimp only at q1' q2' q3' q4'
 subst q1'
 have ms:MSh M:=⟨by rw [ok.r4];decide,by rw [ok.m64];decide,by omega,by rw [oe];decide⟩
 obtain⟨_,_,n3,n4⟩:=U6.hf 40 b3 q2 hb (by omega) (by omega)
 have P2:=hp2 M qs (f6 (40,b3,q2,())).1 ms (by omega) (by rw [oe];decide)
 have H2:=hf2 M qs (f6 (40,b3,q2,())).1 ms (by omega) (by rw [oe];decide)
 have hX:MOK (jU qs (f6 (40,b3,q2,())).1 M):=by unfold jU;rw [bE ⟨ok,by omega⟩,if_pos rfl];exact TB _ _ ok
 have lX:(jU qs (f6 (40,b3,q2,())).1 M).ins.length<=10/\(jU qs (f6 (40,b3,q2,())).1 M).outs.length<=100:=by
  unfold jU;rw [bE ⟨ok,by omega⟩,if_pos rfl]
  have:=TD qs (f6 (40,b3,q2,())).1.toNat M
  rw [oe]at this
  simp only [List.length_nil]at this
  omega
 generalize jU qs (f6 (40,b3,q2,())).1 M=X at P2 H2 hX lX
 obtain⟨v1,v2,v3,v4,v5⟩:=hf7 4 b3 (q2+1+1) hb (by omega) (by omega) (by omega)
 have P7':=hp7 4 b3 (q2+1+1) hb (by omega) (by omega) (by omega)
 generalize hv:f7 (4,b3,q2+1+1,())=v at v1 v2 v3 v4 v5
 obtain⟨b4,q3,vs,⟨⟩⟩:=v
 dsimp only at v1 v2 v3 v4 v5
 subst v1
 have O:=λn p h1 h2=>(U5.hf n b4 p hb h1 h2).1
 have O':=λn p h1 h2=>(U5.hf n b4 p hb h1 h2).2
 have OP:=λn p h1 h2=>U5.hp n b4 p hb h1 h2
 dsimp only [XM,Tup.q,Tup.o,Tup.e1,Tup.e2,Tup.e3,Tup.e5,Tup.e6,Tup.e7,Tup.e10,Tup.e16]
 simp (disch:=omega) only [RR,P3,hy,R,P,P7,hz,P1,H1,mK,P4,hr,P2,H2,P7',hv,O,O',OP]
 have pk:∀t:Int,0<=t->t<1000000000->Wo (f6 (66,b4,t,())).1:=λt h1 h2=>by obtain⟨_,_,c3,c4⟩:=U6.hf 66 b4 t hb h1 h2;unfold Wo;omega
 have v4':vs.length=4:=by omega
 repeat' (first | (refine⟨?_,?_⟩) | intro _)
 all_goals first | omega | (refine⟨rfl,by dsimp only;omega,by dsimp only;omega,amW hX (by first | exact hX.pc | exact pk _ (by omega) (by omega)) (by first | exact hX.ha | exact⟨show(0:Int)<=0 by decide,show(0:Int)<=4 by decide⟩) (by first | exact hX.r4 | exact v4') (by first | exact hX.rw | exact v5),lX.1,lX.2⟩)
abbrev YMo:=Int×List Int×Int×Bool×Bool×Int×List Int×Int×List Int×Int×List Int×List Int×Unit
structure MoD (b:List Int) (p:Int) (y:YMo):Prop where
 b:y.2.2.2.2.2.2.2.2.1=b
 lo:p<=y.2.2.2.2.2.2.2.2.2.1
 hi:y.2.2.2.2.2.2.2.2.2.1<=p+9600
 r:y.2.2.2.2.2.2.2.2.2.2.1.length<=10
 m:y.2.1.length<=64
 i:y.2.2.2.2.2.2.1.length<=10
 o:y.2.2.2.2.2.2.2.2.2.2.2.1.length<=110
structure amY (pp:List Int×Int×Unit->Bool) (ff:List Int×Int×Unit->YMc):Prop where
 hp:∀b p,Bt b->0<=p->p<500000000->pp (b,p,())=true
 hf:∀b p,Bt b->0<=p->p<500000000->McD b p (ff (b,p,()))
theorem amZ {p1 f1 p2 f2 p3 f3} (U1:amY p1 f1) (U2:Y39 p2 f2) (U3:Y38 p3 f3) (n:Int) (b:List Int) (p:Int) (hb:Bt b) (h1:0<=p) (h2:p<400000000):Yn (std 0).al p1 f1 p2 f2 p3 f3 (n,b,p,()) (λy=>MoD b p y):=by
 obtain⟨i1,i2,i3,i4,i5,i6⟩:=U1.hf b p hb h1 (by omega)
 have P1:=U1.hp b p hb h1 (by omega)
 generalize hy:f1 (b,p,())=y at i1 i2 i3 i4 i5 i6
 obtain⟨pc,sv,lt,wt,ha,ins,ct,b',q,regs,mem,outs,⟨⟩⟩:=y
 have r4:=i4.r4
 have m6:=i4.m64
 dsimp only at i1 i2 i3 i5 i6 r4 m6
 subst i1
 have R:=pkR hb U3.hf
 have P:=λn p h1 h2=>U3.hp n b' p hb h1 h2
 obtain⟨O,O'⟩:=U2.hf n b' q hb (by omega) (by omega)
 have OP:=U2.hp n b' q hb (by omega) (by omega)
 dsimp only [Yn,Tup.q,Tup.o,Tup.e1,Tup.e2,Tup.e3,Tup.e18]
 simp (disch:=omega) only [RR,P1,hy,R,P,O,O',OP,List.length_cons,List.length_nil]
 have tl:∀n:Nat,(List.drop (Int.toNat 1) (List.take n mem)).length<=64:=λn=>by rw [List.length_drop,List.length_take];omega
 repeat' (first | (refine⟨?_,?_⟩) | intro _)
 all_goals first | omega | (refine⟨rfl,by dsimp only;omega,by dsimp only;omega,?_,?_,by dsimp only;omega,?_⟩<;>first | (dsimp only;omega) | exact tl _ | (dsimp only;simp only [List.length_append,List.length_set,List.length_cons,List.length_nil];omega))
structure MaD (b:List Int) (p:Int) (y:YMc):Prop where
 b:y.2.2.2.2.2.2.2.1=b
 lo:p<=y.2.2.2.2.2.2.2.2.1
 hi:y.2.2.2.2.2.2.2.2.1<=p+9700
 r:(mE y).regs.length=4
 m:(mE y).mem.length=64
 i:(mE y).ins.length<=10
 o:(mE y).outs.length<=100
theorem am0 {p1 f1 p2 f2} (U1:amY p1 f1) (U2:Y38 p2 f2) (c:Blk) (b:List Int) (p:Int) (hb:Bt b) (h1:0<=p) (h2:p<400000000):XO (std 0).al p1 f1 p2 f2 (c,b,p,()) (λy=>MaD b p y):=by
 obtain⟨i1,i2,i3,i4,i5,i6⟩:=U1.hf b p hb h1 (by omega)
 have P1:=U1.hp b p hb h1 (by omega)
 generalize hy:f1 (b,p,())=y at i1 i2 i3 i4 i5 i6
 obtain⟨pc,sv,lt,wt,ha,ins,ct,b',q,regs,mem,outs,⟨⟩⟩:=y
 have r4:=i4.r4
 have m6:=i4.m64
 dsimp only at i1 i2 i3 i5 i6 r4 m6
 subst i1
 dsimp only [XO,Tup.q,Tup.o,Tup.e1,Tup.e2,Tup.e3,Tup.e17,Tup.e19]
 simp (disch:=omega) only [RR,P1,hy]
 refine aG (λ(y:Int×List Int×Int×Blk×Int×Int×Bool×Bool×Int×Int×Int×Int×Bool×Bool×Int×List Int×Int×List Int×List Int×List Int×Unit)=>0<=y.1/\y.1<=4/\y.2.1=b'/\q<=y.2.2.1/\y.2.2.1<=q+3*y.1/\y.2.2.2.2.2.2.2.2.2.2.2.2.2.2.2.1.length<=10/\y.2.2.2.2.2.2.2.2.2.2.2.2.2.2.2.2.2.1.length=4/\y.2.2.2.2.2.2.2.2.2.2.2.2.2.2.2.2.2.2.1.length=64/\y.2.2.2.2.2.2.2.2.2.2.2.2.2.2.2.2.2.2.2.1.length<=100) (λy=>(4-y.1).toNat) ⟨by dsimp only;omega,by dsimp only;omega,rfl,by dsimp only;omega,by dsimp only;omega,i5,r4,m6,i6⟩ ?_
 rintro⟨(k:Int),(b2:List Int),(t:Int),(c:Blk),u1,u2,u3,u4,u5,u6,v1,v2,v3,v4,v5,(v6:List Int),v7,(r:List Int),(m:List Int),(o:List Int),⟨⟩⟩ hI
 dsimp only at hI ⊢
 obtain⟨k1,k2,rfl,k3,k4,k5,k6,k7,k8⟩:=hI
 have R:=pkR hb U2.hf
 have P:=λn p h1 h2=>U2.hp n b2 p hb h1 h2
 simp (disch:=omega) only [RR,R,P,List.length_cons,List.length_nil,List.length_set,k6]
 refine⟨λg=>⟨λ_=> ?_,λ_=> ?_⟩,λg=>⟨rfl,by dsimp only;omega,by dsimp only;omega,k6,k7,k5,k8⟩⟩
 ·repeat' (first | (refine⟨?_,?_⟩) | intro _)
  all_goals omega
 ·repeat' (first | (refine⟨?_,?_⟩) | intro _)
  all_goals omega
end Go.TX.F
namespace Go.TX.F
open Go Go.AE Go.TX
theorem wU (a1 a2 a3 a4 a5 a6:Int) (o:IOp) (ops:List IOp) (h:ops.length<1000000):P9 (std 0).al (a1,a2,a3,a4,a5,a6,o,ops,()) (λy=>y=(a1,a2,a3,a4,a5,a6,(ops.length:Int),ops++ [o],())):=by
 dsimp only [P9,Tup.q,Tup.o,Tup.e1]
 simp (disch:=omega) only [RR,List.length_append,List.length_cons,List.length_nil]
 rw [show((ops.length+(0+1):Nat):Int)-1=ops.length by omega]
 exact⟨by omega,rfl⟩
structure aas (pp:Int×Int×Int×Int×Int×Int×IOp×List IOp×Unit->Bool) (ff:Int×Int×Int×Int×Int×Int×IOp×List IOp×Unit->Int×Int×Int×Int×Int×Int×Int×List IOp×Unit):Prop where
 hp:∀(a1 a2 a3 a4 a5 a6:Int) (o:IOp) (ops:List IOp),ops.length<1000000->pp (a1,a2,a3,a4,a5,a6,o,ops,())=true
 hf:∀(a1 a2 a3 a4 a5 a6:Int) (o:IOp) (ops:List IOp),ops.length<1000000->ff (a1,a2,a3,a4,a5,a6,o,ops,())=(a1,a2,a3,a4,a5,a6,(ops.length:Int),ops++ [o],())
theorem wV {p1 f1} (U1:aas p1 f1) (a1 a2 a3 a4 a5 a6 k:Int) (ops:List IOp) (h:ops.length<1000000):Qb (std 0).al p1 f1 (a1,a2,a3,a4,a5,a6,k,ops,()) (λy=>y=(a1,a2,a3,a4,a5,a6,(ops.length:Int),ops++ [⟨2,0,0,k,0⟩],())):=by
 dsimp only [Qb,Tup.q,Tup.o,Tup.e1]
 simp (disch:=omega) only [RR,U1.hp,U1.hf,h]
 rfl
theorem wW {p1 f1} (U1:aas p1 f1) (a1 a2 a3 a4 a5 a6 k x:Int) (ops:List IOp) (h:ops.length<1000000):Qa (std 0).al p1 f1 (a1,a2,a3,a4,a5,a6,k,x,ops,()) (λy=>y=(a1,a2,a3,a4,a5,a6,ops++ [⟨8,x,0,k,0⟩],())):=by
 dsimp only [Qa,Tup.q,Tup.o,Tup.e1]
 simp (disch:=omega) only [RR,U1.hp,U1.hf,h]
 rfl
theorem n1a (l:List IOp) (o:IOp):((l++ [o]).length:Int)=l.length+1:=by rw [List.length_append];rfl
structure acM (pp:Int×Int×Int×Int×Int×Int×Int×List IOp×Unit->Bool) (ff:Int×Int×Int×Int×Int×Int×Int×List IOp×Unit->Int×Int×Int×Int×Int×Int×Int×List IOp×Unit):Prop where
 hp:∀(a1 a2 a3 a4 a5 a6 k:Int) (ops:List IOp),ops.length<1000000->pp (a1,a2,a3,a4,a5,a6,k,ops,())=true
 hf:∀(a1 a2 a3 a4 a5 a6 k:Int) (ops:List IOp),ops.length<1000000->ff (a1,a2,a3,a4,a5,a6,k,ops,())=(a1,a2,a3,a4,a5,a6,(ops.length:Int),ops++ [⟨2,0,0,k,0⟩],())
theorem AY {p1 f1 p2 f2} (U1:acM p1 f1) (U2:aas p2 f2) (a1 a2 a3 a4 a5 a6 k a:Int) (o:IOp) (ops:List IOp) (h:ops.length<990000):Qc (std 0).al p1 f1 p2 f2 (a1,a2,a3,a4,a5,a6,k,a,o,ops,()) (λy=>y=(a1,a2,a3,a4,a5,a6,(ops.length:Int)+2,ops++ [⟨2,0,0,a,0⟩,o,⟨3,ops.length,ops.length+1,k,0⟩],())):=by
 have m1:∀(l:List IOp) (o:IOp),l.length<990000->(l++ [o]).length<1000000:=λl o h=>by rw [List.length_append];simp only [List.length_cons,List.length_nil];omega
 have m2:∀(l:List IOp) (o o2:IOp),l.length<990000->((l++ [o])++ [o2]).length<1000000:=λl o o2 h=>by simp only [List.length_append,List.length_cons,List.length_nil];omega
 dsimp only [Qc,Tup.q,Tup.o,Tup.e1]
 simp (disch:=first | omega | (apply m1;omega) | (apply m2;omega)) only [RR,U1.hp,U1.hf,U2.hp,U2.hf,n1a]
 simp
 rfl
structure am1 (pp:Int×Int×Int×Int×Int×Int×Int×Int×IOp×List IOp×Unit->Bool) (ff:Int×Int×Int×Int×Int×Int×Int×Int×IOp×List IOp×Unit->Int×Int×Int×Int×Int×Int×Int×List IOp×Unit):Prop where
 hp:∀(a1 a2 a3 a4 a5 a6 k a:Int) (o:IOp) (ops:List IOp),ops.length<990000->pp (a1,a2,a3,a4,a5,a6,k,a,o,ops,())=true
 hf:∀(a1 a2 a3 a4 a5 a6 k a:Int) (o:IOp) (ops:List IOp),ops.length<990000->ff (a1,a2,a3,a4,a5,a6,k,a,o,ops,())=(a1,a2,a3,a4,a5,a6,(ops.length:Int)+2,ops++ [⟨2,0,0,a,0⟩,o,⟨3,ops.length,ops.length+1,k,0⟩],())
structure am2 (pp:Int×Int×Int×Int×Int×Int×Int×Int×List IOp×Unit->Bool) (ff:Int×Int×Int×Int×Int×Int×Int×Int×List IOp×Unit->Int×Int×Int×Int×Int×Int×List IOp×Unit):Prop where
 hp:∀(a1 a2 a3 a4 a5 a6 k x:Int) (ops:List IOp),ops.length<1000000->pp (a1,a2,a3,a4,a5,a6,k,x,ops,())=true
 hf:∀(a1 a2 a3 a4 a5 a6 k x:Int) (ops:List IOp),ops.length<1000000->ff (a1,a2,a3,a4,a5,a6,k,x,ops,())=(a1,a2,a3,a4,a5,a6,ops++ [⟨8,x,0,k,0⟩],())
theorem CP {p1 f1 p2 f2 p3 f3 p4 f4} (U1:acM p1 f1) (U2:aas p2 f2) (U3:am1 p3 f3) (U4:am2 p4 f4) (a1 a2 a3 a4 a5 a6:Int) (i:Ins) (n:Int) (ops:List IOp) (hi:i.op=9\/i.op=10) (h:ops.length<950000):Qe (std 0).al p1 f1 p2 f2 p3 f3 p4 f4 (a1,a2,a3,a4,a5,a6,i,n,ops,()) (λy=>y=(a1,a2,a3,a4,a5,a6,ops++bM n ops.length i,())):=by
 have m3:∀(l:List IOp) (o1 o2 o3:IOp),l.length<950000->(l++ [o1,o2,o3]).length<1000000:=λl o1 o2 o3 h=>by simp only [List.length_append,List.length_cons,List.length_nil];omega
 have m4:∀(l:List IOp) (o1 o2 o3 o4:IOp),l.length<950000->((l++ [o1,o2,o3])++ [o4]).length<1000000:=λl o1 o2 o3 o4 h=>by simp only [List.length_append,List.length_cons,List.length_nil];omega
 have n3:∀(l:List IOp) (o1 o2 o3:IOp),((l++ [o1,o2,o3]).length:Int)=l.length+3:=λl o1 o2 o3=>by rw [List.length_append];rfl
 dsimp only [Qe,Tup.q,Tup.o,Tup.e1,Tup.e7]
 simp (disch:=first | omega | (apply m3;omega) | (apply m4;omega)) only [RR,IR,U1.hp,U1.hf,U2.hp,U2.hf,U3.hp,U3.hf,U4.hp,U4.hf,n3]
 unfold bM
 refine⟨λe=> ?_,λe=> ?_⟩
 ·rw [if_neg (by omega),if_neg (by omega),if_neg (by omega),if_pos e]
  simp;rfl
 ·rw [if_neg (by omega),if_neg (by omega),if_neg (by omega),if_neg (by omega),if_pos (by omega)]
  simp;rfl
theorem qP (k:Int) (k0:0<=k) (k1:k<=15):Qd (std 0).al (k,()) (λy=>y=(2^k.toNat,())):=by
 dsimp only [Qd,Tup.q,Tup.o,Tup.e1]
 simp (disch:=omega) only [RR]
 refine aG (λ(y:Int×Int×Int×Unit)=>y.1=k/\0<=y.2.2.1/\y.2.2.1<=k/\y.2.1=2^y.2.2.1.toNat) (λy=>(k-y.2.2.1).toNat) ⟨rfl,by simp,k0,rfl⟩ ?_
 rintro⟨(z:Int),(a:Int),(i:Int),⟨⟩⟩ hI
 dsimp only at hI ⊢
 obtain⟨rfl,j1,j2,rfl⟩:=hI
 have pw:=F3 j1 (by omega)
 unfold Wo at pw
 simp (disch:=omega) only [RR]
 refine⟨λg=>⟨⟨by omega,by omega,?_⟩,by omega⟩,λg=>by rw [show i=z by omega]⟩
 rw [show(i+1).toNat=i.toNat+1 by omega,Int.pow_succ];omega
theorem F8 {p1 f1} (U1:acM p1 f1) (B:Blk) (i:Ins) (hi:11<=i.op/\i.op<=13) (h:B.ops.length<950000):Qf (std 0).al p1 f1 (B.pc,B.len,B.fin,B.x,B.y,B.k,i,B.ops,()) (λy=>y=bk7 (bW 0 B i)):=by
 have m1:∀(l:List IOp) (o:IOp),l.length<950000->(l++ [o]).length<1000000:=λl o h=>by rw [List.length_append];simp only [List.length_cons,List.length_nil];omega
 dsimp only [Qf,Tup.q,Tup.o,Tup.e1]
 unfold bW bM
 rcases(by omega:i.op=11\/i.op=12\/i.op=13)with e | e | e
 all_goals
  simp (disch:=first | omega | (apply m1;omega)) only [RR,IR,e,U1.hp,U1.hf,n1a,Int.reduceEq,or_self,true_or,or_true]
  try simp
theorem Gs {p1 f1 p3 f3 p5 f5 p6 f6} (U1:acM p1 f1) {p2:Int×Int×Int×Int×Int×Int×Ins×List IOp×Unit->Bool} {f2:Int×Int×Int×Int×Int×Int×Ins×List IOp×Unit->Int×Int×Int×Int×Int×Int×List IOp×Unit} (hp2:∀(B:Blk) (i:Ins),(11<=i.op/\i.op<=13)->B.ops.length<950000->p2 (B.pc,B.len,B.fin,B.x,B.y,B.k,i,B.ops,())=true) (hf2:∀(B:Blk) (i:Ins),(11<=i.op/\i.op<=13)->B.ops.length<950000->f2 (B.pc,B.len,B.fin,B.x,B.y,B.k,i,B.ops,())=bk7 (bW 0 B i)) (U3:aas p3 f3) {p4:Int×Int×Int×Int×Int×Int×Ins×Int×List IOp×Unit->Bool} {f4:Int×Int×Int×Int×Int×Int×Ins×Int×List IOp×Unit->Int×Int×Int×Int×Int×Int×List IOp×Unit} (hp4:∀(a1 a2 a3 a4 a5 a6:Int) (i:Ins) (n:Int) (ops:List IOp),(i.op=9\/i.op=10)->ops.length<950000->p4 (a1,a2,a3,a4,a5,a6,i,n,ops,())=true) (hf4:∀(a1 a2 a3 a4 a5 a6:Int) (i:Ins) (n:Int) (ops:List IOp),(i.op=9\/i.op=10)->ops.length<950000->f4 (a1,a2,a3,a4,a5,a6,i,n,ops,())=(a1,a2,a3,a4,a5,a6,ops++bM n ops.length i,())) (U5:am1 p5 f5) (U6:am2 p6 f6) {p7:Int×Unit->Bool} {f7:Int×Unit->Int×Unit} (hp7:∀k,0<=k->k<=15->p7 (k,())=true) (hf7:∀k,0<=k->k<=15->f7 (k,())=(2^k.toNat,())) (B:Blk) (i:Ins) (n:Int) (hi:bF i) (h0:i.op≠0) (h:B.ops.length<900000):Qg (std 0).al p1 f1 p2 f2 p3 f3 p4 f4 p5 f5 p6 f6 p7 f7 (B.pc,B.len,B.fin,B.x,B.y,B.k,i,n,B.ops,()) (λy=>y=bk7 (bW n B i)):=by
 have m1:∀(l:List IOp) (o:IOp),l.length<950000->(l++ [o]).length<1000000:=λl o h=>by rw [List.length_append];simp only [List.length_cons,List.length_nil];omega
 have m3:∀(l:List IOp) (o1 o2 o3:IOp),l.length<950000->(l++ [o1,o2,o3]).length<1000000:=λl o1 o2 o3 h=>by simp only [List.length_append,List.length_cons,List.length_nil];omega
 obtain⟨⟨o0,o1⟩,_,_,k0,_,_,_,r3,r8,_⟩:=hi
 have P2:=hp2 B i
 have H2:=hf2 B i
 dsimp only [Qg,Tup.q,Tup.o,Tup.e1,Tup.e7,Tup.e14,Tup.e15]
 rcases(by omega:i.op=1\/i.op=2\/i.op=8\/(i.op=9\/i.op=10)\/i.op=14\/i.op=15\/(i.op=11\/i.op=12\/i.op=13)\/(3<=i.op/\i.op<=7))with e | e | e | e | e | e | e | e
 case inr.inr.inr.inl=>
  have e':bW n B i={B with ops:=B.ops++bM n B.ops.length i}:=by unfold bW;rw [if_neg (by omega),if_neg (by omega)]
  rw [e']
  have P4:=hp4 B.pc B.len B.fin B.x B.y B.k i n B.ops e (by omega)
  have H4:=hf4 B.pc B.len B.fin B.x B.y B.k i n B.ops e (by omega)
  rcases e with e | e<;>simp (disch:=omega) only [RR,IR,e,Int.reduceEq,P4,H4,or_true,true_or]
 case inr.inr.inr.inr.inr.inr.inl=>
  have e':bW n B i=bW 0 B i:=by unfold bW bM;rcases e with e | e | e<;>simp [e]
  rw [e']
  have P2:=P2 (by omega) (by omega)
  have H2:=H2 (by omega) (by omega)
  rcases e with e | e | e<;>simp (disch:=omega) only [RR,IR,e,Int.reduceEq,P2,H2,or_true,true_or]
 case inr.inr.inr.inr.inr.inr.inr=>
  have n0:∀z:Int,z<3\/7<z->¬i.op=z:=λz g q=>by omega
  have e':bW n B i={B with ops:=B.ops++ [⟨2,0,0,i.a,0⟩,⟨2,0,0,i.k,0⟩,⟨3,B.ops.length,B.ops.length+1,i.op-2,0⟩,⟨8,B.ops.length+2,0,i.d,0⟩]}:=by
   unfold bW bM;simp (disch:=omega) only [n0,if_false,or_self]
  rw [e']
  simp (disch:=first | omega | (apply m3;omega)) only [RR,IR,n0,U5.hp,U5.hf,U6.hp,U6.hf,or_self]
  simp
  rw [show i.op-3+1=i.op-2 by omega];rfl
 all_goals
  unfold bW bM
  simp (disch:=first | omega | (apply m1;omega) | (apply m3;omega)) only [RR,IR,e,Int.reduceEq,U1.hp,U1.hf,U3.hp,U3.hf,U5.hp,U5.hf,U6.hp,U6.hf,hp7 i.k k0,hf7 i.k k0,r8,n1a,or_self,true_and,and_true]
  try simp
  try rfl
theorem qQ (a:Int):Xd (std 0).al (a,()) (λy=>y=(inB a 11 13,())):=by
 dsimp only [Xd,Tup.q,Tup.o,Tup.e1]
 refine Prod.ext ?_ rfl
 dsimp only
 rw [Bool.eq_iff_iff,cZ]
 simp [Zx]
 omega
theorem CQ {p1 f1 p2 f2} (U1:agX p1 f1) (U2:QU p2 f2) (i:Ins):P8 (std 0).al p1 f1 p2 f2 (i,()) (λy=>y=(bp (bF i)&& !decide (i.op=0)&& !inB i.op 11 13,())):=by
 dsimp only [P8,Tup.q,Tup.o,Tup.e1]
 simp (disch:=omega) only [RR,IR,U1.hp,U1.hf,U2.hp,U2.hf]
theorem Gt {p1 f1 p2 f2 p3 f3} (U1:agX p1 f1) (U2:QU p2 f2) (U3:Y1 p3 f3) {p4:Ins×Unit->Bool} {f4:Ins×Unit->Bool×Unit} (hp4:∀i,p4 (i,())=true) (hf4:∀i,f4 (i,())=(bp (bF i)&& !decide (i.op=0)&& !inB i.op 11 13,())) (pc:Int) (l:List Ins) (hl:(l.length:Int)<1000):Xq (std 0).al p1 f1 p2 f2 p3 f3 p4 f4 (pc,l,()) (λy=>y=(bp (mP pc l),())):=by
 dsimp only [Xq,Tup.q,Tup.o,Tup.e1]
 simp (disch:=omega) only [RR,IR,U1.hp,U1.hf,U2.hp,U2.hf,U3.hp,U3.hf,hp4,hf4,cZ,kN]
 refine⟨λh=> ?_,λh=> ?_⟩
 ·rw [dw]
  intro g
  have a:=g.ln
  have c:=g.pc
  omega
 refine aG (λ(y:List Ins×Int×Unit)=>y.1=l/\0<=y.2.1/\y.2.1<=l.length/\∀j:Nat,j<y.2.1->bF (l.getD j default)/\(l.getD j default).op≠0/\(11<=(l.getD j default).op/\(l.getD j default).op<=13->j+1=l.length)) (λy=>(l.length-y.2.1).toNat) ⟨rfl,by simp,by simp,λj hj=>absurd hj (by dsimp only;omega)⟩ ?_
 rintro⟨(l:List Ins),(i:Int),⟨⟩⟩ hI
 dsimp only at hI ⊢
 obtain⟨rfl,h1,h2,h3⟩:=hI
 by_cases g:i<l.length
 ·have nx:bF ((l).getD (i).toNat default)/\(((l).getD (i).toNat default)).op≠0/\(11<=(((l).getD (i).toNat default)).op/\(((l).getD (i).toNat default)).op<=13->i+1=l.length)->∀j:Nat,(j:Int)<i+1->bF (l.getD j default)/\(l.getD j default).op≠0/\(11<=(l.getD j default).op/\(l.getD j default).op<=13->j+1=l.length):=λq j hj=>by
   by_cases c:(j:Int)<i
   ·exact h3 j c
   ·obtain rfl:j=i.toNat:=by omega
    exact⟨q.1,q.2.1,λz=>by have:=q.2.2 z;omega⟩
  have bad:¬(bF ((l).getD (i).toNat default)/\(((l).getD (i).toNat default)).op≠0/\(11<=(((l).getD (i).toNat default)).op/\(((l).getD (i).toNat default)).op<=13->i+1=l.length))->bp (mP pc l)=false:=λq=>dw λv=>q (by
   have:=v.ok i.toNat (by omega)
   exact⟨this.1,this.2.1,λz=>by have:=this.2.2 z;omega⟩)
  have gi:(i< (l.length:Int)-1)↔¬(i+1=l.length):=by omega
  simp (disch:=omega) only [RR,IR,U1.hp,U1.hf,U2.hp,U2.hf,hp4,hf4,g]
  refine⟨h1,Or.inr h1,Or.inr h1,λe=> ?_,λe=>⟨⟨by omega,by omega,nx ?_⟩,by omega⟩⟩
  ·rw [bad]
   rintro⟨q1,q2,q3⟩
   rw [bE q1,decide_eq_false q2]at e
   have e1:=cZ.1 (show inB (((l).getD (i).toNat default)).op 11 13=true by simpa using e.1)
   have:=q3 e1
   rcases e.2 with(z | z) | z
   ·omega
   ·cases z
   ·exact z e1
  ·have a:bF ((l).getD (i).toNat default):=Classical.byContradiction λn=>by rw [dw n]at e;simp at e
   refine⟨a,λz=> ?_,λq=> ?_⟩
   ·rw [z]at e;simp [inB]at e
   ·rw [bE a,cZ.2 q]at e
    simp at e
    omega
 ·simp (disch:=omega) only [RR,g]
  rw [bE ⟨by omega,by omega,λj hj=>h3 j (by omega)⟩]
structure am3 (pp:Int×List Ins×Unit->Bool) (ff:Int×List Ins×Unit->Bool×Unit):Prop where
 hp:∀(pc:Int) (l:List Ins),(l.length:Int)<1000->pp (pc,l,())=true
 hf:∀(pc:Int) (l:List Ins),(l.length:Int)<1000->ff (pc,l,())=(bp (mP pc l),())
theorem AZ {p1 f1} (U1:am3 p1 f1) {p2:Int×Int×Int×Int×Int×Int×Ins×Int×List IOp×Unit->Bool} {f2:Int×Int×Int×Int×Int×Int×Ins×Int×List IOp×Unit->Int×Int×Int×Int×Int×Int×List IOp×Unit} (hp2:∀(B:Blk) (i:Ins) (n:Int),bF i->i.op≠0->B.ops.length<900000->p2 (B.pc,B.len,B.fin,B.x,B.y,B.k,i,n,B.ops,())=true) (hf2:∀(B:Blk) (i:Ins) (n:Int),bF i->i.op≠0->B.ops.length<900000->f2 (B.pc,B.len,B.fin,B.x,B.y,B.k,i,n,B.ops,())=bk7 (bW n B i)) (pc:Int) (l:List Ins) (hl:(l.length:Int)<1000):Xr (std 0).al p1 f1 p2 f2 (pc,l,()) (λy=>y=bk7 (lower pc l)):=by
 dsimp only [Xr,Tup.q,Tup.o,Tup.e1,Tup.e2,Tup.e7]
 simp (disch:=omega) only [RR,U1.hp pc l hl,U1.hf pc l hl,cO,NJ]
 unfold lower
 refine⟨λh=>by rw [dw h,if_neg (by decide)];rfl,λh=> ?_⟩
 rw [bE h,if_pos rfl]
 have ln:=h.ln
 have pp:=h.pc
 refine aG (λ(y:List Ins×Int×Int×Int×Int×Int×Int×Int×Int×Int×Int×Int×Int×Int×List IOp×Unit)=>y.1=l/\0<=y.2.1/\y.2.1<=l.length/\y.2.2.2.2.2.2.2.2=bk7 (iq 0 (lN pc l) (l.take y.2.1.toNat))) (λy=>(l.length-y.2.1).toNat) ⟨rfl,by simp,by simp,by rw [w64 (by omega) (by omega)];rfl⟩ ?_
 rintro⟨(l':List Ins),(i:Int),z1,z2,z3,z4,z5,z6,q1,q2,q3,q4,q5,q6,q7,⟨⟩⟩ hI
 dsimp only at hI ⊢
 obtain⟨rfl,h1,h2,h3⟩:=hI
 generalize eB:iq 0 (lN pc l') (l'.take i.toNat)=B at h3
 simp only [bk7,Prod.mk.injEq,and_true]at h3
 obtain⟨rfl,rfl,rfl,rfl,rfl,rfl,rfl⟩:=h3
 have bl:B.ops.length<=40:=by
  have:=zy (l'.take i.toNat) 0 (lN pc l')
  rw [eB]at this
  have t:=List.length_take_le i.toNat l'
  have:(lN pc l').ops.length=0:=rfl
  omega
 by_cases c:i<l'.length
 ·obtain⟨o1,o2,o3⟩:=h.ok i.toNat (by omega)
  simp (disch:=omega) only [RR,c,hp2 B (((l').getD (i).toNat default)) i o1 o2 (by omega),hf2 B (((l').getD (i).toNat default)) i o1 o2 (by omega)]
  refine⟨h1,⟨by omega,by omega,?_⟩,by omega⟩
  rw [<-pE (d:=default) h1 c rfl,pI,eB,List.length_take,show(0:Int)+((min i.toNat l'.length:Nat):Int)=i by omega]
 ·rw [List.take_of_length_le (by omega)]at eB
  simp (disch:=omega) only [RR,c,eB]
theorem Oj (pc:Int) (l:List Ins):((lower pc l).ops.length:Int)<=5000:=by
 by_cases h:mP pc l
 ·have:=(qD h).sz;omega
 ·have e:lower pc l=NU:=by unfold lower;rw [dw h,if_neg (by decide)]
  rw [e];decide
theorem acN {pc:Int} {l:List Ins} {y:Int×Int×Int×Int×Int×Int×List IOp×Unit} (h:y=bk7 (lower pc l)):(y.2.2.2.2.2.2.1.length:Int)<=5000:=by rw [h];exact Oj pc l
end Go.TX.F
namespace Go.TX.F
open Go Go.AE Go.TX
abbrev YOw:=Int×Int×Int×Int×Int×Int×Int×Int×Bool×Bool×Int×List Int×Int×List Int×Int×List IOp×List Int×List Int×List Int×Unit
structure OwD (b:List Int) (p:Int) (y:YOw):Prop where
 b:y.2.2.2.2.2.2.2.2.2.2.2.2.2.1=b
 lo:p<=y.2.2.2.2.2.2.2.2.2.2.2.2.2.2.1
 hi:y.2.2.2.2.2.2.2.2.2.2.2.2.2.2.1<=p+12000
 r:y.2.2.2.2.2.2.2.2.2.2.2.2.2.2.2.2.1.length=4
 m:y.2.2.2.2.2.2.2.2.2.2.2.2.2.2.2.2.2.1.length=64
 i:y.2.2.2.2.2.2.2.2.2.2.2.1.length<=10
 o:y.2.2.2.2.2.2.2.2.2.2.2.2.2.2.2.2.2.2.1.length<=100
structure am4 (pp:Int×List Ins×Unit->Bool) (ff:Int×List Ins×Unit->Int×Int×Int×Int×Int×Int×List IOp×Unit):Prop where
 hp:∀(pc:Int) (l:List Ins),(l.length:Int)<1000->pp (pc,l,())=true
 hf:∀(pc:Int) (l:List Ins),(l.length:Int)<1000->ff (pc,l,())=bk7 (lower pc l)
structure am5 (pp:Blk×List Int×Int×Unit->Bool) (ff:Blk×List Int×Int×Unit->YMc):Prop where
 hp:∀c b p,Bt b->0<=p->p<400000000->pp (c,b,p,())=true
 hf:∀c b p,Bt b->0<=p->p<400000000->MaD b p (ff (c,b,p,()))
theorem ahe {p1 f1 p2 f2 p3 f3 p4 f4 p5 f5 p6 f6} (U1:am4 p1 f1) (U2:Y80 p2 f2) (U3:Y38 p3 f3) (U4:am5 p4 f4) (U5:Y81 p5 f5) (U6:Y62 p6 f6) (b:List Int) (p:Int) (hb:Bt b) (h1:0<=p) (h2:p<300000000):Qz (std 0).al p1 f1 p2 f2 p3 f3 p4 f4 p5 f5 p6 f6 (b,p,()) (λy=>OwD b p y):=by
  obtain⟨i1,i2,i3,i4,i5,i6⟩:=U5.hf b p hb h1 (by omega)
  have P5:=U5.hp b p hb h1 (by omega)
  generalize hy:f5 (b,p,())=y at i1 i2 i3 i4 i5 i6
  obtain⟨b',q,l,⟨⟩⟩:=y
  dsimp only at i1 i2 i3 i4 i5 i6
  subst i1
  have R:=pkR hb U3.hf
  have P:=λn p h1 h2=>U3.hp n b' p hb h1 h2
  dsimp only [Qz,Tup.q,Tup.o,Tup.e1,Tup.e2,Tup.e7,Tup.e15,Tup.e16]
  simp (disch:=omega) only [RR,P5,hy,R,P,U6.hp,List.length_cons,List.length_nil,List.length_append,List.length_set]
  generalize hL:List.drop (Int.toNat 0) (List.take (0+((if 7< (l.length:Int)then 7 else(l.length:Int))-0)).toNat l)=L
  have l7:1<=L.length/\L.length<=7:=by
    rw [<-hL,List.length_drop,List.length_take];split<;>omega
  refine⟨by omega,by split<;>omega,by split<;>omega,by omega,by split<;>omega,by split<;>omega,by omega,by omega,?_⟩
  have mE:∀c:Blk,Co.mk .blk (c.pc,c.len,c.ops,c.fin,c.x,c.y,c.k,())=c:=λ_=>rfl
  have lb:∀(pc:Int) (l:List Ins),(lower pc l).ops.length<1000000:=λpc l=>by
    by_cases h:mP pc l
    · have:=(qD h).sz;omega
    · have e:lower pc l=NU:=by unfold lower;rw [dw h,if_neg (by decide)]
      rw [e];decide
  have M4:=λB t h1 h2=>U4.hf B b' t hb h1 h2
  have lt4:∀l:List Int,l.length=4->3< (l.length:Int):=λl h=>by omega
  have L0:∀B t,0<=t->t<400000000->(0<=(f4 (B,b',t,())).2.2.2.2.2.2.2.2.1)=True:=λB t h1 h2=>eq_true (Int.le_trans h1 (M4 B t h1 h2).lo)
  have L1:∀B t,0<=t->t<400000000->((f4 (B,b',t,())).2.2.2.2.2.2.2.2.1<1000000000)=True:=λB t h1 h2=>eq_true (Int.lt_of_le_of_lt (M4 B t h1 h2).hi (by omega))
  have A:=λB t h1 h2=>(U4.hf B b' t hb h1 h2).b
  simp (disch:=first | omega | exact lb _ _ | (simp only [List.length_set,List.length_append,List.length_cons,List.length_nil];omega) | (simp (disch:=omega) only [L0,L1])) only [RR,R,P,U1.hp,U1.hf,U2.hp,U2.hf,mE,lb,U4.hp,A]
  repeat' (first | (refine⟨?_,?_⟩) | intro _)
  all_goals first
    | omega
    | exact lt4 _ (M4 _ _ (by omega) (by omega)).r
    | (refine ⟨rfl, ?_, ?_, (List.length_set ..).trans (M4 _ _ (by omega) (by omega)).r, (M4 _ _ (by omega) (by omega)).m, (M4 _ _ (by omega) (by omega)).i, (M4 _ _ (by omega) (by omega)).o⟩
       · dsimp only;exact Int.le_trans (Int.le_trans (by omega) (M4 _ _ (by omega) (by omega)).lo) (Int.le_add_one (Int.le_refl _))
       · dsimp only;exact Int.le_trans (Int.add_le_add_right (M4 _ _ (by omega) (by omega)).hi 1) (by omega))
theorem am6 {p2 f2 p3 f3 p4 f4 p5 f5 p6 f6} {p1:Int×List Int×Int×Unit->Bool} {f1:Int×List Int×Int×Unit->YMo} (hp1:∀n b p,Bt b->0<=p->p<400000000->p1 (n,b,p,())=true) (hf1:∀n b p,Bt b->0<=p->p<400000000->MoD b p (f1 (n,b,p,()))) (U2:Y41 p2 f2) (U3:Y39 p3 f3) (U4:Y38 p4 f4) (U5:am5 p5 f5) (U6:Y84 p6 f6) {p7:List Int×Int×Unit->Bool} {f7:List Int×Int×Unit->YOw} (hp7:∀b p,Bt b->0<=p->p<300000000->p7 (b,p,())=true) (hf7:∀b p,Bt b->0<=p->p<300000000->OwD b p (f7 (b,p,()))) (c:List Int) (hc:By c) (hl:c.length<1000000000):Yo (std 0).al p1 f1 p2 f2 p3 f3 p4 f4 p5 f5 p6 f6 p7 f7 (c,()) (λy=>MSh (mD y)/\(mD y).outs.length<800000000):=by
 obtain⟨hb,e0⟩:=U2.hf c hc hl
 generalize hbe:(f2 (c,())).1=b at hb
 have R:=pkR hb U4.hf
 have P:=λn p h1 h2=>U4.hp n b p hb h1 h2
 have OW:=hf7 b (0+1) hb (by omega) (by omega)
 have OP:=hp7 b (0+1) hb (by omega) (by omega)
 obtain⟨k1,k2,k3,k4⟩:=U6.hf 14 b (0+1) hb (by omega) (by omega)
 have KP:=U6.hp 14 b (0+1) hb (by omega) (by omega)
 generalize hk:f6 (14,b,0+1,())=k at k1 k2 k3 k4
 obtain⟨B,b1,q1,⟨⟩⟩:=k
 dsimp only at k1 k2 k3 k4
 subst k2
 have AT:=U5.hf B b1 q1 hb (by omega) (by omega)
 have AP:=U5.hp B b1 q1 hb (by omega) (by omega)
 generalize hm:f5 (B,b1,q1,())=m at AT
 obtain⟨pc,sv,lt,wt,ha,ins,ct,b2,q2,regs,mem,outs,⟨⟩⟩:=m
 obtain⟨a1,a2,a3,a4,a5,a6,a7⟩:=AT
 dsimp only at a1 a2 a3 a4 a5 a6 a7
 subst a1
 obtain⟨o1,o2⟩:=U3.hf 14 b2 q2 hb (by omega) (by omega)
 have O3:=U3.hp 14 b2 q2 hb (by omega) (by omega)
 have MO:=hf1 2 b2 (q2+1) hb (by omega) (by omega)
 have MP:=hp1 2 b2 (q2+1) hb (by omega) (by omega)
 dsimp only [Yo,Tup.q,Tup.o,Tup.e1,Tup.e2,Tup.e10]
 simp (disch:=omega) only [RR,U2.hp c hc hl,hbe,e0,R,P,OP,KP,hk,AP,hm,O3,o1,o2,MP]
 have m3:=MO.m
 have m4:=MO.r
 have m5:=MO.i
 have m6:=MO.o
 have w3:=OW.m
 have w4:=OW.r
 have w5:=OW.i
 have w6:=OW.o
 unfold MSh mD
 refine⟨λ_=>⟨⟨?_,?_,?_,?_⟩,?_⟩,λ_=>⟨λ_=>⟨⟨?_,?_,?_,?_⟩,?_⟩,λ_=>⟨⟨?_,?_,?_,?_⟩,?_⟩⟩⟩
 all_goals try dsimp only
 all_goals omega
end Go.TX.F
namespace Go.TX.F
open Go Go.AE Go.TX
theorem adP (x:Int) (n:Nat) (hn:n<=16) (m:Int) (hm:m=2^n-1):iG .and .i64 x m=x%2^n:=by
 have h2:((2^IntKind.i64.bits:Nat):Int)=18446744073709551616:=by decide
 have p:2^n<=2^16:=Nat.pow_le_pow_right (by decide) hn
 have p0:0<2^n:=Nat.pow_pos (by decide)
 have p16:(2:Nat)^16=65536:=by decide
 have c:((2:Int)^n)=((2^n:Nat):Int):=by simp
 have d:18446744073709551616=2^n*2^ (64-n):=by rw [<-Nat.pow_add,show n+(64-n)=64 by omega]
 rw [c]at hm ⊢
 unfold iG
 dsimp only
 rw [BitVec.toNat_and,BitVec.toNat_ofInt,BitVec.toNat_ofInt,h2,show(m%18446744073709551616).toNat=2^n-1 by omega,Nat.and_two_pow_sub_one_eq_mod]
 have l:=Nat.mod_lt (x%18446744073709551616).toNat p0
 rw [w64 (by omega) (by omega)]
 have e:(((x%18446744073709551616).toNat%2^n:Nat):Int)=x%18446744073709551616% ((2^n:Nat):Int):=by
  rw [Int.natCast_emod];congr 1;omega
 rw [e,Int.emod_emod_of_dvd]
 exact⟨((2^ (64-n):Nat):Int),by rw [<-Int.natCast_mul,<-d];rfl⟩
theorem QX (x:Int) (n:Nat) (hn:n<=64) (h:0<=x):fZ .shr .i64 x (n:Int)=x/2^n:=by
 show x.fdiv (2^ (min (n:Int).toNat 64))=_
 rw [show(n:Int).toNat=n from rfl,Nat.min_eq_left hn,Int.fdiv_eq_ediv_of_nonneg]
 exact Int.le_of_lt (Int.pow_pos (by decide))
theorem ahf {a k:Int} (ha:Wo a) (h0:0<=k) (h1:k<=15):fZ .shl .i64 a k=a*2^k.toNat:=by
 have p:=F3 h0 h1
 obtain⟨a0,a1⟩:=ha
 obtain⟨p0,p1⟩:=p
 have b0:0<=a*2^k.toNat:=Int.mul_nonneg a0 p0
 have b1:a*2^k.toNat<=65535*65535:=Int.mul_le_mul a1 p1 p0 (by decide)
 show IntKind.i64.wrap (a*2^ (min k.toNat 64))=_
 rw [Nat.min_eq_left (by omega),w64 (by omega) (by omega)]
theorem aqn {p1 f1 p2 f2} (U1:QU p1 f1) (U2:Y9 p2 f2) (w:Int):afW (std 0).al p1 f1 p2 f2 (w,()) (λy=>y=tkI w):=by
 dsimp only [afW,Tup.q,Tup.o,Tup.e1]
 simp (disch:=omega) only [RR,U1.hp,U1.hf,U2.hp,U2.hf,tY]
 by_cases h:Wo w
 ·obtain⟨w0,w1⟩:=id h
  have e:∀x y z u:Int,Co.mk .ins (x,y,z,u,())=⟨x,y,z,u⟩:=λ_ _ _ _=>rfl
  have s12:fZ .shr .i64 w 12=w/4096:=QX w 12 (by decide) w0
  have s10:fZ .shr .i64 w 10=w/1024:=QX w 10 (by decide) w0
  have s8:fZ .shr .i64 w 8=w/256:=QX w 8 (by decide) w0
  have m3:∀x,iG .and .i64 x 3=x%4:=λx=>adP x 2 (by decide) 3 (by decide)
  have m8:∀x,iG .and .i64 x 255=x%256:=λx=>adP x 8 (by decide) 255 (by decide)
  rw [bE (show 0<=w/\w<=65535 from h)]
  simp only [Jk,s12,s10,s8,m3,m8,e]
  have ed:(⟨w/4096,w/1024%4,w/256%4,w%256⟩:Ins)=iF w:=rfl
  unfold tkI
  by_cases k:bF (iF w)
  ·rw [ed,bE k,bE ⟨h,k⟩];simp;rfl
  ·rw [ed,dw k,dw (λg=>k g.2)];simp
 ·rw [dw (show¬(0<=w/\w<=65535)from h)]
  unfold tkI
  rw [dw (λg=>h g.1)]
  simp
theorem aqo {p1 f1} (U1:QU p1 f1) (i:Ins):afU (std 0).al p1 f1 (i,()) (λy=>y=(jF i,())):=by
 dsimp only [afU,Tup.q,Tup.o,Tup.e1]
 simp (disch:=omega) only [RR,IR,U1.hp,U1.hf]
 unfold jF FZ
 refine⟨λh=>by rw [h];rfl,λh=> ?_⟩
 rw [if_pos h]
 obtain⟨⟨o0,o1⟩,⟨d0,d1⟩,⟨a0,a1⟩,k0,h⟩:=cO.1 h
 have k1:i.k<=255:=by omega
 simp (disch:=omega) only [w64]
theorem aqp {p1 f1} (U1:ahb p1 f1) (l:List Ins) (hl:l.length<1000000):afV (std 0).al p1 f1 (l,()) (λy=>y=(l.map jF,())):=by
 dsimp only [afV,Tup.q,Tup.o,Tup.e1]
 simp (disch:=omega) only [RR,List.length_nil]
 refine aG (λ(y:List Ins×Int×Int×List Int×Unit)=>y.1=l/\y.2.1=l.length/\0<=y.2.2.1/\y.2.2.1<=l.length/\y.2.2.2.1=(l.take y.2.2.1.toNat).map jF) (λy=>(l.length-y.2.2.1).toNat) ⟨rfl,rfl,by simp,by simp,by simp⟩ ?_
 rintro⟨(l:List Ins),(n:Int),(i:Int),(o:List Int),⟨⟩⟩ hI
 dsimp only at hI ⊢
 obtain⟨rfl,rfl,h1,h2,rfl⟩:=hI
 have h3:=List.length_take_le' i.toNat l
 simp (disch:=omega) only [RR,U1.hp,U1.hf,List.length_map,List.length_cons,List.length_nil]
 refine⟨λh4=>⟨by omega,by omega,by omega,⟨by omega,by omega,?_⟩,by omega⟩,λh4=>by rw [List.take_of_length_le (by omega)]⟩
 rw [<-pE (d:=default) h1 h4 rfl,List.map_append];rfl
theorem adQ (m:aA):Zg (std 0).al (m,()) (λy=>y=(decide (m.halt=0)&&decide (m.count<1000000),())):=by
 dsimp only [Zg,Tup.q,Tup.o,Tup.e1]
 simp (disch:=omega) only [RR,MRB]
theorem adR (l:List Int) (n:Int) (h:l.length<1000000000):Zj (std 0).al (l,n,()) (λy=>0<=y.1↔n∈l):=by
 dsimp only [Zj,Tup.q,Tup.o,Tup.e1]
 simp (disch:=omega) only [RR]
 refine aG (λ(y:List Int×Int×Int×Int×Unit)=>y.1=l/\y.2.1=n/\y.2.2.1=l.length/\0<=y.2.2.2.1/\y.2.2.2.1<=l.length/\n∉l.take y.2.2.2.1.toNat) (λy=>(l.length-y.2.2.2.1).toNat) ⟨rfl,rfl,rfl,by simp,by simp,by simp⟩ ?_
 rintro⟨(l:List Int),(n:Int),(z:Int),(i:Int),⟨⟩⟩ hI
 dsimp only at hI ⊢
 obtain⟨rfl,rfl,rfl,h1,h2,h3⟩:=hI
 simp (disch:=omega) only [RR]
 refine⟨λg=>⟨h1,g,λe=>⟨λ_=>by rw [e];exact jD h1 g,λ_=>h1⟩,λe=>⟨⟨by omega,by omega,λq=> ?_⟩,by omega⟩⟩,λg=>⟨λq=>absurd q (by decide),λq=> ?_⟩⟩
 ·rw [show(i+1).toNat=i.toNat+1 by omega,List.take_succ_eq_append_getElem (by omega),List.mem_append,List.mem_singleton,<-getD_lt (d:=default) (show i.toNat<l.length by omega)]at q
  exact q.elim h3 e
 ·rw [List.take_of_length_le (by omega)]at h3
  exact absurd q h3
theorem am7 {p1:List Int×Int×Unit->Bool} {f1:List Int×Int×Unit->Int×Unit} (hp1:∀l n,l.length<1000000000->p1 (l,n,())=true) (hf1:∀l n,l.length<1000000000->(0<=(f1 (l,n,())).1↔n∈l)) (l:List Int) (n:Int) (h:l.length<1000000000):Zk (std 0).al p1 f1 (l,n,()) (λy=>y=(bp (n∈l),())):=by
 have H:=hf1 l n h
 dsimp only [Zk,Tup.q,Tup.o,Tup.e1,Tup.e2]
 simp (disch:=omega) only [RR,hp1 l n h]
 rw [AQ,tN H]
end Go.TX.F
namespace Go.TX.F
open Go Go.AE Go.TX
set_option maxHeartbeats 1000000 in
theorem am8 {p1 f1 p2 f2 p3 f3 p4 f4} (U1:amt p1 f1) (U2:Y24 p2 f2) (U3:Y58 p3 f3) (U4:Y10 p4 f4) (i:Ins) (m:aA) (h:MOK m) (hi:bF i) (hn:m.ins.length<1000000000) (ho:m.outs.length<900000000):Zh (std 0).al p1 f1 p2 f2 p3 f3 p4 f4 (i,m.pc,m.save,m.bJ,m.waits,m.halt,m.ins,m.count,m.regs,m.mem,m.outs,()) (λy=>y=mB (exec m i)):=by
 obtain⟨⟨o0,o1⟩,⟨d0,d1⟩,⟨a0,a1⟩,k0,r0,r1,r2,r3,r8,r9,_⟩:=hi
 have k8:i.k<=255:=by omega
 have r4:=h.r4
 have m6:=h.m64
 have c:=h.ct
 have pw:0<=m.pc/\m.pc<=65535:=h.pc
 have wa:=h.rw.at i.a
 have wd:=h.rw.at i.d
 obtain⟨q1,q2⟩:=TA wd wa
 have i1:inB ((m.regs).getD (i.d).toNat default) 0 65535=true:=cZ.2 wd
 have i2:inB ((m.regs).getD (i.a).toNat default) 0 65535=true:=cZ.2 wa
 have wa':0<=((m.regs).getD (i.a).toNat default)/\((m.regs).getD (i.a).toNat default)<=65535:=wa
 have P1:=U1.hp m.pc m.save m.bJ m.waits m.halt m.ins m.count m.regs m.mem m.outs hn
 have H1:=U1.hf m.pc m.save m.bJ m.waits m.halt m.ins m.count m.regs m.mem m.outs hn
 have ad:(((m.regs).getD (i.a).toNat default)+i.k)%65536=adr m i:=rfl
 have ad0:0<=adr m i:=by unfold adr;omega
 have ri:∀r a b:Int,(inB a 0 65535&&inB b 0 65535&&decide (r=1/\a=b\/r=2/\a<b))=AX r a b:=λ_ _ _=>rfl
 dsimp only [Zh,Tup.q,Tup.o,Tup.e1,Tup.e2,Tup.e3,Tup.e5,Tup.e7,Tup.e11]
 rcases(by omega:i.op=0\/i.op=1\/i.op=2\/(3<=i.op/\i.op<=7)\/i.op=8\/i.op=9\/i.op=10\/i.op=11\/i.op=12\/i.op=13\/i.op=14\/i.op=15)with e | e | e | e | e | e | e | e | e | e | e | e
 case inr.inr.inr.inl=>
  have n0:∀z:Int,z<3\/7<z->¬i.op=z:=λz g q=>by omega
  have kk:=r3 e
  simp (disch:=omega) only [RR,IR,n0,U4.hp,U4.hf,ad,U2.hp,U2.hf,r4,d0,a0,k0,iE,or_self,false_and,and_false]
  refine⟨by omega,by omega,by omega,λ_=>⟨by omega,by omega,by omega,?_⟩⟩
  rw [show i.op-3+1=i.op-2 by omega]
  exact bC (u:={m with regs:=m.regs.set i.d.toNat (wdo (i.op-2) ((m.regs).getD (i.a).toNat default) ((m.regs).getD (i.k).toNat default))}) (n9 (by omega)) (efd e) (nxp (by omega))
 all_goals simp (disch:=omega) only [RR,IR,e,Int.reduceEq,Int.reduceSub,Int.reduceAdd,U4.hp,U4.hf,ad,U3.hp,U3.hf,P1,H1,r4,m6,d0,a0,k0,iE,or_self,false_and,and_false,true_or,or_true,true_and,List.length_cons,List.length_nil]
 ·refine⟨by omega,by omega,by omega,λ_=>⟨λg=> ?_,λg=>⟨λg1=> ?_,λg1=> ?_⟩⟩⟩
  ·exact bC (u:={m with halt:=1}) (n9 (by omega)) (by rw [ef0 e,if_pos g]) (nxp (by omega))
  ·exact bC (u:={m with bJ:=true}) (n9 (by omega)) (by rw [ef0 e,if_neg g,if_pos g1]) (by unfold nxt;rw [if_pos ⟨e,g1⟩])
  ·exact bC (u:={m with bJ:=decide (i.k=2)}) (n9 (by omega)) (by rw [ef0 e,if_neg g,if_neg g1]) (nxp (by omega))
 ·exact⟨by omega,by omega,by omega,λ_=>⟨by omega,bC (u:={m with regs:=m.regs.set i.d.toNat i.k}) (n9 (by omega)) (ef1 e) (nxp (by omega))⟩⟩
 ·exact⟨by omega,by omega,by omega,λ_=>⟨by omega,bC (u:={m with regs:=m.regs.set i.d.toNat ((m.regs).getD (i.a).toNat default)}) (n9 (by omega)) (ef2 e) (nxp (by omega))⟩⟩
 ·rw [ahf wa k0 (r8 e)]
  exact⟨by omega,by omega,by omega,λ_=>⟨by omega,bC (u:={m with regs:=m.regs.set i.d.toNat (((m.regs).getD (i.a).toNat default)*2^i.k.toNat%65536)}) (n9 (by omega)) (ef8 e) (nxp (by omega))⟩⟩
 ·refine⟨by omega,by omega,by omega,λg=> ?_,λg=> ?_⟩
  ·exact Da (by unfold exec;rw [if_pos ⟨Or.inl e,g⟩])
  ·have g':¬64<=adr m i:=λq=>by simp [q]at g
   exact⟨by omega,by omega,by omega,by omega,by omega,bC (u:={m with regs:=m.regs.set i.d.toNat ((m.mem).getD (adr m i).toNat default)}) (λq=>g' q.2) (ef9 e) (nxp (by omega))⟩
 ·refine⟨by omega,by omega,by omega,λg=> ?_,λg=> ?_⟩
  ·exact Da (by unfold exec;rw [if_pos ⟨Or.inr e,g⟩])
  ·have g':¬64<=adr m i:=λq=>by simp [q]at g
   exact⟨by omega,by omega,by omega,by omega,by omega,bC (u:={m with mem:=m.mem.set (adr m i).toNat ((m.regs).getD (i.d).toNat default)}) (λq=>g' q.2) (ag2 e) (nxp (by omega))⟩
 ·have ef:eff m i=m:=efj (by omega)
  refine⟨by omega,by omega,by omega,λ_=>⟨by omega,λg=> ?_,λg=> ?_⟩⟩
  ·exact bC (u:=m) (n9 (by omega)) ef (by unfold nxt;rw [if_neg (by omega),if_pos ⟨Or.inl e,by rw [e];exact q1.2 g.2⟩])
  ·rw [i1,i2]at g
   exact bC (u:=m) (n9 (by omega)) ef (by unfold nxt;rw [if_neg (by omega),if_neg (λq=>of_decide_eq_false g (q1.1 (by have:=q.2;rw [e]at this;exact this))),if_neg (by omega)])
 ·have ef:eff m i=m:=efj (by omega)
  refine⟨by omega,by omega,by omega,λ_=>⟨by omega,λg=> ?_,λg=> ?_⟩⟩
  ·exact bC (u:=m) (n9 (by omega)) ef (by unfold nxt;rw [if_neg (by omega),if_pos ⟨Or.inr e,by rw [e];exact q2.2 g.2⟩])
  ·rw [i1,i2]at g
   exact bC (u:=m) (n9 (by omega)) ef (by unfold nxt;rw [if_neg (by omega),if_neg (λq=>of_decide_eq_false g (q2.1 (by have:=q.2;rw [e]at this;exact this))),if_neg (by omega)])
 ·exact⟨by omega,by omega,by omega,λ_=>bC (u:=m) (n9 (by omega)) (efj (by omega)) (by unfold nxt;rw [if_neg (by omega),if_neg (by omega),if_pos e];rfl)⟩
 ·exact⟨by omega,by omega,by omega,λ_=>⟨by omega,by omega,bC (u:={m with outs:=m.outs++ [((m.regs).getD (i.d).toNat default)]}) (n9 (by omega)) (amI e) (nxp (by omega))⟩⟩
 ·exact⟨by omega,by omega,by omega,λ_=>⟨by omega,bC (u:={m with regs:=m.regs.set i.d.toNat (m.ins.getD 0 default),ins:=m.ins.drop 1}) (n9 (by omega)) (ag3 e) (nxp (by omega))⟩⟩
set_option maxHeartbeats 1000000 in
theorem am9 {p1 f1} (U1:amN p1 f1) {p2:Ins×Int×Int×Bool×Bool×Int×List Int×Int×List Int×List Int×List Int×Unit->Bool} {f2:Ins×Int×Int×Bool×Bool×Int×List Int×Int×List Int×List Int×List Int×Unit->Int×Int×Bool×Bool×Int×List Int×Int×List Int×List Int×List Int×Unit} (hp2:∀(i:Ins) (m:aA),MOK m->bF i->m.ins.length<1000000000->m.outs.length<900000000->p2 (i,m.pc,m.save,m.bJ,m.waits,m.halt,m.ins,m.count,m.regs,m.mem,m.outs,())=true) (hf2:∀(i:Ins) (m:aA),MOK m->bF i->m.ins.length<1000000000->m.outs.length<900000000->f2 (i,m.pc,m.save,m.bJ,m.waits,m.halt,m.ins,m.count,m.regs,m.mem,m.outs,())=mB (exec m i)) (b:Bool) (m:aA) (h:MOK m) (hn:m.ins.length<1000000000) (ho:m.outs.length<900000000):Zi (std 0).al p1 f1 p2 f2 (b,m.pc,m.save,m.bJ,m.waits,m.halt,m.ins,m.count,m.regs,m.mem,m.outs,()) (λy=>y=mB (stepM m b)):=by
 have s:=QW h b
 obtain⟨e1,e2,_⟩:=Jz m b
 have P2:=λi hi=>hp2 i (smp m b) s hi (by rw [e1];exact hn) (by rw [e2];exact ho)
 have H2:=λi hi=>hf2 i (smp m b) s hi (by rw [e1];exact hn) (by rw [e2];exact ho)
 have m64:=s.m64
 have pw:0<=(smp m b).pc/\(smp m b).pc<=65535:=s.pc
 have wm:=s.mw.at (smp m b).pc
 have T:(bF (iF (((smp m b).mem).getD ((smp m b).pc).toNat default))->tkI (((smp m b).mem).getD ((smp m b).pc).toNat default)=((iF (((smp m b).mem).getD ((smp m b).pc).toNat default)).op,(iF (((smp m b).mem).getD ((smp m b).pc).toNat default)).d,(iF (((smp m b).mem).getD ((smp m b).pc).toNat default)).a,(iF (((smp m b).mem).getD ((smp m b).pc).toNat default)).k,true,()))/\(¬bF (iF (((smp m b).mem).getD ((smp m b).pc).toNat default))->tkI (((smp m b).mem).getD ((smp m b).pc).toNat default)=(0,0,0,0,false,())):=
  ⟨λk=>by unfold tkI;rw [bE ⟨wm,k⟩,if_pos rfl],λk=>by unfold tkI;rw [dw (λq=>k q.2),if_neg (by decide)]⟩
 have iK:∀i:Ins,Co.mk .ins (i.op,i.d,i.a,i.k,())=i:=λ_=>rfl
 have fin:∀S:aA,S=smp m b->(64<=S.pc->(S.pc,S.save,S.bJ,S.waits,(4:Int),S.ins,S.count,S.regs,S.mem,S.outs,())=mB (stepM m b))/\(¬64<=S.pc->(¬bF (iF ((S.mem).getD (S.pc).toNat default))->(S.pc,S.save,S.bJ,S.waits,(2:Int),S.ins,S.count,S.regs,S.mem,S.outs,())=mB (stepM m b))/\(bF (iF ((S.mem).getD (S.pc).toNat default))->exec S (iF ((S.mem).getD (S.pc).toNat default))=stepM m b)):=by
  rintro S rfl
  rw [ug]
  refine⟨λq=>by rw [if_pos q],λq=>⟨λk=>by rw [if_neg q,dw k,if_pos rfl],λk=>by rw [if_neg q,bE k,if_neg (by decide)]⟩⟩
 have F:=fin _ rfl
 have w0:=h.m64
 dsimp only [Zi,Tup.q,Tup.o,Tup.e1,Tup.e5,Tup.e6,Tup.e10]
 have n48:((64:Int)<=48)=False:=eq_false (by decide)
 by_cases c:(m.waits || b)=true/\m.bJ=true
 ·have e:smp m b={m with waits:=false,bJ:=false,save:=m.pc,pc:=48}:=by unfold smp;rw [if_pos c]
  rw [e]at T P2 H2 F
  dsimp only at T P2 H2 F
  have F2:=F.2 (by decide)
  by_cases k:bF (iF ((m.mem).getD ((48:Int)).toNat default))
  ·have t:=T.1 k
   have E:=F2.2 k
   simp (disch:=omega) only [RR,c.1,c.2,n48,Bool.and_self,U1.hp,U1.hf,t,iK,P2 _ k,H2 _ k,E,w0,iE]
   exact⟨by omega,by omega,by omega,by omega⟩
  ·have t:=T.2 k
   have E:=F2.1 k
   simp (disch:=omega) only [RR,c.1,c.2,n48,Bool.and_self,U1.hp,U1.hf,t,iK,E,w0,iE]
   exact⟨by omega,by omega,by omega,by omega⟩
 ·have e:smp m b={m with waits:=m.waits || b}:=by unfold smp;rw [if_neg c]
  have c':((m.waits || b)&&m.bJ)=false:=by
   cases g:((m.waits || b)&&m.bJ)with
   | false=>rfl
   | true=>rw [Bool.and_eq_true]at g;exact absurd g c
  rw [e]at T P2 H2 F pw
  dsimp only at T P2 H2 F pw
  by_cases p:64<=m.pc
  ·have E:=F.1 p
   simp (disch:=omega) only [RR,c',p,E,w0,iE]
  have F2:=F.2 p
  by_cases k:bF (iF ((m.mem).getD (m.pc).toNat default))
  ·have t:=T.1 k
   have E:=F2.2 k
   simp (disch:=omega) only [RR,c',p,U1.hp,U1.hf,t,iK,P2 _ k,H2 _ k,E,w0,iE]
   exact⟨by omega,by omega,by omega,by omega⟩
  ·have t:=T.2 k
   have E:=F2.1 k
   simp (disch:=omega) only [RR,c',p,U1.hp,U1.hf,t,iK,E,w0,iE]
   exact⟨by omega,by omega,by omega,by omega⟩
set_option maxHeartbeats 1000000 in
theorem ana {p1 f1 p4 f4 p5 f5} (U1:acF p1 f1) {p2:aA×Unit->Bool} {f2:aA×Unit->Bool×Unit} (hp2:∀m,p2 (m,())=true) (hf2:∀m,f2 (m,())=(decide (m.halt=0)&&decide (m.count<1000000),())) {p3:Bool×Int×Int×Bool×Bool×Int×List Int×Int×List Int×List Int×List Int×Unit->Bool} {f3:Bool×Int×Int×Bool×Bool×Int×List Int×Int×List Int×List Int×List Int×Unit->Int×Int×Bool×Bool×Int×List Int×Int×List Int×List Int×List Int×Unit} (hp3:∀(b:Bool) (m:aA),MOK m->m.ins.length<1000000000->m.outs.length<900000000->p3 (b,m.pc,m.save,m.bJ,m.waits,m.halt,m.ins,m.count,m.regs,m.mem,m.outs,())=true) (hf3:∀(b:Bool) (m:aA),MOK m->m.ins.length<1000000000->m.outs.length<900000000->f3 (b,m.pc,m.save,m.bJ,m.waits,m.halt,m.ins,m.count,m.regs,m.mem,m.outs,())=mB (stepM m b)) (U4:aag p4 f4) (U5:amP p5 f5) (m:aA) (q:List Int) (n:Int) (h:MSh m) (hq:q.length<1000000000) (ho:m.outs.length<800000000):Zl (std 0).al p1 f1 p2 f2 p3 f3 p4 f4 p5 f5 (m,q,n,()) (λy=>y=m10 (jU q n m)):=by
 dsimp only [Zl,Tup.q,Tup.o,Tup.e1,Tup.e10]
 simp (disch:=omega) only [RR,U4.hp m h,U4.hf m h,U1.hp m h,U1.hf m h]
 refine⟨λg=> ?_,λg=> ?_⟩
 ·unfold jU
  rw [tL,if_neg]
  ·rfl
  ·rcases g with g | g
   ·rw [g];simp
   ·rw [dw (show¬n<=400 by omega)];simp
 have ok:=cO.1 g.1
 have e:jU q n m=kQ q n.toNat m:=by unfold jU;rw [bE ⟨ok,by omega⟩,if_pos rfl]
 rw [e]
 have n4:n<=400:=by omega
 refine aG (λ(y:List Int×Int×Int×Int×Bool×Bool×Int×Int×Int×Int×Bool×Bool×Int×List Int×Int×List Int×List Int×List Int×Unit)=>∃(x:aA) (k:Nat),y.1=q/\y.2.1=n-k/\(k=0\/k<=n)/\y.2.2.2.2.2.2.2.2=mB x/\MOK x/\x.ins.length<=m.ins.length/\x.outs.length<=m.outs.length+k/\kQ q (n-k).toNat x=kQ q n.toNat m) (λy=>y.2.1.toNat)
  ⟨m,0,rfl,by simp,Or.inl rfl,rfl,ok,Nat.le_refl _,Nat.le_refl _,by simp⟩ ?_
 rintro⟨(q:List Int),(i:Int),u1,u2,u3,u4,u5,u6,v1,v2,v3,v4,v5,v6,v7,v8,v9,v10,⟨⟩⟩ ⟨x,k,hI⟩
 dsimp only at hI ⊢
 obtain⟨rfl,rfl,h1,h2,h3,h4,h5,h6⟩:=hI
 simp only [Prod.mk.injEq,and_true]at h2
 obtain⟨rfl,rfl,rfl,rfl,rfl,rfl,rfl,rfl,rfl,rfl⟩:=h2
 have xs:MSh x:=⟨by rw [h3.r4];decide,by rw [h3.m64];decide,by have:=h.2.2.1;omega,by omega⟩
 have mK:Co.mk .aB (x.regs,x.pc,x.mem,x.save,x.bJ,x.waits,x.halt,x.ins,x.outs,x.count,())=x:=rfl
 simp (disch:=omega) only [RR,mK,U1.hp x xs,U1.hf x xs,hp2,hf2,U5.hp _ _ hq,U5.hf _ _ hq,hp3 _ x h3 (by have:=h.2.2.1;omega) (by omega),hf3 _ x h3 (by have:=h.2.2.1;omega) (by omega)]
 refine⟨λg=> ?_,λg=> ?_⟩
 ·have l:=F7 x (bp (x.count∈q))
  have wz:IntKind.i64.wrap (n-k-1)=n-k-1:=w64 (by omega) (by omega)
  refine⟨⟨stepM x (bp (x.count∈q)),k+1,by rw [wz];omega,by omega,rfl,F6 h3 (by omega) _,by omega,by omega,?_⟩,by rw [wz];omega⟩
  rw [<-h6,show(n- (k:Int)).toNat=(n- ((k+1:Nat):Int)).toNat+1 by omega]
  conv=>rhs;unfold kQ
  rw [if_pos (by omega)]
 ·rw [<-h6]
  by_cases c:(k:Int)<n
  ·rw [show(n- (k:Int)).toNat=(n- ((k+1:Nat):Int)).toNat+1 by omega]
   unfold kQ
   rw [if_neg (λz=>by rw [decide_eq_true (show 0<n- (k:Int) by omega),decide_eq_true z.1,decide_eq_true z.2]at g;cases g)]
  ·rw [show(n- (k:Int)).toNat=0 by omega];rfl
end Go.TX.F
namespace Go.TX.F
open Go Go.AE Go.TX
theorem aat {i:Ins} (h:bF i):iF (jF i)=i:=by
 unfold jF
 rw [bE h,if_pos rfl]
 obtain⟨⟨o0,o1⟩,⟨d0,d1⟩,⟨a0,a1⟩,k0,h⟩:=h
 have k1:i.k<=255:=by omega
 obtain⟨op,d,a,k⟩:=i
 unfold iF FZ
 dsimp only at*
 congr 1<;>omega
theorem ahg {m:aA} (w:¬(m.waits=true/\m.bJ=true)):smp m false=m:=by
 unfold smp
 rw [Bool.or_false,if_neg w]
theorem acO {m:aA} {i:Ins} (hi:bF i) (w:¬(m.waits=true/\m.bJ=true)) (p0:0<=m.pc) (p:m.pc<64) (hm:((m.mem).getD (m.pc).toNat default)=jF i):stepM m false=exec m i:=by
 rw [ug,ahg w,if_neg (by omega),hm,aat hi,bE hi,if_neg (by decide)]
theorem anb {q:List Int} {m:aA} (hq:m.count∉q) (g0:m.halt=0) (g1:m.count<1000000) {i:Ins} (hi:bF i) (w:¬(m.waits=true/\m.bJ=true)) (p0:0<=m.pc) (p:m.pc<64) (hm:((m.mem).getD (m.pc).toNat default)=jF i) (k:Nat):kQ q (k+1) m=kQ q k (exec m i):=by
 conv=>lhs;unfold kQ
 rw [if_pos ⟨g0,g1⟩,dw hq,acO hi w p0 p hm]
theorem aau {m:aA} {i:Ins} (h:i.op≠0):(eff m i).waits=m.waits/\(eff m i).bJ=m.bJ:=by
 unfold eff
 repeat' split
 all_goals first | exact⟨rfl,rfl⟩ | (exfalso;omega)
theorem acP {m:aA} {i:Ins} {j:Int} (j0:0<=j) (h0:i.op≠0) (h:i.op=10->adr m i≠j):(((eff m i).mem).getD (j).toNat default)=((m.mem).getD (j).toNat default):=by
 by_cases e:i.op=10
 ·rw [ag2 e]
  have a0:0<=adr m i:=by unfold adr;omega
  have:=h e
  dsimp only
  simp only [List.getD,List.getElem?_set_ne (show(adr m i).toNat≠j.toNat by omega)]
 ·unfold eff
  repeat' split
  all_goals first | rfl | (exfalso;omega)
theorem aav {s:aA} {i:Ins} (h:Mid i) {u v:Int} (v0:0<=v) (v1:v<64) (hr:¬((i.op=9\/i.op=10)/\64<=adr s i)):exec (upd s u v) i=upd (eff s i) (u+1) (v+1):=by
 have a:adr (upd s u v) i=adr s i:=rfl
 obtain⟨_,h0,h1⟩:=h
 unfold exec
 rw [a,if_neg hr,Tw,nxp ⟨λq=>absurd q h0,h1⟩]
 show({upd (eff s i) u v with pc:=(v+1)%65536,count:=u+1}:aA)=_
 rw [show(v+1)%65536=v+1 by omega]
theorem Ol {s:aA} {i:Ins} {u v:Int} (hr:(i.op=9\/i.op=10)/\64<=adr s i):exec (upd s u v) i={upd s u v with halt:=3}:=by
 have a:adr (upd s u v) i=adr s i:=rfl
 unfold exec;rw [a,if_pos hr]
theorem TF (q:List Int) (pc len:Int) (p0:0<=pc) (p1:pc+len<=64):∀(r:List Ins) (n:Int) (s:aA),(∀i∈r,Mid i)->(∀c:Int,s.count+n<=c->c<s.count+len->c∉q)->s.pc=pc->s.halt=0->¬(s.waits=true/\s.bJ=true)->0<=n->n+r.length<len->s.count+len<=1000000->
  (∀t:Nat,t<r.length->((s.mem).getD (pc+n+t).toNat default)=jF (r.getD t default))->
  ((xr pc len n s r).2=true->(s.count+n<=(xr pc len n s r).1.count/\(xr pc len n s r).1.count<=s.count+n+r.length)/\∃k:Nat,1<=k/\(k:Int)=(xr pc len n s r).1.count- (s.count+n)+(if(xr pc len n s r).1.halt=3 then 1 else 0)/\kQ q k (upd s (s.count+n) (pc+n))=(xr pc len n s r).1)/\
  ((xr pc len n s r).2=false->(¬((xr pc len n s r).1.waits=true/\(xr pc len n s r).1.bJ=true))/\(∀j:Int,pc+n+r.length<=j->j<pc+len->(((xr pc len n s r).1.mem).getD (j).toNat default)=((s.mem).getD (j).toNat default))/\∀k:Nat,kQ q (r.length+k) (upd s (s.count+n) (pc+n))=kQ q k (upd (xr pc len n s r).1 (s.count+(n+r.length)) (pc+(n+r.length))))
 | [],n,s,_,_,_,_,hw,_,_,_,_=>by
  refine⟨λh=>(by cases h),λ_=>⟨hw,λj _ _=>rfl,λk=> ?_⟩⟩
  show kQ q (0+k) _=kQ q k (upd s (s.count+(n+((0:Nat):Int))) (pc+(n+((0:Nat):Int))))
  rw [Nat.zero_add,show n+((0:Nat):Int)=n by omega]
 | i::r,n,s,hr,hq,hp,hh,hw,h0,hl,hc,hm=>by
  simp only [List.length_cons]at hl hm
  obtain⟨hi,i0,ij⟩:=hr i (List.mem_cons_self ..)
  have hmid:Mid i:=⟨hi,i0,ij⟩
  have m0:(((upd s (s.count+n) (pc+n)).mem).getD ((upd s (s.count+n) (pc+n)).pc).toNat default)=jF i:=by
   have:=hm 0 (by omega)
   rw [show pc+n+((0:Nat):Int)=pc+n by omega]at this
   exact this
  have R1:=λk=>anb (m:=upd s (s.count+n) (pc+n)) (hq (s.count+n) (Int.le_refl _) (by omega)) hh (show s.count+n<1000000 by omega) hi hw (show 0<=pc+n by omega) (show pc+n<64 by omega) m0 k
  rw [Tx]
  by_cases c1:(i.op=9\/i.op=10)/\64<=adr s i
  ·rw [if_pos c1]
   refine⟨λ_=>⟨⟨show s.count+n<=s.count+n by omega,show s.count+n<=_ by omega⟩,1,Nat.le_refl _,?_,?_⟩,λh=>by cases h⟩
   ·show(1:Int)=s.count+n- (s.count+n)+(if(3:Int)=3 then 1 else 0)
    rw [if_pos rfl];omega
   ·rw [R1 0,Ol c1]
    show({upd s (s.count+n) (pc+n)with halt:=3}:aA)=leave s n 3
    unfold leave;rw [hp]
  rw [if_neg c1]
  have E:=aav (s:=s) hmid (u:=s.count+n) (v:=pc+n) (by omega) (by omega) c1
  obtain⟨k1,k2,k3⟩:=F5 (m:=s) i0
  by_cases c2:i.op=10/\pc+n+1<=adr s i/\adr s i<=pc+len-1
  ·rw [if_pos c2]
   refine⟨λ_=>⟨⟨show _<=(eff s i).count+(n+1) by omega,show(eff s i).count+(n+1)<=_ by simp only [List.length_cons];omega⟩,1,Nat.le_refl _,?_,?_⟩,λh=>by cases h⟩
   ·show(1:Int)=(eff s i).count+(n+1)- (s.count+n)+(if s.halt=3 then 1 else 0)
    rw [k1,hh,if_neg (by decide)];omega
   ·rw [R1 0,E]
    show upd (eff s i) (s.count+n+1) (pc+n+1)=leave (eff s i) (n+1) s.halt
    unfold leave upd
    rw [k1,k2,hp,hh,<-k3.trans hh,show s.count+(n+1)=s.count+n+1 by omega,show pc+(n+1)=pc+n+1 by omega]
  rw [if_neg c2]
  have me:∀j:Int,pc+n+1<=j->j<pc+len->(((eff s i).mem).getD (j).toNat default)=((s.mem).getD (j).toNat default):=λj j1 j2=>acP (by omega) i0 λe q=>c2 ⟨e,by omega,by omega⟩
  obtain⟨I1,I2⟩:=TF q pc len p0 p1 r (n+1) (eff s i) (λj hj=>hr j (List.mem_cons_of_mem _ hj)) (λc c1 c2=>hq c (by omega) (by omega)) (by rw [k2,hp]) (by rw [k3,hh]) (by rw [(aau i0).1,(aau i0).2];exact hw) (by omega) (by omega) (by rw [k1];exact hc) (λt ht=>by
   rw [me _ (by omega) (by omega)]
   have:=hm (t+1) (by omega)
   rw [List.getD_cons_succ]at this
   rw [<-this];congr 2;omega)
  rw [k1,show s.count+(n+1)=s.count+n+1 by omega,show pc+(n+1)=pc+n+1 by omega]at I1
  refine⟨λh=> ?_,λh=> ?_⟩
  ·obtain⟨⟨b1,b2⟩,k,e0,e1,e2⟩:=I1 h
   exact⟨⟨by omega,by simp only [List.length_cons];omega⟩,k+1,by omega,by omega,by rw [R1 k,E,e2]⟩
  ·obtain⟨w,e1,e2⟩:=I2 h
   refine⟨w,λj j1 j2=>by rw [e1 j (by simp only [List.length_cons]at j1;omega) j2,me j (by simp only [List.length_cons]at j1;omega) j2],λk=> ?_⟩
   have:=e2 k
   rw [k1,show s.count+(n+1)=s.count+n+1 by omega,show pc+(n+1)=pc+n+1 by omega]at this
   rw [List.length_cons,show r.length+1+k=(r.length+k)+1 by omega,R1,E,this]
   congr 2<;>omega
end Go.TX.F
namespace Go.TX.F
open Go Go.AE Go.TX
theorem aqr {r s:List Ins} {t:Nat} (h:t<r.length):(r++s).getD t default=r.getD t default:=by
 rw [List.getD_eq_getElem?_getD,List.getElem?_append_left h,<-List.getD_eq_getElem?_getD]
theorem aqs {r:List Ins} {i:Ins}:(r++ [i]).getD r.length default=i:=by
 rw [List.getD_eq_getElem?_getD,List.getElem?_append_right (Nat.le_refl _),Nat.sub_self];rfl
theorem Vx {q:List Int} {pc:Int} {l:List Ins} {m:aA} (h:mP pc l) (hm:MOK m) (g0:m.halt=0) (g1:m.pc=pc) (w:¬(m.waits=true/\m.bJ=true)) (hq:∀c:Int,m.count<=c->c<m.count+l.length->c∉q) (g2:m.count<=1000000-l.length) (mem:∀t:Nat,t<l.length->((m.mem).getD (pc+t).toNat default)=jF (l.getD t default)):
  (dX (lower pc l) m).2=true/\(0<=(dX (lower pc l) m).1.count/\(dX (lower pc l) m).1.count<=1000000)/\∃k:Nat,1<=k/\(k:Int)=(dX (lower pc l) m).1.count-m.count+(if(dX (lower pc l) m).1.halt=3 then 1 else 0)/\k<=l.length/\kQ q k m=(dX (lower pc l) m).1:=by
 obtain⟨r,i,rfl,hr,hi,h0⟩:=Ik h
 have ln:=h.ln
 have pp:=h.pc
 have ct:=hm.ct
 simp only [List.length_append,List.length_cons,List.length_nil]at ln pp mem hq g2 ⊢
 have mi:((m.mem).getD (pc+r.length).toNat default)=jF i:=by
  have:=mem r.length (by omega)
  rwa [aqs]at this
 obtain⟨S1,S2⟩:=TF q pc (r.length+1) (by omega) (by omega) r 0 m hr (λc c1 c2=>hq c (by omega) (by omega)) g1 g0 w (by omega) (by omega) (by omega) (λt ht=>by
  have:=mem t (by omega)
  rw [aqr ht]at this
  rw [<-this,Int.add_zero])
 have em:upd m (m.count+0) (pc+0)=m:=by rw [Int.add_zero,Int.add_zero,<-g1]
 rw [em]at S1 S2
 rw [acH h hr hi h0 hm g0 g1 (by omega)]
 by_cases c:(xr pc (r.length+1) 0 m r).2=true
 ·rw [if_pos c]
  obtain⟨⟨b1,b2⟩,k,e0,e1,e2⟩:=S1 c
  exact⟨rfl,⟨by dsimp only;omega,by dsimp only;omega⟩,k,e0,by dsimp only;rw [e1,Int.add_zero],by split at e1<;>omega,e2⟩
 have c':(xr pc (r.length+1) 0 m r).2=false:=by simpa using c
 rw [if_neg c]
 obtain⟨w',e1,e2⟩:=S2 c'
 obtain⟨k1,k2,k3,k4⟩:=Tz (pc:=pc) (len:=r.length+1) r 0 m (λj hj=>⟨(hr j hj).1,(hr j hj).2.1⟩) hm c'
 have ei:=(e1 (pc+r.length) (by omega) (by omega)).trans mi
 have er:=e2 1
 generalize (xr pc (r.length+1) 0 m r).1=T at w' e1 e2 k1 k2 k3 k4 ei er
 rw [show m.count+(0+(r.length:Int))=m.count+r.length by omega,show pc+(0+(r.length:Int))=pc+r.length by omega]at er
 have R1:=anb (m:=upd T (m.count+r.length) (pc+r.length)) (hq (m.count+r.length) (by omega) (by omega)) (show T.halt=0 by rw [k3,g0]) (show m.count+r.length<1000000 by omega) hi w' (show 0<=pc+(r.length:Int) by omega) (show pc+(r.length:Int)<64 by omega) ei 0
 rw [R1]at er
 obtain⟨q1,q2,q3⟩:=F5 (m:=T) h0
 rw [agY]
 by_cases c1:(i.op=9\/i.op=10)/\64<=adr T i
 ·rw [if_pos c1,if_pos rfl]
  refine⟨rfl,⟨show 0<=T.count+_ by omega,show T.count+_<=_ by omega⟩,r.length+1,by omega,?_,by omega,?_⟩
  ·show((r.length+1:Nat):Int)=T.count+r.length-m.count+(if(3:Int)=3 then 1 else 0)
   rw [if_pos rfl];omega
  ·rw [er,Ol c1]
   show({upd T (m.count+r.length) (pc+r.length)with halt:=3}:aA)=leave T r.length 3
   unfold leave;rw [k1,k2,g1]
 rw [if_neg c1,if_neg (show¬(i.op=10/\pc+(r.length:Int)+1<=adr T i/\adr T i<=pc+((r.length:Int)+1)-1) by omega),if_neg (show¬((eff T i,false):aA×Bool).2=true by intro h;cases h)]
 have hx:((eff T i).halt=3)=False:=by rw [q3,k3,g0];exact eq_false (by decide)
 refine⟨rfl,⟨show 0<=(eff T i).count+_ by omega,show(eff T i).count+_<=_ by omega⟩,r.length+1,by omega,?_,by omega,?_⟩
 ·show((r.length+1:Nat):Int)=(eff T i).count+(r.length+1)-m.count+(if(eff T i).halt=3 then 1 else 0)
  rw [if_neg (by rw [hx];exact id)];omega
 ·rw [er]
  have a:adr (upd T (m.count+r.length) (pc+r.length)) i=adr T i:=rfl
  unfold exec
  rw [a,if_neg c1,Tw]
  show({eff T i with pc:=nxt (upd T (m.count+r.length) (pc+r.length)) i,count:=m.count+r.length+1}:aA)={eff T i with count:=(eff T i).count+(r.length+1),pc:=epc pc (r.length+1) T i}
  have en:nxt (upd T (m.count+r.length) (pc+r.length)) i=epc pc (r.length+1) T i:=by
   unfold nxt epc
   rw [if_neg (λq=>h0 q.1)]
   show(if(i.op=11\/i.op=12)/\AX (i.op-10) ((T.regs).getD (i.d).toNat default) ((T.regs).getD (i.a).toNat default)=true then i.k else if i.op=13 then((T.regs).getD (i.a).toNat default)else(pc+r.length+1)%65536)=_
   rw [show(pc+(r.length:Int)+1)%65536=pc+(r.length+1) by omega]
   by_cases o:i.op=11\/i.op=12
   ·rw [if_pos o]
    by_cases o2:AX (i.op-10) ((T.regs).getD (i.d).toNat default) ((T.regs).getD (i.a).toNat default)=true
    ·rw [if_pos ⟨o,o2⟩,if_pos o2]
    ·rw [if_neg (λq=>o2 q.2),if_neg o2,if_neg (by omega)]
   ·rw [if_neg (λq=>o q.1),if_neg o]
  rw [en,q1,k1,show m.count+(r.length:Int)+1=m.count+(r.length+1) by omega]
noncomputable def alike (b:Blk) (m:aA):Bool:=(dX b m).2&&bp ((dX b m).1=jU [] ((dX b m).1.count-m.count+if(dX b m).1.halt=3 then 1 else 0) m)
theorem ane {p1 f1 p3 f3} (U1:aqi p1 f1) {p2:aA×List Int×Int×Unit->Bool} {f2:aA×List Int×Int×Unit->Int×Int×Bool×Bool×Int×Int×List Int×List Int×List Int×List Int×Unit} (hp2:∀m q n,MSh m->q.length<1000000000->m.outs.length<800000000->p2 (m,q,n,())=true) (hf2:∀m q n,MSh m->q.length<1000000000->m.outs.length<800000000->f2 (m,q,n,())=m10 (jU q n m)) (U3:aqj p3 f3) (b:Blk) (m:aA) (hb:b.ops.length<1000000000) (hs:MSh m) (ho:m.outs.length<800000000) (hc:0<=m.count/\m.count<=1000000) (hx:0<=(dX b m).1.count/\(dX b m).1.count<=1000000):Zm (std 0).al p1 f1 p2 f2 p3 f3 (b,m,()) (λy=>y=(alike b m,())):=by
 have mK:∀M:aA,Co.mk .aB (M.regs,M.pc,M.mem,M.save,M.bJ,M.waits,M.halt,M.ins,M.outs,M.count,())=M:=λ_=>rfl
 have P1:=U1.hp b m hb hs (by omega)
 have H1:=U1.hf b m hb hs (by omega)
 unfold alike
 generalize hX:dX b m=X at H1 hx
 obtain⟨M,ok⟩:=X
 dsimp only at hx ⊢
 have P2:=λn=>hp2 m [] n hs (by decide) ho
 have H2:=λn=>hf2 m [] n hs (by decide) ho
 dsimp only [Zm,Tup.q,Tup.o,Tup.e1,Tup.e2,Tup.e4]
 simp (disch:=omega) only [RR,MRB,P1,H1,P2,H2,mK]
 cases ok with
 | false=>simp
 | true=>
  have sM:=aal hX hs (by omega)
  have P3:=λy=>U3.hp M y sM
  have H3:=λy=>U3.hf M y sM
  simp only [P3,H3,Bool.true_and]
  by_cases c:M.halt=3
  ·simp [c]
  ·simp [c]
end Go.TX.F
namespace Go.TX.F
open Go Go.AE Go.TX
theorem Vy {pc:Int} {l:List Ins} {m:aA} (h:mP pc l) (hm:MOK m) (g0:m.halt=0) (g1:m.pc=pc) (w:m.waits=false) (g2:m.count<=999992) (mem:∀t:Nat,t<l.length->((m.mem).getD (pc+t).toNat default)=jF (l.getD t default)):
  alike (lower pc l) m=true/\(0<=(dX (lower pc l) m).1.count/\(dX (lower pc l) m).1.count<=1000000):=by
 have ln:=h.ln
 obtain⟨a1,a2,k,k1,k2,k3,k4⟩:=Vx (q:=[]) h hm g0 g1 (λq=>by rw [w]at q;exact absurd q.1 (by decide)) (λ_ _ _ q=>by cases q) (by omega) mem
 refine⟨?_,a2⟩
 unfold alike
 have e:jU [] ((dX (lower pc l) m).1.count-m.count+if(dX (lower pc l) m).1.halt=3 then 1 else 0) m=(dX (lower pc l) m).1:=by
  rw [<-k2];unfold jU;rw [bE ⟨hm,by omega⟩,if_pos rfl,show((k:Int)).toNat=k from rfl,k4]
 rw [e,a1,bE rfl];rfl
set_option maxHeartbeats 1000000 in
theorem anf {p1 f1 p2 f2 p3 f3 p4 f4 p6 f6 p7 f7 p8 f8 p9 f9 p10 f10 p11 f11 p12 f12} (U1:aqh p1 f1) (U2:amA p2 f2) (U3:amU p3 f3) (U4:Y59 p4 f4) {p5:Blk×aA×Unit->Bool} {f5:Blk×aA×Unit->Bool×Unit} (hp5:∀b m,b.ops.length<1000000000->MSh m->m.outs.length<800000000->(0<=m.count/\m.count<=1000000)->(0<=(dX b m).1.count/\(dX b m).1.count<=1000000)->p5 (b,m,())=true) (hf5:∀b m,b.ops.length<1000000000->MSh m->m.outs.length<800000000->(0<=m.count/\m.count<=1000000)->(0<=(dX b m).1.count/\(dX b m).1.count<=1000000)->f5 (b,m,())=(alike b m,())) (U6:Y92 p6 f6) (U7:Y47 p7 f7) (U8:am4 p8 f8) (U9:am3 p9 f9) (U10:aqk p10 f10) (U11:aql p11 f11) (U12:aag p12 f12) (c d:List Int) (hc:By c) (hd:By d):Zn (std 0).al p1 f1 p2 f2 p3 f3 p4 f4 p5 f5 p6 f6 p7 f7 p8 f8 p9 f9 p10 f10 p11 f11 p12 f12 (c,d,()) (λy=>y=(true,())):=by
 obtain⟨hp1,hf1⟩:=U1
 obtain⟨hp2,hf2⟩:=U2
 obtain⟨hp3,hf3⟩:=U3
 obtain⟨hp4,hf4⟩:=U4
 obtain⟨hp6,hf6⟩:=U6
 obtain⟨hp7,hf7⟩:=U7
 obtain⟨hp8,hf8⟩:=U8
 obtain⟨hp9,hf9⟩:=U9
 obtain⟨aqt,aqu⟩:=U10
 obtain⟨aqv,aqw⟩:=U11
 obtain⟨aqx,aqy⟩:=U12
 have mE:∀c:Blk,Co.mk .blk (c.pc,c.len,c.ops,c.fin,c.x,c.y,c.k,())=c:=λ_=>rfl
 have mK:∀(a1:List Int) (a2:Int) (a3:List Int) (a4:Int) (a5 a6:Bool) (a7:Int) (a8 a9:List Int) (a10:Int),Co.mk .aB (a1,a2,a3,a4,a5,a6,a7,a8,a9,a10,())=⟨a1,a2,a3,a4,a5,a6,a7,a8,a9,a10⟩:=λ_ _ _ _ _ _ _ _ _ _=>rfl
 dsimp only [Zn,Tup.q,Tup.o,Tup.e1,RH,UY]at*
 simp (disch:=omega) only [RR]
 intro hh
 have hl:¬1048576< (c.length:Int):=λg=>by simp [g]at hh
 have hm:¬1048576< (d.length:Int):=λg=>by simp [g]at hh
 have D1:=aqu c hc (by omega)
 have P1:=aqt c hc (by omega)
 obtain⟨D2,D3⟩:=aqw d hd (by omega)
 have P2:=aqv d hd (by omega)
 generalize f10 (c,())=y1 at D1 ⊢
 generalize f11 (d,())=y3 at D2 D3 ⊢
 obtain⟨pc,l,⟨⟩⟩:=y1
 obtain⟨blk,pc0,mem,save,lt,wt,ha,ins,ct,regs,outs,⟨⟩⟩:=y3
 dsimp only [mD]at D1 D2 D3
 have E1:(l.length:Int)<1000:=by omega
 have P12:=aqx ⟨regs,pc0,mem,save,lt,wt,ha,ins,outs,ct⟩ D2
 have H12:=aqy ⟨regs,pc0,mem,save,lt,wt,ha,ins,outs,ct⟩ D2
 have lb:=Oj pc l
 have lx:(lower pc l).ops.length<1000000000:=by omega
 simp (disch:=omega) only [RR,decide_true,decide_false,Bool.true_or,Bool.or_true,Bool.false_or,Bool.or_false,hl,hm,P1,P2,mK,P12,H12,hp7,hf7,hp1 pc l (by omega),hf1 pc l (by omega),hp8 pc l E1,hf8 pc l E1,mE,hp6 _ _ lx,hf6 _ _ lx,hp2 pc l (by omega),hf2 pc l (by omega),hp9 pc l E1,hf9 pc l E1,hp4 _ lx,hf4 _ lx,hp3 l (by omega),hf3 l (by omega),bE rfl]
 have bT:bp True=true:=bE trivial
 have fT:((true,())=(true,()))=True:=eq_true rfl
 by_cases ok:mP pc l
 ·obtain⟨L1,L2⟩:=agZ ok
  have ln:=ok.ln
  have pp:=ok.pc
  simp only [bT,bE ok,bE (qD ok),L1,L2,beq_self_eq_true,Bool.true_eq_false,not_true_eq_false,or_self,false_implies,true_and,and_true,true_implies,forall_const]
  rintro⟨g1,g2⟩
  have mok:=cO.1 g1
  have m64:=mok.m64
  have ctb:=mok.ct
  dsimp only at m64 ctb
  refine⟨by rw [m64];decide,?_⟩
  refine aG (λy=>∃(k:Nat) (M:List Int),k<=l.length/\M.length=64/\Wos M/\(∀t:Nat,t<k->((M).getD (pc+t).toNat default)=jF (l.getD t default))/\y=(pc,(k:Int),(lower pc l).pc,(lower pc l).len,(lower pc l).fin,(lower pc l).x,(lower pc l).y,(lower pc l).k,pc0,save,lt,wt,ha,ins,ct,l.map jF,(lower pc l).ops,regs,M,outs,())) (λy=>(l.length-y.2.1).toNat) ⟨0,mem,by omega,m64,mok.mw,λt ht=>absurd ht (by omega),by simp only [L1,L2];rfl⟩ ?_
  rintro y ⟨k,M,k1,M1,M2,M3,rfl⟩
  dsimp only
  have lw:(l.map jF).length=l.length:=List.length_map ..
  by_cases kk:(k:Int)<l.length
  ·have pw:IntKind.i64.wrap (pc+k)=pc+k:=w64 (by omega) (by omega)
   have ew:((l.map jF).getD ((k:Int)).toNat default)=jF (l.getD k default):=by
    rw [List.getD_eq_getElem?_getD,List.getElem?_map,List.getD_eq_getElem?_getD,show(k:Int).toNat=k from rfl,List.getElem?_eq_getElem (by omega)];rfl
   simp (disch:=omega) only [RR,lw,kk,pw,M1,ew]
   refine⟨by omega,by omega,by omega,by omega,by omega,by omega,⟨k+1,_,by omega,by rw [List.length_set];exact M1,M2.set (vK _) _,λt ht=> ?_,rfl⟩,by omega⟩
   by_cases e:t=k
   ·subst e
    rw [getD_lt (by rw [List.length_set];omega),List.getElem_set_self]
   ·rw [<-M3 t (by omega)]
    simp only [List.getD,List.getElem?_set_ne (show(pc+(k:Int)).toNat≠(pc+(t:Int)).toNat by omega)]
  ·have mo':MOK ⟨regs,pc,M,save,lt,false,0,ins,outs,ct⟩:=⟨mok.r4,mok.rw,M1,M2,⟨show 0<=pc by omega,show pc<=65535 by omega⟩,mok.sv,mok.iw,mok.ow,⟨show(0:Int)<=0 by decide,show(0:Int)<=4 by decide⟩,mok.ct⟩
   obtain⟨A1,A2⟩:=Vy (m:=⟨regs,pc,M,save,lt,false,0,ins,outs,ct⟩) ok mo' rfl rfl rfl (by show ct<=999992;omega) (λt ht=>M3 t (by omega))
   have ms:MSh ⟨regs,pc,M,save,lt,false,0,ins,outs,ct⟩:=by
    obtain⟨d1,d2,d3,d4⟩:=D2
    exact⟨d1,by show M.length<_;omega,d3,d4⟩
   have P5:=hp5 (lower pc l) ⟨regs,pc,M,save,lt,false,0,ins,outs,ct⟩ lx ms D3 ctb A2
   have H5:=hf5 (lower pc l) ⟨regs,pc,M,save,lt,false,0,ins,outs,ct⟩ lx ms D3 ctb A2
   simp (disch:=omega) only [RR,lw,kk,mK,mE,P5,H5,A1]
 ·have e:lower pc l=NU:=by unfold lower;rw [dw ok,if_neg (by decide)]
  simp only [bT,dw ok,e,beq_self_eq_true,Bool.true_eq_false,not_true_eq_false,or_self,false_implies,true_and,and_true,true_implies,Bool.false_eq_true,forall_const]
  rfl
end Go.TX.F
namespace Go.TX
open Go Go.AE
theorem enters_of {P:Program} {f:FuncId} {fn:Func} {c:Code} (hf:P.funcs[f]? =some fn) (hname:(fn.name== "runtime.NumGoroutine")=false) (hb:fn.body=some c):Enters P f:=by
 intro args w
 have h1:fn.name≠ "runtime.NumGoroutine" :=by simpa using hname
 simp [callFunc,hf,h1,hb,mark]
def TG (P:Program):Nat->List Field->Bool
 | _,[]=>true
 | k,f::fs=> !(f.name== "_")&&f.offset==k&& (match P.underlying f.type with | some (.int _)=>true | _=>false)&&TG P (k+1) fs
theorem TH {P:Program} (w:World) (d:Nat) (xs ys:List Int) (hl:xs.length=ys.length):∀(fs:List Field) (k:Nat),TG P k fs=true->k+fs.length=xs.length->
  (Op.eqFields (d+1) (xs.map (Value.int .i64)).toArray (ys.map (Value.int .i64)).toArray fs).run P w= .ok (xs.drop k==ys.drop k) w
 | [],k,_,h2=>by
  rw [List.drop_eq_nil_of_le (show xs.length<=k by simp only [List.length_nil]at h2;omega),List.drop_eq_nil_of_le (show ys.length<=k by simp only [List.length_nil]at h2;omega)]
  simp [Op.eqFields]
 | f::fs,k,h1,h2=>by
  simp only [List.length_cons]at h2
  simp only [TG,Bool.and_eq_true,Bool.not_eq_true',beq_eq_false_iff_ne,beq_iff_eq]at h1
  obtain⟨⟨⟨n1,n2⟩,n3⟩,n4⟩:=h1
  have hk:k<xs.length:=by omega
  have hk':k<ys.length:=by omega
  obtain⟨kd,hu⟩:∃kd,P.underlying f.type=some (.int kd):=by
   cases hu:P.underlying f.type with
   | none=>rw [hu]at n3;cases n3
   | some z=>cases z<;>(first | exact⟨_,rfl⟩ | (rw [hu]at n3;cases n3))
  have pk:P.plainKey f.type=true:=by unfold Program.plainKey;rw [hu]
  have p1:=run_part_plain w pk (xs:=(xs.map (Value.int .i64)).toArray) (off:=f.offset) (v:= .int .i64 xs[k]) (by rw [n2];simp [hk])
  have p2:=run_part_plain w pk (xs:=(ys.map (Value.int .i64)).toArray) (off:=f.offset) (v:= .int .i64 ys[k]) (by rw [n2];simp [hk'])
  have ih:=TH w d xs ys hl fs (k+1) n4 (by omega)
  simp only [Op.eqFields,if_pos n1,Sem.run_bind,p1,p2,Result.andThen_ok,run_equalIn_int w d f.type .i64 kd _ _ hu]
  have e:(xs.drop k==ys.drop k)=((xs[k]==ys[k])&& (xs.drop (k+1)==ys.drop (k+1))):=by rw [List.drop_eq_getElem_cons hk,List.drop_eq_getElem_cons hk'];rfl
  rw [e]
  by_cases c:(xs[k]==ys[k])=true
  ·rw [c]
   simp only [Bool.not_true,Bool.false_eq_true,if_false,ih,Bool.true_and]
  ·have c2:(xs[k]==ys[k])=false:=by simpa using c
   rw [c2]
   simp only [Bool.not_false,if_true,Sem.run_pure,Bool.false_and]
theorem ahh {P:Program} {t:TypeId} {n:Nat} (hu:P.underlying t=some (.struct (P.fieldsOf t))) (hs:P.stoodInHeld t=false) (hg:P.eqGuardType P.depth t=false) (hf:TG P 0 (P.fieldsOf t).toList=true) (hn:(P.fieldsOf t).size=n) (xs ys:List Int) (hx:xs.length=n) (hy:ys.length=n) (w:World):
  (Op.equal t (.agg (xs.map (Value.int .i64)).toArray) (.agg (ys.map (Value.int .i64)).toArray)).run P w= .ok (xs==ys) w/\
  (eqGuard .eql t (.tmp 0) (.tmp 0) (.agg (xs.map (Value.int .i64)).toArray) (.agg (ys.map (Value.int .i64)).toArray)).run P w= .ok () w:=by
 refine⟨?_,run_eqGuard_agg w _ _ _ _ _ _ hg⟩
 show(Op.equalIn (9999+1) t _ _).run P w=_
 rw [run_equalIn_struct w 9999 t _ _ hu hs,TH w 9998 xs ys (by omega) _ 0 hf (by rw [Array.length_toList];omega)]
 rfl
abbrev aqz:Sig:={args:=[.c (.rows true .u8),.c (.rows true .u8)],objs:=[],res:=[.c .bool],dF:=[]}
def entry (W:World):Ctx:={K:=λ_ b=>b<W.heap.size,μ:=λ_=>none,n:=0}
theorem QY (W:World):bG (entry W) W []:=
 ⟨λl o h=>(by cases h),λl o l' o' b h=>(by cases h),λf b ⟨l,o,h,_⟩=>(by cases h),λf b h=>h,λb h=>h⟩
theorem Om {W W':World} {c':Ctx} {h':Heap} (g:Grow (entry W) W [] c' W' h'):RowKit.Below W.heap.size W W':=
 ⟨g.os,g.tape,g.output,g.size,λk hk=>g.kept k hk λ⟨l,o,h,_⟩=>by cases h⟩
theorem acQ {c:Ctx} {w:World} {v:Value} {r:PV} {N:NM} {b:Bool} (h1:bD c w v r) (h2:PVR N r (.c (.d true (.bool b)))):v= .bool b:=by
 cases h2 with
 | one h=>
  cases h with
  | c h=>
   cases h with
   | d h3 _=>
    subst h3
    cases h1 with
    | c _ _ h4=>cases h4 with
     | d _ _ _ h5=>cases h5;rfl
  | agg h=>cases h
theorem aqA {E:Tab} {f:FuncId} {c:Ct aC aqz} (hc:iL E f (gY c)) {xs ys:List Int} {W:World} {v u:Value} (hv:bX (λb=>b<W.heap.size) W v (.rows 1 (aI .u8 xs))) (hu:bX (λb=>b<W.heap.size) W u (.rows 1 (aI .u8 ys)))
  (hg:nU E (entry W) W) (hp:c.pre (xs,ys,())=true):Go.Calls E.P f #[v,u] W λe W'=>e= .returned (.bool (c.fn (xs,ys,())).1)/\RowKit.Below W.heap.size W W':=by
 refine(hc.calls [.c (.d true (.rows 1 (aI .u8 xs))),.c (.d true (.rows 1 (aI .u8 ys)))] [] 0 (λr _ _=>PVR (nmh []) r (.c (.d true (.bool (c.fn (xs,ys,())).1)))) ?_ (entry W) W [v,u] rfl
  (.cons (.c _ _ (.d true _ _ hv)) (.cons (.c _ _ (.d true _ _ hu)) .nil)) (QY W) hg).mono ?_
 ·refine⟨0,[.c (.d true (.rows .u8 xs)),.c (.d true (.rows .u8 ys))],[],.cons (.one (.c (.d rfl λ_=> .inl rfl))) (.cons (.one (.c (.d rfl λ_=> .inl rfl))) .nil),⟨λl o h=>(by cases h),λ_ _=>rfl⟩,rfl,_,rfl,?_,_,_,rfl,?_⟩
  ·intro b hb
   rcases List.mem_append.1 hb with h | h
   ·cases h
   ·rw [List.mem_singleton]at h;rw [h];exact hp
  ·intro r _ _ h _ _ _;exact h
 ·rintro e W' he
  cases e with
  | returned u=>
   obtain⟨c',r,h',j,g,_,_,h1,h2⟩:=he
   exact⟨by rw [acQ h1 h2],Om g⟩
  | outgrown=>exact he.elim
  | panicked _=>exact he.elim
open Go.RowKit Go.ChangeShapes Go.WideShapes Go.ChangeAt in
theorem Oo {H:Type} {enc:TypeId×Value->H} {P:Program} {t e:TypeId} (ht:P.underlying t=some (.slice e)) (he:P.underlying e=some (.int .u8)) (hc:P.cellsOf e=1) {W:World} {base:Nat} {v:Value} {d:DataW H} {p:List MemPlace}
  (hval:Value.okWide P W .any base t v) (h:DataW.Trod enc P W 0 (λ_=>true) true t v d p) (hlt:∀x∈p,x.block<W.heap.size):
  ∃xs:List Int,bX (λb=>b<W.heap.size) W v (.rows 1 (aI .u8 xs))/\∀z∈xs,0<=z/\z<=255:=by
 obtain⟨a0,len,cap,rfl⟩:=okWide_slice ht hval
 obtain⟨fuel,hf⟩:=h
 rcases open_ints ht he hc hf with⟨hcs,hx⟩ | ⟨a,len',cap',zs,hcs,_,hl,hm,hz,hx,hcell,hwz⟩
 ·simp [Value.cells]at hcs
  obtain⟨rfl,rfl,rfl⟩:=hcs
  exact⟨[],.none _ _ _,λ_ h=>by cases h⟩
 ·simp [Value.cells]at hcs
  obtain⟨rfl,rfl,rfl⟩:=hcs
  simp only [Prod.mk.injEq]at hx
  obtain⟨rfl,rfl⟩:=hx
  simp only [if_true]at hz
  have rng:∀z∈zs,0<=z/\z<=255:=λz hz=>by
   obtain⟨i,hi,rfl⟩:=List.getElem_of_mem hz
   have:=range_u8 hwz i
   rwa [List.getElem?_eq_getElem hi]at this
  refine⟨zs.take len,?_,λz h=>rng z (List.mem_of_mem_take h)⟩
  by_cases h0:len=0
  ·subst h0;exact .none _ _ _
  ·obtain⟨b,off,spot⟩:=a
   have hspot:spot=none:=by simpa [Addr.add]using World.cell?_spot (hcell 0 (by omega))
   subst hspot
   have hbW:b<W.heap.size:=hlt (.cell b off) (MemPlace.mem_row.2 ⟨0,by omega,by simp⟩)
   have hlen:(aI .u8 (zs.take len)).length=len:=by simp only [aI,List.length_map,List.length_take];omega
   have hget:∀i,i<len->(aI .u8 (zs.take len)).getD i []=[.int .u8 (zs.getD i 0)]:=λi hi=>by
    simp only [aI,List.getD,List.getElem?_map,List.getElem?_take_of_lt hi,List.getElem?_eq_getElem (show i<zs.length by omega)]
    rfl
   refine .rows b off cap 1 len _ (λi j=> .int .u8 (zs.getD i 0)) hbW hlen.symm hl (λi j hi hj=> ?_) (λi hi=> ?_) (λi j hi hj=> ?_)
   ·rw [hlen]at hi
    have:=hcell i (by omega)
    rw [add_plain]at this
    rw [show off+i*1+j=off+i by omega]
    exact this
   ·rw [hlen]at hi;rw [hget i hi];rfl
   ·rw [hlen]at hi
    have hj0:j=0:=by omega
    subst hj0
    unfold gd;rw [hget i hi];exact .int _ _
end Go.TX
namespace Go.TX
open Go Go.AE Go.ChangeShapes Go.WideShapes Go.ChangeAt
theorem TI {w:World} {a:Addr} {v:Value} (h:w.cell? a=some v):a.block<w.heap.size:=by
 unfold World.cell? at h
 cases hb:w.heap[a.block]? with
 | none=>rw [hb]at h;simp at h
 | some o=>exact(Array.getElem?_eq_some_iff.1 hb).1
section
variable {H:Type} {enc:TypeId×Value->H} {P:Program} {W:World} {sp:Nat->Bool} {hd:Bool}
def ang:DataW H->Bool
 | .lit (.bool b)=>b
 | _=>default
def iF:DataW H->Int
 | .lit (.int _ n)=>n
 | _=>default
def aaw:DataW H->ByteArray
 | .lit (.string b)=>⟨b.toArray⟩
 | _=>default
def ahi {α:Type} (f:DataW H->α):DataW H->List α
 | .slice l _=>l.map f
 | _=> []
def anh:DataW H->Form
 | .agg [a,b,n,s]=>⟨ang a,ang b,iF n,ahi aaw s⟩
 | _=>default
variable (enc P W sp hd) in
def ED (c:Co) (dec:DataW H->c.den) (t:TypeId):Prop:=∀fuel cs x,DataW.trod enc P W 0 sp hd fuel t cs=some x->F2 (bX (λb=>b<W.heap.size) W) cs (c.row (dec x.1))
theorem ani {α β:Type} {R:α->β->Prop} {l:List α} {m:List β} (h:F2 R l m) {j:Nat} (a:α) (b:β) (hj:j<m.length):R (l.getD j a) (m.getD j b):=by
 obtain⟨x,h1,h2⟩:=F2.get h (List.getElem?_eq_getElem hj)
 rw [List.getD_eq_getElem?_getD,h1,List.getD_eq_getElem?_getD,List.getElem?_eq_getElem hj];exact h2
theorem adS {c:Co} {dec:DataW H->c.den} {t e:TypeId} (ht:P.underlying t=some (.slice e)) (hc:P.cellsOf e=c.size) (hs:0<c.size) (hE:ED enc P W sp hd c dec e) {fuel:Nat} {cs:List Value} {x:DataW H×List MemPlace}
  (h:DataW.trod enc P W 0 sp hd fuel t cs=some x):∃v,cs=[v]/\bX (λb=>b<W.heap.size) W v (.rows c.size (aI c (ahi dec x.1))):=by
 rcases Deep.open_slice ht h with⟨rfl,rfl⟩ | ⟨a,len,cap,m,n,D,Pl,rfl,_,hl,hm,hmm,rfl,hx⟩
 ·exact⟨_,rfl,.none _ _ _⟩
 have lm:len<=m:=by rw [hmm];split<;>omega
 have each:∀i,i<len->∃q:List Value,W.cells? 0 (a.add (i*c.size)) c.size=some q/\F2 (bX (λb=>b<W.heap.size) W) q (c.row (dec (D i))):=λi hi=>by
  obtain⟨cs',h1,h2⟩:=hx i (by omega)
  exact⟨cs',by rw [<-hc];exact h1,hE n cs' _ h2⟩
 obtain⟨q,hq⟩:=Deep.choose_lt each
 refine⟨_,rfl,?_⟩
 by_cases h0:len=0
 ·subst h0;exact .none _ _ _
 obtain⟨b,off,spot⟩:=a
 have cell:∀i j,i<len->j<c.size->W.cell? (((⟨b,off,spot⟩:Addr).add (i*c.size)).add j)=(q i)[j]? :=λi j hi hj=>(World.cells?_some (hq i hi).1).2.2 j hj
 have ql:∀i,i<len->(q i).length=c.size:=λi hi=>(World.cells?_some (hq i hi).1).2.1
 have c0:=cell 0 0 (by omega) hs
 rw [List.getElem?_eq_getElem (by rw [ql 0 (by omega)];exact hs)]at c0
 have hspot:spot=none:=by simpa [Addr.add]using World.cell?_spot c0
 subst hspot
 have hbW:b<W.heap.size:=by have:=TI c0;simpa [Addr.add]using this
 have e0:ahi dec (.slice ((List.range len).map D) ((List.range (m-len)).map λj=>D (len+j)))=(List.range len).map λi=>dec (D i):=by show((List.range len).map D).map dec=_;rw [List.map_map];rfl
 dsimp only
 rw [e0]
 have len':(aI c ((List.range len).map λi=>dec (D i))).length=len:=by rw [aI,List.length_map,List.length_map,List.length_range]
 have hget:∀i,i<len->(aI c ((List.range len).map λi=>dec (D i))).getD i []=c.row (dec (D i)):=λi hi=>by
  rw [List.getD_eq_getElem?_getD,aI,List.map_map,List.getElem?_map,List.getElem?_range hi];rfl
 refine .rows b off cap c.size len _ (λi j=>(q i).getD j undef) hbW len'.symm hl (λi j hi hj=> ?_) (λi hi=> ?_) (λi j hi hj=> ?_)
 ·rw [len']at hi
  have:=cell i j hi hj
  rw [add_plain,add_plain]at this
  rw [this,List.getD_eq_getElem?_getD,List.getElem?_eq_getElem (by rw [ql i hi];exact hj)];rfl
 ·rw [len']at hi;rw [hget i hi];exact nA c _
 ·rw [len']at hi
  unfold gd;rw [hget i hi]
  exact ani (hq i hi).2 _ _ (by rw [nA];exact hj)
theorem ahj {t:TypeId} (ht:P.underlying t=some .string):ED enc P W sp hd .str aaw t:=by
 intro fuel cs x h
 obtain⟨s,rfl,rfl,_⟩:=DataW.trod_string ht h
 have e:aaw (.lit (.string s.data.toList):DataW H)=s:=by unfold aaw;simp
 dsimp only;rw [e]
 exact .cons (.str s) .nil
theorem acR {t tR tB tI tS:TypeId} {f0 f1 f2 f3:Field} (ht:P.underlying t=some (.struct #[f0,f1,f2,f3])) (hn:P.cellsOf t=4) (o:f0.offset=0/\f1.offset=1/\f2.offset=2/\f3.offset=3) (y:f0.type=tB/\f1.type=tB/\f2.type=tI/\f3.type=tR)
  (hB:P.underlying tB=some .bool) (hI:P.underlying tI=some (.int .i64)) (hR:P.underlying tR=some (.slice tS)) (hS:P.underlying tS=some .string) (k:P.cellsOf tB=1/\P.cellsOf tI=1/\P.cellsOf tR=1/\P.cellsOf tS=1):ED enc P W sp hd .form anh t:=by
 intro fuel cs x h
 obtain⟨xs,n,rfl,rfl,hl,hx,hf⟩:=DataW.trod_struct ht h
 rw [hn]at hl
 obtain⟨o0,o1,o2,o3⟩:=o
 obtain⟨y0,y1,y2,y3⟩:=y
 obtain⟨k0,k1,k2,k3⟩:=k
 match cs,hl with
 | [v0,v1,v2,v3],_=>
  match xs,hx with
  | [x0,x1,x2,x3],_=>
   have g0:=hf 0 f0 rfl
   have g1:=hf 1 f1 rfl
   have g2:=hf 2 f2 rfl
   have g3:=hf 3 f3 rfl
   rw [y0,o0,k0]at g0
   rw [y1,o1,k0]at g1
   rw [y2,o2,k1]at g2
   rw [y3,o3,k2]at g3
   obtain⟨b0,e0,rfl⟩:=DataW.trod_bool hB (show _=some x0 from g0)
   obtain⟨b1,e1,rfl⟩:=DataW.trod_bool hB (show _=some x1 from g1)
   obtain⟨n2,e2,rfl,_⟩:=DataW.trod_int hI (show _=some x2 from g2)
   obtain⟨v,e3,r⟩:=adS (c:= .str) (dec:=aaw) hR k3 (by decide) (ahj hS) (show _=some x3 from g3)
   cases e0;cases e1;cases e2;cases e3
   exact .cons (.bool _) (.cons (.bool _) (.cons (.int _ _) (.cons r .nil)))
end
end Go.TX
namespace Go.TX.Seat
open Go Go.AE Go.TX Go.TX.F Go.Proofs
set_option maxRecDepth 100000
theorem aqB:∀t n,E.ieq t=some n->∀(xs ys:List Int),xs.length=n->ys.length=n->∀w,
  (Op.equal t (.agg (xs.map (Value.int .i64)).toArray) (.agg (ys.map (Value.int .i64)).toArray)).run E.P w= .ok (xs==ys) w/\
  (eqGuard .eql t (.tmp 0) (.tmp 0) (.agg (xs.map (Value.int .i64)).toArray) (.agg (ys.map (Value.int .i64)).toArray)).run E.P w= .ok () w:=by
 intro t n h
 obtain⟨c,hc,rfl⟩:∃c,ieq t=some c/\c.size=n:=by
  have h':(ieq t).map (λc=>c.size)=some n:=h
  cases hi:ieq t with
  | none=>rw [hi]at h';cases h'
  | some c=>rw [hi]at h';cases h';exact⟨c,rfl,rfl⟩
 unfold ieq at hc
 split at hc
 all_goals first | (cases hc;exact ahh (by kernel_rfl) (by kernel_rfl) (by kernel_rfl) (by kernel_rfl) (by kernel_rfl)) | cases hc
theorem hE:aK E:=⟨apP,aqB⟩
theorem aqC:∀t c,X.ieq t=some c->(c= .ins/\E.ieq t=some 4)\/(c= .iop/\E.ieq t=some 5):=by
 intro t c h
 have h:ieq t=some c:=h
 have e:E.ieq t=(ieq t).map λc=>c.size:=rfl
 rw [e,h]
 unfold ieq at h
 split at h
 all_goals first | (cases h;first | exact Or.inl ⟨rfl,rfl⟩ | exact Or.inr ⟨rfl,rfl⟩) | cases h
theorem xok:XOK X E:=⟨rfl,λg c h=>(by
    first
    | (cases h;done)
    | (dsimp only [X] at h
       split at h
       · rename_i e;cases h;unfold E;dsimp only;rw [if_pos e];rfl
       · cases h)),aqC⟩
theorem hm:E.P.follows .mixedOrders=true:=by kernel_rfl
theorem hlN:∀p∈([]:List (FuncId×Sigma (Ct aC))),iL E p.1 (gY p.2.2):=λ_ h=>by cases h
theorem hlC {f:FuncId} {s:Sig} {c:Ct aC s} {l:List (FuncId×Sigma (Ct aC))} (h:iL E f (gY c)) (r:∀p∈l,iL E p.1 (gY p.2.2)):∀p∈(f,⟨s,c⟩)::l,iL E p.1 (gY p.2.2):=λp hp=>by
 rcases List.mem_cons.1 hp with rfl | hp
 ·exact h
 ·exact r p hp
abbrev _root_.Go.TX.Fn.c {E : Tab} {f : FuncId} {s : Sig} {F : fV s.inp -> (fV s.out -> Prop) -> Prop} {c : Ct aC s} (_ : Fn E f F c) : Ct aC s := c
theorem mk {lk:aL} {f:FuncId} {fn:Func} (hf:E.P.funcs[f]? =some fn) {l:List (FuncId×Sigma (Ct aC))} (hl:∀p∈l,iL E p.1 (gY p.2.2)) {ord:List (Nat×List dY)} {s:Sig} {an:Ann}
 {F:fV s.inp->(fV s.out->Prop)->Prop} (h:Ru X E (std 0) ord an s fn l F) (hb:fn.body.isSome=true:=by rfl) (hn:(fn.name== "runtime.NumGoroutine")=false:=by kernel_rfl):Fn E f F (cn F):=apy hE xok hm hf hb (λ_=>enters_of hf hn) hl h
end Go.TX.Seat
namespace Go.TX.F
open Go Go.AE Go.TX Go.TX.Seat Go.Proofs
set_option maxRecDepth 100000
def iB:=mk Tryz.func21 hlN (aj5 (std 0))
noncomputable def aN:=iB.c
def jH:=λn b p hb h1 h2=>(iB.cs (adx n b p hb h1 h2)).1
def jI:=λn b p hb h1 h2=>(iB.cs (adx n b p hb h1 h2)).2
def zB:=mk Tryz.func25 (hlC iB.ok hlN) (aj6 (std 0) aN)
noncomputable def dH:=zB.c
def pJ:=λn b p hb h1 h2=>zB.cs (alJ ⟨jH,jI⟩ n b p hb h1 h2)
def F9:=λn b p hb h1 h2=>(pJ n b p hb h1 h2).1
def Ga:=λn b p hb h1 h2=>(pJ n b p hb h1 h2).2
def uh:=mk Tryz.func27 hlN (aj7 (std 0))
noncomputable def cB:=uh.c
def zC:=λa b c=>(uh.cs (ads a b c)).1
def zD:=λa b c=>(uh.cs (ads a b c)).2
def JA:=mk Tryz.func55 hlN (afX (std 0))
noncomputable def Fb:=JA.c
def ahk:=λi=>(JA.cs (uf i)).1
def ahl:=λi=>(JA.cs (uf i)).2
def Il:=mk Tryz.func29 (hlC uh.ok (hlC JA.ok hlN)) (aj8 (std 0) cB Fb)
noncomputable def jf:=Il.c
def zF:=λi=>Il.cs (Gr ⟨zC,zD⟩ ahk ahl i)
def TJ:=λi=>(zF i).1
def TK:=λi=>(zF i).2
def Oq:=mk Tryz.func30 hlN (aj9 (std 0))
noncomputable def vY:=Oq.c
def adT:=λa=>(Oq.cs (qQ a)).1
def adU:=λa=>(Oq.cs (qQ a)).2
def Gb:=mk Tryz.func28 (hlC Oq.ok (hlC Il.ok hlN)) (afY (std 0) vY jf)
noncomputable def iQ:=Gb.c
def uj:=λi=>Gb.cs (CQ ⟨adT,adU⟩ ⟨TJ,TK⟩ i)
def QZ:=λi=>(uj i).1
def ahm:=λi=>(uj i).2
def Ou:=mk Tryz.func81 (hlC iB.ok hlN) (akb (std 0) aN)
noncomputable def mH:=Ou.c
def wX:=λb p hb h1 h2=>Ou.cs (al1 ⟨jH,jI⟩ b p hb h1 h2)
def aax:=λb p hb h1 h2=>(wX b p hb h1 h2).1
def aay:=λb p hb h1 h2=>(wX b p hb h1 h2).2
def Im:=mk Tryz.func50 (hlC Ou.ok (hlC iB.ok (hlC Gb.ok hlN))) (akc (std 0) mH aN iQ)
noncomputable def jg:=Im.c
def um:=λb p hb h1 h2=>Im.cs (al2 ⟨aax,aay⟩ ⟨jH,jI⟩ ⟨QZ⟩ b p hb h1 h2)
def TL:=λb p hb h1 h2=>(um b p hb h1 h2).1
def TM:=λb p hb h1 h2=>(um b p hb h1 h2).2
def Ov:=mk Tryz.func48 (hlC Im.ok (hlC iB.ok hlN)) (akd (std 0) jg aN)
noncomputable def mI:=Ov.c
def uo:=λb p hb h1 h2=>Ov.cs (al3 ⟨TL,TM⟩ ⟨jH,jI⟩ b p hb h1 h2)
def aaz:=λb p hb h1 h2=>(uo b p hb h1 h2).1
def aaA:=λb p hb h1 h2=>(uo b p hb h1 h2).2
def aaB:=mk Tryz.func49 (hlC Ou.ok (hlC zB.ok (hlC iB.ok hlN))) (ake (std 0) mH dH aN)
noncomputable def MB:=aaB.c
def qR:=λn b p hb h1 h2=>aaB.cs (amG ⟨aax,aay⟩ ⟨F9,Ga⟩ ⟨jH,jI⟩ n b p hb h1 h2)
def anj:=λn b p hb h1 h2=>(qR n b p hb h1 h2).1
def ank:=λn b p hb h1 h2=>(qR n b p hb h1 h2).2
def aaC:=mk Tryz.func19 (hlC Im.ok (hlC aaB.ok (hlC zB.ok (hlC iB.ok (hlC Ov.ok hlN))))) (akf (std 0) jg MB dH aN mI)
noncomputable def MC:=aaC.c
def pK:=λn b p hb h1 h2=>aaC.cs (amH ⟨TL,TM⟩ anj ank ⟨F9,Ga⟩ ⟨jH,jI⟩ ⟨aaz,aaA⟩ n b p hb h1 h2)
def anl:=λn b p hb h1 h2=>(pK n b p hb h1 h2).1
def anm:=λn b p hb h1 h2=>(pK n b p hb h1 h2).2
def Ow:=mk Tryz.func20 hlN (akg (std 0))
noncomputable def vZ:=Ow.c
def adV:=λb hb hl=>(Ow.cs (adw b hb hl)).1
def adW:=λb hb hl=>(Ow.cs (adw b hb hl)).2
def aaD:=mk Tryz.func5 (hlC Ow.ok (hlC aaC.ok hlN)) (akh (std 0) vZ MC)
noncomputable def NH:=aaD.c
def lg:=λc hc hl=>aaD.cs (amF ⟨adV,adW⟩ anl anm c hc hl)
def ano:=λc hc hl=>(lg c hc hl).1
def anp:=λc hc hl=>(lg c hc hl).2
def TN:=mk Tryz.func7 (hlC Oq.ok (hlC Il.ok (hlC uh.ok (hlC Gb.ok hlN)))) (aki (std 0) vY jf cB iQ)
noncomputable def wo:=TN.c
def zG:=λpc l hl=>TN.cs (Gt ⟨adT,adU⟩ ⟨TJ,TK⟩ ⟨zC,zD⟩ QZ ahm pc l hl)
def adX:=λpc l hl=>(zG pc l hl).1
def adY:=λpc l hl=>(zG pc l hl).2
def uw:=mk Tryz.func66 hlN (afZ (std 0))
noncomputable def dQ:=uw.c
def yw:=λa1 a2 a3 a4 a5 a6 o ops h=>(uw.cs (wU a1 a2 a3 a4 a5 a6 o ops h)).1
def yx:=λa1 a2 a3 a4 a5 a6 o ops h=>(uw.cs (wU a1 a2 a3 a4 a5 a6 o ops h)).2
def Gc:=mk Tryz.func67 (hlC uw.ok hlN) (af0 (std 0) dQ)
noncomputable def oF:=Gc.c
def aaE:=λa1 a2 a3 a4 a5 a6 k x ops h=>(Gc.cs (wW ⟨yw,yx⟩ a1 a2 a3 a4 a5 a6 k x ops h)).1
def aaF:=λa1 a2 a3 a4 a5 a6 k x ops h=>(Gc.cs (wW ⟨yw,yx⟩ a1 a2 a3 a4 a5 a6 k x ops h)).2
def yB:=mk Tryz.func68 (hlC uw.ok hlN) (af2 (std 0) dQ)
noncomputable def fG:=yB.c
def JB:=λa1 a2 a3 a4 a5 a6 k ops h=>(yB.cs (wV ⟨yw,yx⟩ a1 a2 a3 a4 a5 a6 k ops h)).1
def JC:=λa1 a2 a3 a4 a5 a6 k ops h=>(yB.cs (wV ⟨yw,yx⟩ a1 a2 a3 a4 a5 a6 k ops h)).2
def JD:=mk Tryz.func69 (hlC yB.ok (hlC uw.ok hlN)) (af3 (std 0) fG dQ)
noncomputable def oD:=JD.c
def qU:=λa1 a2 a3 a4 a5 a6 k a o ops h=>JD.cs (AY ⟨JB,JC⟩ ⟨yw,yx⟩ a1 a2 a3 a4 a5 a6 k a o ops h)
def aaG:=λa1 a2 a3 a4 a5 a6 k a o ops h=>(qU a1 a2 a3 a4 a5 a6 k a o ops h).1
def aaH:=λa1 a2 a3 a4 a5 a6 k a o ops h=>(qU a1 a2 a3 a4 a5 a6 k a o ops h).2
def JE:=mk Tryz.func70 hlN (af4 (std 0))
noncomputable def Fh:=JE.c
def ahn:=λk k0 k1=>(JE.cs (qP k k0 k1)).1
def aho:=λk k0 k1=>(JE.cs (qP k k0 k1)).2
def Q0:=mk Tryz.func71 (hlC yB.ok (hlC uw.ok (hlC JD.ok (hlC Gc.ok hlN)))) (af5 (std 0) fG dQ oD oF)
noncomputable def Fg:=Q0.c
def uz:=λa1 a2 a3 a4 a5 a6 i n ops hi h=>Q0.cs (CP ⟨JB,JC⟩ ⟨yw,yx⟩ ⟨aaG,aaH⟩ ⟨aaE,aaF⟩ a1 a2 a3 a4 a5 a6 i n ops hi h)
def ahp:=λa1 a2 a3 a4 a5 a6 i n ops hi h=>(uz a1 a2 a3 a4 a5 a6 i n ops hi h).1
def ahq:=λa1 a2 a3 a4 a5 a6 i n ops hi h=>(uz a1 a2 a3 a4 a5 a6 i n ops hi h).2
def Q5:=mk Tryz.func72 (hlC yB.ok hlN) (af6 (std 0) fG)
noncomputable def Fe:=Q5.c
def wY:=λB i hi h=>Q5.cs (F8 ⟨JB,JC⟩ B i hi h)
def ahr:=λB i hi h=>(wY B i hi h).1
def ahs:=λB i hi h=>(wY B i hi h).2
def Q6:=mk Tryz.func40 (hlC yB.ok (hlC Q5.ok (hlC uw.ok (hlC Q0.ok (hlC JD.ok (hlC Gc.ok (hlC JE.ok hlN))))))) (af7 (std 0) fG Fe dQ Fg oD oF Fh)
noncomputable def Fj:=Q6.c
def zH:=λB i n hi h0 h=>Q6.cs (Gs ⟨JB,JC⟩ ahr ahs ⟨yw,yx⟩ ahp ahq ⟨aaG,aaH⟩ ⟨aaE,aaF⟩ ahn aho B i n hi h0 h)
def aht:=λB i n hi h0 h=>(zH B i n hi h0 h).1
def ahu:=λB i n hi h0 h=>(zH B i n hi h0 h).2
end Go.TX.F
namespace Go.TX.F
open Go Go.AE Go.TX Go.TX.Seat Go.Proofs
set_option maxRecDepth 100000
def Ox:=mk Tryz.func14 (hlC TN.ok (hlC Q6.ok hlN)) (akj (std 0) wo Fj)
noncomputable def mO:=Ox.c
def qV:=λpc l hl=>Ox.cs (AZ ⟨adX,adY⟩ aht ahu pc l hl)
def aaI:=λpc l hl=>(qV pc l hl).1
def aaJ:=λpc l hl=>(qV pc l hl).2
def zI:=mk Tryz.func32 hlN (akk (std 0))
noncomputable def eD:=zI.c
def Io:=λa=>(zI.cs (adt a)).1
def Ip:=λa=>(zI.cs (adt a)).2
def TP:=mk Tryz.func31 (hlC zI.ok hlN) (akl (std 0) eD)
noncomputable def wu:=TP.c
def uD:=λl h=>TP.cs (amD ⟨Io,Ip⟩ l h)
def adZ:=λl h=>(uD l h).1
def ad1:=λl h=>(uD l h).2
def aaK:=mk Tryz.func87 (hlC TP.ok hlN) (akm (std 0) wu)
noncomputable def MJ:=aaK.c
def wZ:=λw i hw hi=>aaK.cs (amM ⟨adZ,ad1⟩ w i hw hi)
def anq:=λw i hw hi=>(wZ w i hw hi).1
def anr:=λw i hw hi=>(wZ w i hw hi).2
def aaL:=mk Tryz.func106 (hlC Im.ok (hlC iB.ok hlN)) (akn (std 0) jg aN)
noncomputable def MF:=aaL.c
def uE:=λt b p hb t0 h1 h2=>aaL.cs (amT ⟨TL,TM⟩ ⟨jH,jI⟩ t b p hb t0 h1 h2)
def ant:=λt b p hb t0 h1 h2=>(uE t b p hb t0 h1 h2).1
def anu:=λt b p hb t0 h1 h2=>(uE t b p hb t0 h1 h2).2
def aaM:=mk Tryz.func107 (hlC iB.ok hlN) (ako (std 0) aN)
noncomputable def MG:=aaM.c
def uF:=λt b p hb t0 h1 h2=>aaM.cs (amS ⟨jH,jI⟩ t b p hb t0 h1 h2)
def anv:=λt b p hb t0 h1 h2=>(uF t b p hb t0 h1 h2).1
def anw:=λt b p hb t0 h1 h2=>(uF t b p hb t0 h1 h2).2
def TQ:=mk Tryz.func110 (hlC Il.ok hlN) (akp (std 0) jf)
noncomputable def wB:=TQ.c
def w9:=λi=>TQ.cs (amK ⟨TJ,TK⟩ i)
def ad2:=λi=>(w9 i).1
def ad3:=λi=>(w9 i).2
def aaN:=mk Tryz.func108 (hlC TQ.ok hlN) (akq (std 0) wB)
noncomputable def ME:=aaN.c
def qW:=λl hl=>aaN.cs (amL ⟨ad2,ad3⟩ l hl)
def anx:=λl hl=>(qW l hl).1
def anz:=λl hl=>(qW l hl).2
def TS:=mk Tryz.func109 (hlC iB.ok hlN) (akr (std 0) aN)
noncomputable def wC:=TS.c
def uG:=λb p hb h1 h2=>TS.cs (alK ⟨jH,jI⟩ b p hb h1 h2)
def aaO:=λb p hb h1 h2=>(uG b p hb h1 h2).1
def aaP:=λb p hb h1 h2=>(uG b p hb h1 h2).2
def aaQ:=mk Tryz.func88 (hlC aaN.ok (hlC TQ.ok (hlC aaL.ok (hlC Im.ok (hlC Ou.ok (hlC aaM.ok (hlC zB.ok (hlC iB.ok (hlC TS.ok hlN))))))))) (aks (std 0) ME wB MF jg mH MG dH aN wC)
noncomputable def ML:=aaQ.c
def qX:=λb p hb h1 h2=>aaQ.cs (amV ⟨anx,anz⟩ ⟨ad2,ad3⟩ ant anu ⟨TL,TM⟩ ⟨aax,aay⟩ anv anw ⟨F9,Ga⟩ ⟨jH,jI⟩ ⟨aaO,aaP⟩ b p hb h1 h2)
def anA:=λb p hb h1 h2=>(qX b p hb h1 h2).1
def anB:=λb p hb h1 h2=>(qX b p hb h1 h2).2
def TT:=mk Tryz.func89 (hlC TS.ok hlN) (akt (std 0) wC)
noncomputable def MQ:=TT.c
def anC:=λn b p hb hn h1 h2=>(TT.cs (ady ⟨aaO,aaP⟩ n b p hb hn h1 h2)).1
def anD:=λn b p hb hn h1 h2=>(TT.cs (ady ⟨aaO,aaP⟩ n b p hb hn h1 h2)).2
def Oy:=mk Tryz.func8 (hlC zI.ok (hlC uh.ok (hlC TP.ok hlN))) (aku (std 0) eD cB wu)
noncomputable def mJ:=Oy.c
def zJ:=λm h=>Oy.cs (amE ⟨Io,Ip⟩ ⟨zC,zD⟩ ⟨adZ,ad1⟩ m h)
def aaR:=λm h=>(zJ m h).1
def aaS:=λm h=>(zJ m h).2
def Gd:=mk Tryz.func111 hlN (af8 (std 0))
noncomputable def oG:=Gd.c
def aaT:=λm h=>(Gd.cs (aam m h)).1
def aaU:=λm h=>(Gd.cs (aam m h)).2
def JF:=mk Tryz.func118 hlN (af9 (std 0))
noncomputable def Fx:=JF.c
def ahv:=λm b=>(JF.cs (aaq m b)).1
def ahw:=λm b=>(JF.cs (aaq m b)).2
def A8:=mk Tryz.func119 hlN (aga (std 0))
noncomputable def iR:=A8.c
def Q7:=λm h=>(A8.cs (aan m h)).1
def Q8:=λm h=>(A8.cs (aan m h)).2
def aaV:=mk Tryz.func120 (hlC Il.ok (hlC zI.ok hlN)) (akv (std 0) jf eD)
noncomputable def MH:=aaV.c
def uH:=λw=>aaV.cs (amJ ⟨TJ,TK⟩ ⟨Io,Ip⟩ w)
def anE:=λw=>(uH w).1
def anF:=λw=>(uH w).2
def Gf:=mk Tryz.func116 hlN (akw (std 0))
noncomputable def jh:=Gf.c
def TU:=λa=>(Gf.cs (adu a)).1
def TW:=λa=>(Gf.cs (adu a)).2
def T9:=mk Tryz.func103 (hlC Gf.ok (hlC zI.ok hlN)) (akx (std 0) jh eD)
noncomputable def wD:=T9.c
def zK:=λop a b=>T9.cs (alH ⟨Io,Ip⟩ ⟨TU,TW⟩ op a b)
def ad4:=λop a b=>(zK op a b).1
def ad5:=λop a b=>(zK op a b).2
def yC:=mk Tryz.func127 (hlC Gf.ok hlN) (agb (std 0) jh)
noncomputable def dR:=yC.c
def xg:=λm n h=>yC.cs (ag0 ⟨TU,TW⟩ m n h)
def A9:=λm n h=>(xg m n h).1
def Ba:=λm n h=>(xg m n h).2
def Q9:=mk Tryz.func123 (hlC A8.ok (hlC yC.ok hlN)) (agc (std 0) iR dR)
noncomputable def Fv:=Q9.c
def xk:=λm i h ho=>Q9.cs (ag8 ⟨Q7,Q8⟩ ⟨A9,Ba⟩ m i h ho)
def ahx:=λm i h ho=>(xk m i h ho).1
def ahy:=λm i h ho=>(xk m i h ho).2
def Bb:=mk Tryz.func124 (hlC yC.ok hlN) (agd (std 0) dR)
noncomputable def iT:=Bb.c
def Ra:=λm d v h d0 d1=>(Bb.cs (aap ⟨A9,Ba⟩ m d v h d0 d1)).1
def Rb:=λm d v h d0 d1=>(Bb.cs (aap ⟨A9,Ba⟩ m d v h d0 d1)).2
def Rc:=mk Tryz.func125 (hlC Gf.ok hlN) (agf (std 0) jh)
noncomputable def Fu:=Rc.c
def uI:=λv k h k0 k1=>Rc.cs (ag1 ⟨TU,TW⟩ v k h k0 k1)
def ahz:=λv k h k0 k1=>(uI v k h k0 k1).1
def ahA:=λv k h k0 k1=>(uI v k h k0 k1).2
def Rf:=mk Tryz.func126 (hlC Gf.ok (hlC A8.ok (hlC yC.ok (hlC Bb.ok hlN)))) (agh (std 0) jh iR dR iT)
noncomputable def Fq:=Rf.c
def uJ:=λm i h hi ho=>Rf.cs (ag6 ⟨TU,TW⟩ ⟨Q7,Q8⟩ ⟨A9,Ba⟩ ⟨Ra,Rb⟩ m i h hi ho)
def ahB:=λm i h hi ho=>(uJ m i h hi ho).1
def ahC:=λm i h hi ho=>(uJ m i h hi ho).2
def Rh:=mk Tryz.func128 (hlC yC.ok (hlC Bb.ok hlN)) (agi (std 0) dR iT)
noncomputable def Fp:=Rh.c
def xq:=λm i h hi hq hn ho=>Rh.cs (ag7 ⟨A9,Ba⟩ ⟨Ra,Rb⟩ m i h hi hq hn ho)
def ahD:=λm i h hi hq hn ho=>(xq m i h hi hq hn ho).1
def ahE:=λm i h hi hq hn ho=>(xq m i h hi hq hn ho).2
end Go.TX.F
namespace Go.TX.F
open Go Go.AE Go.TX Go.TX.Seat Go.Proofs
set_option maxRecDepth 100000
def Ri:=mk Tryz.func121 (hlC T9.ok (hlC yC.ok (hlC Rh.ok (hlC Rf.ok (hlC Bb.ok (hlC Rc.ok (hlC Q9.ok hlN))))))) (agj (std 0) wD dR Fp Fq iT Fu Fv)
noncomputable def Fw:=Ri.c
def Ck:=λm i h hi hn ho=>Ri.cs (ag9 ⟨ad4,ad5⟩ ⟨A9,Ba⟩ ahD ahE ahB ahC ⟨Ra,Rb⟩ ahz ahA ahx ahy m i h hi hn ho)
def ahF:=λm i h hi hn ho=>(Ck m i h hi hn ho).1
def ahG:=λm i h hi hn ho=>(Ck m i h hi hn ho).2
def aaW:=mk Tryz.func112 (hlC aaV.ok (hlC Oy.ok (hlC Gd.ok (hlC Ri.ok (hlC A8.ok (hlC JF.ok hlN)))))) (aky (std 0) MH mJ oG Fw iR Fx)
noncomputable def MI:=aaW.c
def uK:=λm b h ho=>aaW.cs (amO ⟨anE,anF⟩ ⟨aaR,aaS⟩ ⟨aaT,aaU⟩ ahF ahG ⟨Q7,Q8⟩ ahv ahw m b h ho)
def anG:=λm b h ho=>(uK m b h ho).1
def anH:=λm b h ho=>(uK m b h ho).2
def JG:=mk Tryz.func113 hlN (agk (std 0))
noncomputable def Fy:=JG.c
def ahH:=λl n h=>(JG.cs (aar l n h)).1
def ahI:=λl n h=>(JG.cs (aar l n h)).2
def aaX:=mk Tryz.func90 (hlC Oy.ok (hlC aaW.ok (hlC Gd.ok (hlC JG.ok hlN)))) (akz (std 0) mJ MI oG Fy)
noncomputable def MK:=aaX.c
def xu:=λm q n h hq ho=>aaX.cs (amQ ⟨aaR,aaS⟩ anG anH ⟨aaT,aaU⟩ ⟨ahH,ahI⟩ m q n h hq ho)
def anI:=λm q n h hq ho=>(xu m q n h hq ho).1
def anJ:=λm q n h hq ho=>(xu m q n h hq ho).2
def aaY:=mk Tryz.func91 (hlC iB.ok hlN) (akA (std 0) aN)
noncomputable def MN:=aaY.c
def uL:=λb p hb h1 h2=>aaY.cs (amR ⟨jH,jI⟩ b p hb h1 h2)
def anK:=λb p hb h1 h2=>(uL b p hb h1 h2).1
def anL:=λb p hb h1 h2=>(uL b p hb h1 h2).2
def Ua:=mk Tryz.func54 (hlC aaK.ok (hlC aaX.ok (hlC aaQ.ok (hlC aaY.ok (hlC zB.ok (hlC iB.ok (hlC TT.ok hlN))))))) (akB (std 0) MJ MK ML MN dH aN MQ)
noncomputable def wE:=Ua.c
def uM:=λb p hb h1 h2=>Ua.cs (amX anq anr anI anJ anA anB anK anL ⟨F9,Ga⟩ ⟨jH,jI⟩ anC anD b p hb h1 h2)
def ad6:=λb p hb h1 h2=>(uM b p hb h1 h2).1
def ad7:=λb p hb h1 h2=>(uM b p hb h1 h2).2
def Ub:=mk Tryz.func24 (hlC Ua.ok (hlC iB.ok hlN)) (akC (std 0) wE aN)
noncomputable def wK:=Ub.c
def zL:=λc b p hb h1 h2=>Ub.cs (am0 ⟨ad6,ad7⟩ ⟨jH,jI⟩ c b p hb h1 h2)
def ad8:=λc b p hb h1 h2=>(zL c b p hb h1 h2).1
def ad9:=λc b p hb h1 h2=>(zL c b p hb h1 h2).2
def Rj:=mk Tryz.func129 (hlC uh.ok hlN) (agl (std 0) cB)
noncomputable def Fz:=Rj.c
def uN:=λk=>Rj.cs (agK ⟨zC,zD⟩ k)
def ahJ:=λk=>(uN k).1
def ahK:=λk=>(uN k).2
def JH:=mk Tryz.func122 (hlC Rj.ok hlN) (agm (std 0) Fz)
noncomputable def oH:=JH.c
def zN:=λops x n h1=>JH.cs (agL ahJ ahK ops x n h1)
def aaZ:=λops x n h1=>(zN ops x n h1).1
def aa0:=λops x n h1=>(zN ops x n h1).2
def Rk:=mk Tryz.func114 (hlC zI.ok (hlC uh.ok (hlC JH.ok hlN))) (agn (std 0) eD cB oH)
noncomputable def FC:=Rk.c
def Cm:=λops i len h0 h1 h3=>Rk.cs (agM ⟨Io,Ip⟩ ⟨zC,zD⟩ ⟨aaZ,aa0⟩ ops i len h0 h1 h3)
def ahL:=λops i len h0 h1 h3=>(Cm ops i len h0 h1 h3).1
def ahM:=λops i len h0 h1 h3=>(Cm ops i len h0 h1 h3).2
def Rl:=mk Tryz.func115 (hlC zI.ok (hlC JH.ok hlN)) (agp (std 0) eD oH)
noncomputable def FB:=Rl.c
def zO:=λb=>Rl.cs (agN ⟨Io,Ip⟩ ⟨aaZ,aa0⟩ b)
def ahN:=λb=>(zO b).1
def ahO:=λb=>(zO b).2
def Gg:=mk Tryz.func98 (hlC uh.ok (hlC Rl.ok (hlC Rk.ok hlN))) (akD (std 0) cB FB FC)
noncomputable def gF:=Gg.c
def Cq:=λb h2=>Gg.cs (alY ⟨zC,zD⟩ ahN ahO ahL ahM b h2)
def Oz:=λb h2=>(Cq b h2).1
def OA:=λb h2=>(Cq b h2).2
def OB:=mk Tryz.func105 (hlC uh.ok hlN) (akE (std 0) cB)
noncomputable def wF:=OB.c
def aea:=λo al hk hx hy=>(OB.cs (adG ⟨zC,zD⟩ o al hk hx hy)).1
def aeb:=λo al hk hx hy=>(OB.cs (adG ⟨zC,zD⟩ o al hk hx hy)).2
def Uc:=mk Tryz.func99 (hlC OB.ok hlN) (akF (std 0) wF)
noncomputable def wG:=Uc.c
def uO:=λb kp ok hk=>Uc.cs (al8 ⟨aea,aeb⟩ b kp ok hk)
def aec:=λb kp ok hk=>(uO b kp ok hk).1
def aed:=λb kp ok hk=>(uO b kp ok hk).2
def aa1:=mk Tryz.func100 (hlC Gg.ok (hlC uh.ok hlN)) (akG (std 0) gF cB)
noncomputable def MR:=aa1.c
def uP:=λb hb=>aa1.cs (al7 ⟨Oz,OA⟩ ⟨zC,zD⟩ b hb)
def anM:=λb hb=>(uP b hb).1
def anN:=λb hb=>(uP b hb).2
def aa2:=mk Tryz.func82 (hlC Gg.ok (hlC aa1.ok (hlC Uc.ok hlN))) (akH (std 0) gF MR wG)
noncomputable def MZ:=aa2.c
def uQ:=λb hb=>aa2.cs (al9 ⟨Oz,OA⟩ ⟨anM,anN⟩ ⟨aec,aed⟩ b hb)
def anO:=λb hb=>(uQ b hb).1
def anP:=λb hb=>(uQ b hb).2
def Ud:=mk Tryz.func101 hlN (akI (std 0))
noncomputable def MU:=Ud.c
def anQ:=λops k h0 h1 h2=>(Ud.cs (adH ops k h0 h1 h2)).1
def anR:=λops k h0 h1 h2=>(Ud.cs (adH ops k h0 h1 h2)).2
def aa3:=mk Tryz.func83 (hlC Gg.ok (hlC Uc.ok (hlC Ud.ok hlN))) (akJ (std 0) gF wG MU)
noncomputable def M0:=aa3.c
def uR:=λb hb=>aa3.cs (ama ⟨Oz,OA⟩ ⟨aec,aed⟩ anQ anR b hb)
def anS:=λb hb=>(uR b hb).1
def anT:=λb hb=>(uR b hb).2
def Bc:=mk Tryz.func86 hlN (agq (std 0))
noncomputable def iU:=Bc.c
def Rm:=λb hb=>(Bc.cs (ZW b hb)).1
def Rn:=λb hb=>(Bc.cs (ZW b hb)).2
def OC:=mk Tryz.func102 hlN (akK (std 0))
noncomputable def wH:=OC.c
def aee:=λops k=>(OC.cs (adE ops k)).1
def aef:=λops k=>(OC.cs (adE ops k)).2
def Ue:=mk Tryz.func117 hlN (akL (std 0))
noncomputable def MV:=Ue.c
def anU:=λb k=>(Ue.cs (adF b k)).1
def anV:=λb k=>(Ue.cs (adF b k)).2
def aa4:=mk Tryz.func104 (hlC Ue.ok (hlC OC.ok hlN)) (akM (std 0) MV wH)
noncomputable def MW:=aa4.c
def uS:=λb h=>aa4.cs (al4 anU anV ⟨aee,aef⟩ b h)
def anW:=λb h=>(uS b h).1
def anX:=λb h=>(uS b h).2
end Go.TX.F
namespace Go.TX.F
open Go Go.AE Go.TX Go.TX.Seat Go.Proofs
set_option maxRecDepth 100000
def aa5:=mk Tryz.func84 (hlC Gg.ok (hlC T9.ok (hlC aa4.ok (hlC OC.ok (hlC Bc.ok hlN))))) (akN (std 0) gF wD MW wH iU)
noncomputable def MX:=aa5.c
def qY:=λb hb=>aa5.cs (al6 ⟨Oz,OA⟩ ⟨ad4,ad5⟩ anW anX ⟨aee,aef⟩ ⟨Rm,Rn⟩ b hb)
def anY:=λb hb=>(qY b hb).1
def anZ:=λb hb=>(qY b hb).2
def Uf:=mk Tryz.func85 (hlC Gg.ok (hlC OB.ok (hlC Bc.ok hlN))) (akO (std 0) gF wF iU)
noncomputable def wI:=Uf.c
def uT:=λb hb=>Uf.cs (amb ⟨Oz,OA⟩ ⟨aea,aeb⟩ ⟨Rm,Rn⟩ b hb)
def aeg:=λb hb=>(uT b hb).1
def aeh:=λb hb=>(uT b hb).2
def Ug:=mk Tryz.func51 (hlC aa5.ok (hlC Uf.ok (hlC aa2.ok (hlC aa3.ok hlN)))) (akP (std 0) MX wI MZ M0)
noncomputable def wJ:=Ug.c
def xw:=λb hb=>Ug.cs (al5 ⟨anY,anZ⟩ ⟨aeg,aeh⟩ ⟨anO,anP⟩ ⟨anS,anT⟩ b hb)
def aei:=λb hb=>(xw b hb).1
def aej:=λb hb=>(xw b hb).2
def Ro:=mk Tryz.func22 (hlC Ox.ok (hlC Ug.ok (hlC iB.ok (hlC Ub.ok (hlC Ov.ok (hlC Gb.ok hlN)))))) (agr (std 0) mO wJ aN wK mI iQ)
noncomputable def FD:=Ro.c
def xA:=λb p hb h1 h2=>Ro.cs (ahe ⟨aaI,aaJ⟩ ⟨aei,aej⟩ ⟨jH,jI⟩ ⟨ad8,ad9⟩ ⟨aaz,aaA⟩ ⟨QZ⟩ b p hb h1 h2)
def ahP:=λb p hb h1 h2=>(xA b p hb h1 h2).1
def ahQ:=λb p hb h1 h2=>(xA b p hb h1 h2).2
def aa6:=mk Tryz.func52 (hlC Ox.ok (hlC Ug.ok (hlC Uf.ok (hlC iB.ok (hlC Ov.ok hlN))))) (akQ (std 0) mO wJ wI aN mI)
noncomputable def M6:=aa6.c
def qZ:=λb p hb h1 h2=>aa6.cs (amc (λpc l h _=>aaI pc l h) (λpc l h _=>acN (aaJ pc l h)) ⟨aei,aej⟩ ⟨aeg,aeh⟩ ⟨jH,jI⟩ ⟨aaz,aaA⟩ b p hb h1 h2)
def an0:=λb p hb h1 h2=>(qZ b p hb h1 h2).1
def an1:=λb p hb h1 h2=>(qZ b p hb h1 h2).2
def aa7:=mk Tryz.func53 (hlC iB.ok (hlC Bc.ok hlN)) (akR (std 0) aN iU)
noncomputable def M5:=aa7.c
def uU:=λc b p hc hb h1 h2=>aa7.cs (amd ⟨jH,jI⟩ ⟨Rm,Rn⟩ c b p hc hb h1 h2)
def an2:=λc b p hc hb h1 h2=>(uU c b p hc hb h1 h2).1
def an3:=λc b p hc hb h1 h2=>(uU c b p hc hb h1 h2).2
def aa8:=mk Tryz.func23 (hlC zB.ok (hlC iB.ok (hlC aa7.ok (hlC aa6.ok hlN)))) (akS (std 0) dH aN M5 M6)
noncomputable def M8:=aa8.c
def nO:=λn b p hb h1 h2=>aa8.cs (ame ⟨F9,Ga⟩ ⟨jH,jI⟩ ⟨an2,an3⟩ ⟨an0,an1⟩ n b p hb h1 h2)
def an4:=λn b p hb h1 h2=>(nO n b p hb h1 h2).1
def an5:=λn b p hb h1 h2=>(nO n b p hb h1 h2).2
def aa9:=mk Tryz.func26 (hlC Ua.ok (hlC zB.ok (hlC iB.ok hlN))) (akT (std 0) wE dH aN)
noncomputable def M7:=aa9.c
def pO:=λn b p hb h1 h2=>aa9.cs (amZ ⟨ad6,ad7⟩ ⟨F9,Ga⟩ ⟨jH,jI⟩ n b p hb h1 h2)
def an6:=λn b p hb h1 h2=>(pO n b p hb h1 h2).1
def an7:=λn b p hb h1 h2=>(pO n b p hb h1 h2).2
def abb:=mk Tryz.func6 (hlC aa9.ok (hlC Ow.ok (hlC zB.ok (hlC iB.ok (hlC Ub.ok (hlC aa8.ok (hlC Ro.ok hlN))))))) (akU (std 0) M7 vZ dH aN wK M8 FD)
noncomputable def NI:=abb.c
def pQ:=λc hc hl=>abb.cs (am6 an6 an7 ⟨adV,adW⟩ ⟨F9,Ga⟩ ⟨jH,jI⟩ ⟨ad8,ad9⟩ ⟨an4,an5⟩ ahP ahQ c hc hl)
def an8:=λc hc hl=>(pQ c hc hl).1
def an9:=λc hc hl=>(pQ c hc hl).2
def jP:=mk Tryz.func41 hlN (akV (std 0))
noncomputable def aU:=jP.c
def mQ:=λa b c=>(jP.cs (adl a b c)).1
def mU:=λa b c=>(jP.cs (adl a b c)).2
def xB:=mk Tryz.func33 (hlC jP.ok hlN) (akW (std 0) aU)
noncomputable def cK:=xB.c
def zP:=λa=>xB.cs (alC ⟨mQ,mU⟩ a)
def Cr:=λa=>(zP a).1
def Cu:=λa=>(zP a).2
def abd:=mk Tryz.func9 (hlC xB.ok hlN) (akX (std 0) cK)
noncomputable def NG:=abd.c
def Cv:=abd.cs (alG ⟨Cr,Cu⟩)
def aoa:=(Cv).1
def aob:=(Cv).2
def Uh:=mk Tryz.func73 (hlC jP.ok hlN) (akY (std 0) aU)
noncomputable def wM:=Uh.c
def zQ:=λa=>Uh.cs (alE ⟨mQ,mU⟩ a)
def aek:=λa=>(zQ a).1
def ael:=λa=>(zQ a).2
def abe:=mk Tryz.func74 (hlC jP.ok hlN) (akZ (std 0) aU)
noncomputable def Na:=abe.c
def q9:=λo=>abe.cs (alR ⟨mQ,mU⟩ o)
def aoc:=λo=>(q9 o).1
def aod:=λo=>(q9 o).2
def abf:=mk Tryz.func75 (hlC jP.ok hlN) (ak0 (std 0) aU)
noncomputable def Nb:=abf.c
def Cw:=λa=>abf.cs (alD ⟨mQ,mU⟩ a)
def aoe:=λa=>(Cw a).1
def aof:=λa=>(Cw a).2
def abg:=mk Tryz.func94 (hlC jP.ok hlN) (ak1 (std 0) aU)
noncomputable def M9:=abg.c
def kR:=λo=>abg.cs (alS ⟨mQ,mU⟩ o)
def aog:=λo=>(kR o).1
def aoh:=λo=>(kR o).2
def Ui:=mk Tryz.func76 (hlC abg.ok (hlC jP.ok hlN)) (ak2 (std 0) M9 aU)
noncomputable def wL:=Ui.c
def kS:=λb x n h0 h1 h2=>Ui.cs (alU aog aoh ⟨mQ,mU⟩ b x n h0 h1 h2)
def aem:=λb x n h0 h1 h2=>(kS b x n h0 h1 h2).1
def aen:=λb x n h0 h1 h2=>(kS b x n h0 h1 h2).2
def abh:=mk Tryz.func44 (hlC Ui.ok (hlC abe.ok (hlC xB.ok (hlC jP.ok (hlC abf.ok (hlC Uh.ok hlN)))))) (ak3 (std 0) wL Na cK aU Nb wM)
noncomputable def Nc:=abh.c
def lu:=λb i h0 h1 h2 h3=>abh.cs (alV ⟨aem,aen⟩ ⟨aoc,aod⟩ ⟨Cr,Cu⟩ ⟨mQ,mU⟩ ⟨aoe,aof⟩ ⟨aek,ael⟩ b i h0 h1 h2 h3)
def aoi:=λb i h0 h1 h2 h3=>(lu b i h0 h1 h2 h3).1
def aoj:=λb i h0 h1 h2 h3=>(lu b i h0 h1 h2 h3).2
def acS:=mk Tryz.func77 hlN (apQ (std 0))
noncomputable def Zo:=acS.c
def aqD:=λb=>(acS.cs (alW b)).1
def aqE:=λb=>(acS.cs (alW b)).2
def ahR:=mk Tryz.func45 (hlC acS.ok (hlC Ui.ok (hlC xB.ok (hlC jP.ok hlN)))) (apR (std 0) Zo wL cK aU)
noncomputable def Zp:=ahR.c
def kU:=λb h2=>ahR.cs (ap3 ⟨aqD,aqE⟩ ⟨aem,aen⟩ ⟨Cr,Cu⟩ ⟨mQ,mU⟩ b h2)
def aqF:=λb h2=>(kU b h2).1
def aqG:=λb h2=>(kU b h2).2
end Go.TX.F
namespace Go.TX.F
open Go Go.AE Go.TX Go.TX.Seat Go.Proofs
set_option maxRecDepth 100000
def Uj:=mk Tryz.func16 (hlC ahR.ok (hlC abh.ok (hlC jP.ok hlN))) (ak4 (std 0) Zp Nc aU)
noncomputable def wR:=Uj.c
def Cx:=λb h2=>Uj.cs (alX aqF aqG aoi aoj ⟨mQ,mU⟩ b h2)
def aeo:=λb h2=>(Cx b h2).1
def aep:=λb h2=>(Cx b h2).2
def abj:=mk Tryz.func56 (hlC xB.ok hlN) (ak5 (std 0) cK)
noncomputable def Ng:=abj.c
def uV:=λa ha=>abj.cs (alM ⟨Cr,Cu⟩ a ha)
def aol:=λa ha=>(uV a ha).1
def aom:=λa ha=>(uV a ha).2
def Uk:=mk Tryz.func34 (hlC xB.ok (hlC jP.ok (hlC abj.ok hlN))) (ak6 (std 0) cK aU Ng)
noncomputable def wT:=Uk.c
def zR:=λm h=>Uk.cs (aml ⟨Cr,Cu⟩ ⟨mQ,mU⟩ ⟨aol,aom⟩ m h)
def aer:=λm h=>(zR m h).1
def aes:=λm h=>(zR m h).2
def Ul:=mk Tryz.func57 hlN (ak7 (std 0))
noncomputable def Nh:=Ul.c
def aon:=λa ha=>(Ul.cs (ado a ha)).1
def aoo:=λa ha=>(Ul.cs (ado a ha)).2
def Um:=mk Tryz.func35 (hlC Ul.ok hlN) (ak8 (std 0) Nh)
noncomputable def wS:=Um.c
def kV:=λm h=>Um.cs (amm aon aoo m h)
def aeu:=λm h=>(kV m h).1
def aev:=λm h=>(kV m h).2
def OD:=mk Tryz.func92 hlN (ak9 (std 0))
noncomputable def wN:=OD.c
def aew:=λa=>(OD.cs (adn a)).1
def aex:=λa=>(OD.cs (adn a)).2
def Un:=mk Tryz.func58 (hlC xB.ok (hlC OD.ok hlN)) (ala (std 0) cK wN)
noncomputable def wP:=Un.c
def zS:=λop a b=>Un.cs (alF ⟨Cr,Cu⟩ ⟨aew,aex⟩ op a b)
def aey:=λop a b=>(zS op a b).1
def aez:=λop a b=>(zS op a b).2
def OE:=mk Tryz.func59 hlN (alb (std 0))
noncomputable def wO:=OE.c
def aeA:=λpc sv lt wt ha ins ct regs mem outs h=>(OE.cs (adJ pc sv lt wt ha ins ct regs mem outs h)).1
def aeB:=λpc sv lt wt ha ins ct regs mem outs h=>(OE.cs (adJ pc sv lt wt ha ins ct regs mem outs h)).2
def Uo:=mk Tryz.func60 (hlC xB.ok hlN) (alc (std 0) cK)
noncomputable def wQ:=Uo.c
def xC:=λr a b=>Uo.cs (alZ ⟨Cr,Cu⟩ r a b)
def aeC:=λr a b=>(xC r a b).1
def aeD:=λr a b=>(xC r a b).2
def abk:=mk Tryz.func36 (hlC OE.ok (hlC Un.ok (hlC Uo.ok (hlC jP.ok hlN)))) (ald (std 0) wO wP wQ aU)
noncomputable def Ni:=abk.c
def mW:=λb m hb hm hs ho=>abk.cs (amu ⟨aeA,aeB⟩ ⟨aey,aez⟩ ⟨aeC,aeD⟩ ⟨mQ,mU⟩ b m hb hm hs ho)
def aop:=λb m hb hm hs ho=>(mW b m hb hm hs ho).1
def aoq:=λb m hb hm hs ho=>(mW b m hb hm hs ho).2
def abl:=mk Tryz.func10 (hlC abk.ok (hlC Uj.ok (hlC Um.ok (hlC Uk.ok hlN)))) (ale (std 0) Ni wR wS wT)
noncomputable def Ny:=abl.c
def zT:=λb m hb hs ho=>abl.cs (amv aop aoq ⟨aeo,aep⟩ ⟨aeu,aev⟩ ⟨aer,aes⟩ b m hb hs ho)
def aor:=λb m hb hs ho=>(zT b m hb hs ho).1
def aos:=λb m hb hs ho=>(zT b m hb hs ho).2
def abm:=mk Tryz.func42 (hlC jP.ok (hlC Uh.ok hlN)) (apS (std 0) aU wM)
noncomputable def xZ:=abm.c
def zU:=λi=>abm.cs (aqd ⟨mQ,mU⟩ ⟨aek,ael⟩ i)
def ahS:=λi=>(zU i).1
def ahT:=λi=>(zU i).2
def ahU:=mk Tryz.func43 (hlC jP.ok hlN) (apT (std 0) aU)
noncomputable def Zq:=ahU.c
def uW:=λa=>ahU.cs (aqe ⟨mQ,mU⟩ a)
def aqH:=λa=>(uW a).1
def aqI:=λa=>(uW a).2
def acT:=mk Tryz.func15 (hlC ahU.ok (hlC abm.ok (hlC jP.ok hlN))) (apU (std 0) Zq xZ aU)
noncomputable def Gp:=acT.c
def zV:=λpc l hl=>acT.cs (aqf ⟨aqH,aqI⟩ ⟨ahS,ahT⟩ ⟨mQ,mU⟩ pc l hl)
def aot:=λpc l hl=>(zV pc l hl).1
def aou:=λpc l hl=>(zV pc l hl).2
def abn:=mk Tryz.func93 (hlC jP.ok hlN) (alf (std 0) aU)
noncomputable def Nj:=abn.c
def nP:=λo=>abn.cs (alT ⟨mQ,mU⟩ o)
def aeE:=λo=>(nP o).1
def aeF:=λo=>(nP o).2
def Cy:=mk Tryz.func62 (hlC abn.ok hlN) (alg (std 0) Nj)
noncomputable def gG:=Cy.c
def Cz:=λkd x y k a1 a2 a3 a4 a5 a6 a ops h=>(Cy.cs (adL ⟨aeE,aeF⟩ kd x y k a1 a2 a3 a4 a5 a6 a ops h)).1
def CB:=λkd x y k a1 a2 a3 a4 a5 a6 a ops h=>(Cy.cs (adL ⟨aeE,aeF⟩ kd x y k a1 a2 a3 a4 a5 a6 a ops h)).2
def abo:=mk Tryz.func61 (hlC Cy.ok hlN) (alh (std 0) gG)
noncomputable def Nn:=abo.c
def jJ:=λv i a1 a2 a3 a4 a5 a6 a ops h=>abo.cs (amx ⟨Cz,CB⟩ v i a1 a2 a3 a4 a5 a6 a ops h)
def aov:=λv i a1 a2 a3 a4 a5 a6 a ops h=>(jJ v i a1 a2 a3 a4 a5 a6 a ops h).1
def aow:=λv i a1 a2 a3 a4 a5 a6 a ops h=>(jJ v i a1 a2 a3 a4 a5 a6 a ops h).2
def Uq:=mk Tryz.func63 (hlC Cy.ok hlN) (ali (std 0) gG)
noncomputable def Np:=Uq.c
def aox:=λk a1 a2 a3 a4 a5 a6 a ops h=>(Uq.cs (adM ⟨Cz,CB⟩ k a1 a2 a3 a4 a5 a6 a ops h)).1
def aoy:=λk a1 a2 a3 a4 a5 a6 a ops h=>(Uq.cs (adM ⟨Cz,CB⟩ k a1 a2 a3 a4 a5 a6 a ops h)).2
def Ur:=mk Tryz.func64 (hlC Cy.ok hlN) (alj (std 0) gG)
noncomputable def Nl:=Ur.c
def aoz:=λk a1 a2 a3 a4 a5 a6 a ops h=>(Ur.cs (adN ⟨Cz,CB⟩ k a1 a2 a3 a4 a5 a6 a ops h)).1
def aoA:=λk a1 a2 a3 a4 a5 a6 a ops h=>(Ur.cs (adN ⟨Cz,CB⟩ k a1 a2 a3 a4 a5 a6 a ops h)).2
def Us:=mk Tryz.func65 (hlC Cy.ok hlN) (alk (std 0) gG)
noncomputable def Nk:=Us.c
def aoB:=λop x y a1 a2 a3 a4 a5 a6 a ops h=>(Us.cs (adO ⟨Cz,CB⟩ op x y a1 a2 a3 a4 a5 a6 a ops h)).1
def aoC:=λop x y a1 a2 a3 a4 a5 a6 a ops h=>(Us.cs (adO ⟨Cz,CB⟩ op x y a1 a2 a3 a4 a5 a6 a ops h)).2
def abp:=mk Tryz.func37 (hlC Us.ok (hlC Ur.ok (hlC abo.ok (hlC Cy.ok (hlC Uq.ok hlN))))) (alm (std 0) Nk Nl Nn gG Np)
noncomputable def Nq:=abp.c
def kW:=λi B a h h8 h0=>abp.cs (amy aoB aoC aoz aoA aov aow ⟨Cz,CB⟩ aox aoy i B a h h8 h0)
def aoD:=λi B a h h8 h0=>(kW i B a h h8 h0).1
def aoE:=λi B a h h8 h0=>(kW i B a h h8 h0).2
def acU:=mk Tryz.func38 hlN (apV (std 0))
noncomputable def Zr:=acU.c
def aqJ:=λb hb=>(acU.cs (amh b hb)).1
def aqK:=λb hb=>(acU.cs (amh b hb)).2
end Go.TX.F
namespace Go.TX.F
open Go Go.AE Go.TX Go.TX.Seat Go.Proofs
set_option maxRecDepth 100000
def ahV:=mk Tryz.func11 (hlC acT.ok (hlC acU.ok (hlC abp.ok hlN))) (apW (std 0) Gp Zr Nq)
noncomputable def Zv:=ahV.c
def ru:=λpc l hl=>ahV.cs (aqg ⟨aot,aou⟩ ⟨aqJ,aqK⟩ aoD aoE pc l hl)
def aqL:=λpc l hl=>(ru pc l hl).1
def aqM:=λpc l hl=>(ru pc l hl).2
def Ut:=mk Tryz.func39 hlN (aln (std 0))
noncomputable def Nr:=Ut.c
def aoF:=λa b ha=>(Ut.cs (adq a b ha)).1
def aoG:=λa b ha=>(Ut.cs (adq a b ha)).2
def abq:=mk Tryz.func12 (hlC Ut.ok hlN) (alo (std 0) Nr)
noncomputable def NA:=abq.c
def xD:=λa b h=>abq.cs (amn ⟨aoF,aoG⟩ a b h)
def aoH:=λa b h=>(xD a b h).1
def aoI:=λa b h=>(xD a b h).2
def Uu:=mk Tryz.func13 hlN (alp (std 0))
noncomputable def ND:=Uu.c
def aoJ:=λa b ha=>(Uu.cs (adI a b ha)).1
def aoK:=λa b ha=>(Uu.cs (adI a b ha)).2
def ahW:=mk Tryz.func46 (hlC abm.ok hlN) (apX (std 0) xZ)
noncomputable def Zt:=ahW.c
def xE:=λi=>ahW.cs (aqo ⟨ahS,ahT⟩ i)
def aqN:=λi=>(xE i).1
def aqO:=λi=>(xE i).2
def ahX:=mk Tryz.func17 (hlC ahW.ok hlN) (apY (std 0) Zt)
noncomputable def Zw:=ahX.c
def rz:=λl hl=>ahX.cs (aqp ⟨aqN,aqO⟩ l hl)
def aqP:=λl hl=>(rz l hl).1
def aqQ:=λl hl=>(rz l hl).2
def Uv:=mk Tryz.func78 hlN (alq (std 0))
noncomputable def Nu:=Uv.c
def aoL:=λm=>(Uv.cs (adQ m)).1
def aoM:=λm=>(Uv.cs (adQ m)).2
def ahY:=mk Tryz.func95 (hlC abm.ok (hlC xB.ok hlN)) (apZ (std 0) xZ cK)
noncomputable def Zu:=ahY.c
def uX:=λw=>ahY.cs (aqn ⟨ahS,ahT⟩ ⟨Cr,Cu⟩ w)
def aqR:=λw=>(uX w).1
def aqS:=λw=>(uX w).2
def abr:=mk Tryz.func96 (hlC OE.ok (hlC Un.ok (hlC Uo.ok (hlC OD.ok hlN)))) (alr (std 0) wO wP wQ wN)
noncomputable def Ns:=abr.c
def jK:=λi m h hi hn ho=>abr.cs (am8 ⟨aeA,aeB⟩ ⟨aey,aez⟩ ⟨aeC,aeD⟩ ⟨aew,aex⟩ i m h hi hn ho)
def aoN:=λi m h hi hn ho=>(jK i m h hi hn ho).1
def aoO:=λi m h hi hn ho=>(jK i m h hi hn ho).2
def abt:=mk Tryz.func79 (hlC ahY.ok (hlC abr.ok hlN)) (als (std 0) Zu Ns)
noncomputable def Nv:=abt.c
def lC:=λb m h hn ho=>abt.cs (am9 ⟨aqR,aqS⟩ aoN aoO b m h hn ho)
def aoP:=λb m h hn ho=>(lC b m h hn ho).1
def aoQ:=λb m h hn ho=>(lC b m h hn ho).2
def Uw:=mk Tryz.func97 hlN (alu (std 0))
noncomputable def Nt:=Uw.c
def aoR:=λl n h=>(Uw.cs (adR l n h)).1
def aoS:=λl n h=>(Uw.cs (adR l n h)).2
def abu:=mk Tryz.func80 (hlC Uw.ok hlN) (alv (std 0) Nt)
noncomputable def Nw:=abu.c
def iC:=λl n h=>abu.cs (am7 aoR aoS l n h)
def aoT:=λl n h=>(iC l n h).1
def aoU:=λl n h=>(iC l n h).2
def abv:=mk Tryz.func47 (hlC Um.ok (hlC Uv.ok (hlC abt.ok (hlC Uk.ok (hlC abu.ok hlN))))) (alx (std 0) wS Nu Nv wT Nw)
noncomputable def Nz:=abv.c
def xG:=λm q n h hq ho=>abv.cs (ana ⟨aeu,aev⟩ aoL aoM aoP aoQ ⟨aer,aes⟩ ⟨aoT,aoU⟩ m q n h hq ho)
def aoV:=λm q n h hq ho=>(xG m q n h hq ho).1
def aoW:=λm q n h hq ho=>(xG m q n h hq ho).2
def abw:=mk Tryz.func18 (hlC abl.ok (hlC abv.ok (hlC abq.ok hlN))) (aly (std 0) Ny Nz NA)
noncomputable def NC:=abw.c
def uY:=λb m hb hs ho hc hx=>abw.cs (ane ⟨aor,aos⟩ aoV aoW ⟨aoH,aoI⟩ b m hb hs ho hc hx)
def aoX:=λb m hb hs ho hc hx=>(uY b m hb hs ho hc hx).1
def aoY:=λb m hb hs ho hc hx=>(uY b m hb hs ho hc hx).2
def aeG:=mk Tryz.func4 (hlC ahV.ok (hlC acT.ok (hlC ahX.ok (hlC Uj.ok (hlC abw.ok (hlC Uu.ok (hlC abd.ok (hlC Ox.ok (hlC TN.ok (hlC aaD.ok (hlC abb.ok (hlC Oy.ok hlN)))))))))))) (alz (std 0) Zv Gp Zw wR NC ND NG mO wo NH NI mJ)
def nQ:=λc d hc hd=>aeG.cs (anf ⟨aqL,aqM⟩ ⟨aot,aou⟩ ⟨aqP,aqQ⟩ ⟨aeo,aep⟩ aoX aoY ⟨aoJ,aoK⟩ ⟨aoa,aob⟩ ⟨aaI,aaJ⟩ ⟨adX,adY⟩ ⟨ano,anp⟩ ⟨an8,an9⟩ ⟨aaR,aaS⟩ c d hc hd)
def aoZ:=λc d hc hd=>(nQ c d hc hd).1
def ao0:=λc d hc hd=>(nQ c d hc hd).2
end Go.TX.F
namespace Go.Proofs.YtomdenodojmcgaaGreatDoor
open Go.ChangeShapes Go.WideShapes Go.ChangeAt Go.RowKit
theorem aqT:ownKnob Tryz.prog.godebug=Option.none:=by kernel_rfl
theorem abx:laidOutB Tryz.prog=true:=by kernel_rfl
theorem aby:Tryz.prog.cellsOf 5=1:=by kernel_rfl
abbrev OG:List (String×DataW Unit):=Rows.fnBlkLowerRow.laid
theorem ahZ:Tryz.prog.globalNamed (Rows.fnBlkLowerRow.named.getD 0 Rows.fnBlkLowerRow.func)=some 0:=by kernel_rfl
theorem ah0:(Tryz.prog.globals[0]?).map (·.type)=some 97:=by kernel_rfl
theorem abz (os:Os) (args:Array Value):laidMetH Tryz.prog OG ((World.doorLaid Tryz.prog 400 os).forCall (λ_ _=>0) ⟨#[],args,[]⟩).memory:=
 laidMetH_of_parts3 (fuel:=8) (laidMet_of_run' 8 (by kernel_rfl) (by kernel_rfl)) (by kernel_rfl) (by kernel_rfl)
theorem acV {W:World} (h:laidMetH Tryz.prog OG W):Go.AE.nU Go.TX.Seat.E (Go.TX.entry W) W:=by
 rw [MakeChecks.laidMetH_plain _ _ _ (by kernel_rfl)]at h
 obtain⟨ps,⟨g0,t0,cs0,f0,p0,q0,hg0,ht0,hv0,hd0,_,_⟩,_⟩:=h
 obtain rfl:=Option.some.inj (ahZ.symm.trans hg0)
 obtain rfl:=Option.some.inj (ah0.symm.trans ht0)
 obtain⟨v,e,r⟩:=Go.TX.adS (c:= .form) (dec:=Go.TX.anh) Tryz.underlying97 (by kernel_rfl) (by decide) (Go.TX.acR Tryz.underlying96 (by kernel_rfl) ⟨rfl,rfl,rfl,rfl⟩ ⟨rfl,rfl,rfl,rfl⟩ Tryz.underlying4 Tryz.underlying3 Tryz.underlying94 Tryz.underlying9 ⟨by kernel_rfl,by kernel_rfl,by kernel_rfl,by kernel_rfl⟩) hd0
 have hc:=World.var?_cell hg0 hv0 0
 rw [Array.eq_one_of_toList e]at hc
 have hc:W.cell? ⟨0,0,none⟩=some v:=by simpa using hc
 intro g d hg
 have hg':(if g==0 then some (.rows 4 (Go.TX.aI .form Go.TX.sJ))else none)=some d:=hg
 split at hg'
 ·rename_i c
  have c:=beq_iff_eq.1 c
  subst c
  cases hg'
  exact⟨Go.TX.TI hc,v,hc,r⟩
 ·cases hg'
set_option maxRecDepth 100000 in
theorem lifted (os:Os) (started:os.Started) (H:Type) (enc:TypeId×Value->H):
  ReturnsInHanded {} Tryz.checked os 4 .any (λw args=>(Rows.fnBlkLowerSpec.pre enc Tryz.prog Tryz.f4 [] false w args/\laidMetH Tryz.prog OG w)/\sizedMet enc Tryz.prog Tryz.f4 (OpenSpec.ofChange Rows.fnBlkLowerSpec) false w args) (Rows.fnBlkLowerSpec.post enc Tryz.prog Tryz.f4 false true false false):=by
 refine returnsInHanded_of_change_and (C:=Tryz.checked) (X:=λw _=>laidMetH Tryz.prog OG w) (λ_ _ _ hh h=>h.of_heap hh) aqT started (by kernel_rfl) Tryz.func4
  (ChangeSpec.witness_shaped (enc:=enc) (C:=Tryz.checked) (os:=os) (X:=λw _=>laidMetH Tryz.prog OG w) false (World.doorLaid Tryz.prog 400 os) #[.slice none 0 0,.slice none 0 0] 8 rfl (World.shaped_of_RefB (by kernel_rfl) (by kernel_rfl)) (by kernel_rfl) (by kernel_rfl) (by kernel_rfl) (abz os _)) ?_
 intro W base args ds gs before hval0 hW _ _ hL _
 have hval:∀(j:Nat) t v,Tryz.f4.params[j]? =some t->args[j]? =some v->Value.okWide Tryz.prog W .any base t v:=hval0
 have hW':=hW
 obtain⟨p,q,hA0,hV,rfl,_,_⟩:=hW
 have hA:DataW.TrodAll enc Tryz.prog W 0 (λ_=>true) true Tryz.f4.params.toList args.toList ds p:=hA0
 rw [Tryz.params4]at hA hval
 obtain⟨v0,v1,d0,d1,p0,p1,rfl,rfl,rfl,h0,h1⟩:=trodAll_two hA
 obtain⟨_,_,_,_,g0,_,rfl,_,_,_,_,_⟩:=trodVars_one hV
 clear hA0 hval0
 have hlt:∀x∈p0++p1,x.block<W.heap.size:=λx hx=>by simpa using hW'.lt x (List.mem_append_left _ hx)
 have hl0:∀x∈p0,x.block<W.heap.size:=λx hx=>hlt x (List.mem_append_left _ hx)
 have hl1:∀x∈p1,x.block<W.heap.size:=λx hx=>hlt x (List.mem_append_right _ hx)
 obtain⟨xs,hr,hb⟩:=Go.TX.Oo Tryz.underlying22 Tryz.underlying5 aby (hval 0 22 v0 rfl rfl) h0 hl0
 obtain⟨ys,hs,hc⟩:=Go.TX.Oo Tryz.underlying22 Tryz.underlying5 aby (hval 1 22 v1 rfl rfl) h1 hl1
 have hp:=Go.TX.F.aoZ xs ys hb hc
 have hq:=Go.TX.F.ao0 xs ys hb hc
 refine(Go.TX.aqA Go.TX.F.aeG.ok hr hs (acV hL) hp).mono λe W' ⟨he,hw⟩=> ?_
 have he:e= .returned (.bool true):=he.trans (congrArg (λz:Bool×Unit=>Ending.returned (.bool z.1)) hq)
 refine⟨_,he,[d0,d1],[g0],(p0++p1)++q,[],p0++p1,q,hW',trodAll_mk1 (shut_bool Tryz.underlying4 true),?_,hw.trodVars abx (by kernel_rfl) hV,hw.frame _,λh=>by cases h⟩
 exact trodAll_mk2 (Below.trod abx (by kernel_rfl) (of_decide_eq_true (by kernel_rfl)) h0 hw hl0) (Below.trod abx (by kernel_rfl) (of_decide_eq_true (by kernel_rfl)) h1 hw hl1)
theorem y1:Tryz.pinned.checked.prog.funcNamed Rows.fnBlkLowerRow.func=some 4:=by kernel_rfl
theorem aS {a b:Bool} (h:a=true) (k:b=true):(a&&b)=true:=by rw [h,k];rfl
set_option maxHeartbeats 4000000 in
theorem y2:joinedFacts Tryz.pinned.checked.prog 4 Tryz.f4 Rows.fnBlkLowerSpec Rows.fnBlkLowerRow=true:=by
 unfold joinedFacts
 repeat' with_reducible apply aS
 all_goals (as_aux_lemma=>kernel_rfl)
theorem y3:Func.isWrapper Tryz.prog Tryz.f4 Rows.fnBlkLowerRow.wrapper Rows.fnBlkLowerRow.mainSum:=(by unfold Func.isWrapper;first | (rw [if_pos (by decide+kernel)];kernel_rfl) | (rw [if_neg (by decide+kernel)];exact⟨rfl,rfl⟩))
theorem Vz:Rows.FnBlkLowerSaid:=
 OpenClaim.holds_of_wide 4 Tryz.f4 rfl rfl rfl rfl rfl rfl rfl ⟨rfl,rfl,rfl,rfl,rfl⟩ rfl rfl rfl rfl rfl y1 Tryz.func4 y2
  (of_decide_eq_true (by kernel_rfl)) y3
  (λos started H enc _=>lifted os started H enc)
theorem x_holds:Rows.FnBlkLowerCardSaid:=
 Claim7.holds_tied_plain_at .later [] [.widerDeep] true (true, "3890f5ec9a84ff03a9cac87f8a5a0191030c45f0fe960d1215d6eea77a5f3452") false Vz (λ_ h=>by cases h) (by kernel_rfl) (λ_ h=>by cases h) fnBlkLower_row_tie rfl ⟨rfl,rfl⟩ (by kernel_rfl) rfl
  (λf fn hf hfn=>by
   obtain rfl:f=4:=Option.some.inj ((show Tryz.prog.funcNamed Rows.fnBlkLowerRow.func=some 4 by kernel_rfl).symm.trans hf) |>.symm
   obtain rfl:fn=Tryz.f4:=(Option.some.inj (Tryz.func4.symm.trans hfn)).symm
   refine⟨by kernel_rfl,λj t ht=> ?_⟩
   rw [Tryz.params4]at ht
   have h3:t=22:=by
    rcases j with _ | _ | j<;>simp at ht<;>first | exact ht.symm | exact ht
   subst h3
   exact(show Tryz.prog.wantsStandIn 22=false by kernel_rfl))
  (by kernel_rfl)
end Go.Proofs.YtomdenodojmcgaaGreatDoor
