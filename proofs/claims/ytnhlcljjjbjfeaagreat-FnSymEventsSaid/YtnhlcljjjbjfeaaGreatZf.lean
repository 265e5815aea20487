/- For every input the law returns true, and the input reads as it did. No condition. -/
import Derived.Test.YtnhlcljjjbjfeaaGreatZe
import Derived.ChangeSlices
import Derived.ChangeSame
import Derived.JoinedOf
import Derived.JoinedAt
import Derived.Handed
import Derived.Below
import Derived.Carry
import Derived.OpenShut
import Derived.ChangeKeysEq
import Derived.Test.YtnhlcljjjbjfeaaGreatY
import Derived.Test.YtnhlcljjjbjfeaaGreatRows
set_option linter.all false
set_option linter.unusedSectionVars false
set_option linter.unusedVariables false
set_option linter.unusedSimpArgs false
namespace Go.TX.F
open Go Go.AE Go.TX
theorem VH {d:List Int} {i j x:Int} (h1:0≤i) (h2:i<d.length) (h3:0≤j):((d.set i.toNat x).getD (j).toNat default)=if j=i then x else((d).getD (j).toNat default):=by
  simp only [List.getD]
  by_cases h:j=i
  · subst h;rw [if_pos rfl,List.getElem?_set_self (by omega)];rfl
  · rw [if_neg h,List.getElem?_set_ne (by omega)]
theorem XI {d:List Int} {i j:Int} (h1:0≤i) (h2:i<d.length) (h3:0≤j) (h4:j<d.length) (h5:i≠j):((d.set i.toNat ((d).getD (j).toNat default)).set j.toNat ((d).getD (i).toNat default)).Perm d:=by
  rw [List.perm_iff_count]
  intro x
  rw [getD_lt (show i.toNat<d.length by omega),getD_lt (show j.toNat<d.length by omega),List.count_set (by simp;omega),List.count_set (by omega),List.getElem_set_ne (by omega)]
  have h6:(if d[i.toNat]==x then 1 else 0)≤List.count x d:=by
    split
    · rename_i h;exact List.count_pos_iff.2 (by rw [←eq_of_beq h];exact List.getElem_mem _)
    · omega
  split<;>split<;>simp_all<;>omega
theorem aaV {p:Int×Int×Unit→Bool} {f:Int×Int×Unit→Bool×Unit} (hp:∀a b,p (a,b,())=true) (hf:∀a b,f (a,b,())=(decide (a<b),()))
    (a b:Int) (d:List Int) (hd:d.length<1000000000) (h1:a=0) (h2:b=d.length):
    I8 (std 0) p f (a,b,d,()) (fun y=>y.1=mQ d):=by
  subst h1
  dsimp only [I8,Alg.cl,Alg.bd,Alg.l1,Tup.q,Tup.o]
  simp (disch:=omega) only [RR]
  have fin:∀e:List Int,e.Perm d→(∀q:Int,1≤q→q<e.length→((e).getD (q-1).toNat default)≤((e).getD (q).toNat default))→e=mQ d:=fun e g1 g2=>
    zn ((dI (d:=default) (R:=fun a b:Int=>a≤b) (fun h1 h2=>Int.le_trans h1 h2)).2 g2) g1
  refine aA (fun(y:Int×Int×Int×List Int×Unit)=>y.1=0∧y.2.1=b∧1≤y.2.2.1∧(y.2.2.1≤b∨y.2.2.1=1)∧y.2.2.2.1.Perm d∧∀q,1≤q→q<y.2.2.1→((y.2.2.2.1).getD (q-1).toNat default)≤((y.2.2.2.1).getD (q).toNat default)) (fun y=>(b-y.2.2.1).toNat)
    ⟨rfl,rfl,by simp,Or.inr rfl,List.Perm.refl d,fun q g1 g2=>by dsimp only at g2;omega⟩ ?_
  rintro⟨(a':Int),(b':Int),(i:Int),(e:List Int),⟨⟩⟩ hI
  dsimp only at hI ⊢
  obtain⟨rfl,rfl,h4,h5,h6,h7⟩:=hI
  have hle:=h6.length_eq
  simp (disch:=omega) only [RR]
  refine⟨fun h9=> ?_,fun h9=>fin e h6 fun q g1 g2=>h7 q g1 (by omega)⟩
  refine aA (fun(y:Int×Int×Int×Int×List Int×Unit)=>y.1=0∧y.2.1=b'∧y.2.2.1=i∧0≤y.2.2.2.1∧y.2.2.2.1≤i∧y.2.2.2.2.1.Perm d
      ∧(∀q,1≤q→q≤i→q≠y.2.2.2.1→((y.2.2.2.2.1).getD (q-1).toNat default)≤((y.2.2.2.2.1).getD (q).toNat default))∧(1≤y.2.2.2.1→y.2.2.2.1+1≤i→((y.2.2.2.2.1).getD (y.2.2.2.1-1).toNat default)≤((y.2.2.2.2.1).getD (y.2.2.2.1+1).toNat default))) (fun y=>y.2.2.2.1.toNat)
    ⟨rfl,rfl,rfl,by simp;omega,by simp,h6,fun q g1 g2 g3=>h7 q g1 (by dsimp only at g3;omega),fun g1 g2=>by dsimp only at g2;omega⟩ ?_
  rintro⟨(a'':Int),(b'':Int),(i':Int),(j:Int),(e':List Int),⟨⟩⟩ hI
  dsimp only at hI ⊢
  obtain⟨rfl,rfl,rfl,h10,h11,h12,h13,h14⟩:=hI
  have hle':=h12.length_eq
  simp (disch:=omega) only [RR,List.length_set,hp,hf]
  repeat' (refine And.intro ?_ ?_)
  all_goals try omega
  · intro ⟨g1,g2⟩
    have at2:∀k,0≤k→(((e'.set j.toNat ((e').getD (j-1).toNat default)).set (j-1).toNat ((e').getD (j).toNat default)).getD (k).toNat default)=if k=j-1 then((e').getD (j).toNat default)else if k=j then((e').getD (j-1).toNat default)else((e').getD (k).toNat default):=fun k hk=>by
      rw [VH (by omega) (by simp;omega) hk,VH (by omega) (by omega) hk]
    repeat' (refine And.intro ?_ ?_)
    all_goals try omega
    · exact(XI (by omega) (by omega) (by omega) (by omega) (by omega)).trans h12
    · intro q k1 k2 k3
      rw [at2 _ (by omega),at2 _ (by omega)]
      by_cases c1:q=j
      · subst c1;rw [if_pos rfl,if_neg (by omega),if_pos rfl];omega
      · rw [if_neg (by omega)]
        by_cases c2:q=j+1
        · subst c2
          rw [if_pos (by omega),if_neg (by omega),if_neg (by omega)]
          exact h14 (by omega) (by omega)
        · rw [if_neg (by omega),if_neg (by omega),if_neg (by omega)]
          exact h13 q k1 k2 c1
    · intro k1 k2
      rw [at2 _ (by omega),at2 _ (by omega),if_neg (by omega),if_neg (by omega),if_neg (by omega),if_pos (by omega)]
      have:=h13 (j-1) (by omega) (by omega) (by omega)
      exact this
  · intro g
    refine⟨⟨by omega,by omega,h12,fun q k1 k2=> ?_⟩,by omega⟩
    by_cases c:q=j
    · subst c
      rw [Bool.and_eq_false_iff,decide_eq_false_iff_not,decide_eq_false_iff_not]at g
      omega
    · exact h13 q k1 (by omega) c
theorem aaW {p:Int×Int×Unit→Bool} {f:Int×Int×Unit→Bool×Unit}
    {p1:Int×Int×List Int×Unit→Bool} {f1:Int×Int×List Int×Unit→List Int×Unit} (hp1:∀(a b:Int) (d:List Int),d.length<1000000000→a=0→b=d.length→p1 (a,b,d,())=true) (hf1:∀(a b:Int) (d:List Int),d.length<1000000000→a=0→b=d.length→(f1 (a,b,d,())).1=mQ d)
    (p2 p3 f2 f3 p4 f4 p5 f5 p6 f6 p7 f7 p8 f8 p9 f9) (a b k:Int) (d:List Int) (hd:d.length≤12) (h1:a=0) (h2:b=d.length):
    I9 (std 0) p f p1 f1 p2 f2 p3 f3 p4 f4 p5 f5 p6 f6 p7 f7 p8 f8 p9 f9 (a,b,k,d,()) (fun y=>y.1=mQ d):=by
  subst h1
  dsimp only [I9,Alg.cl,Alg.bd,Alg.l1,Tup.q,Tup.o]
  simp (disch:=omega) only [RR]
  refine aA (fun(y:Int×Int×Int×Bool×Bool×List Int×Unit)=>y.1=0∧y.2.1=b∧y.2.2.2.2.2.1=d) (fun y=>0) ⟨rfl,rfl,rfl⟩ ?_
  rintro⟨(a':Int),(b':Int),(k':Int),(u:Bool),(v:Bool),(e:List Int),⟨⟩⟩ hI
  dsimp only at hI ⊢
  obtain⟨rfl,rfl,rfl⟩:=hI
  simp (disch:=omega) only [RR]
  exact⟨fun _=>⟨hp1 0 b' e (by omega) rfl h2,hf1 0 b' e (by omega) rfl h2⟩,fun h=>absurd h (by omega)⟩
theorem aaX {p1:Int×Int×Int×List Int×Unit→Bool} {f1:Int×Int×Int×List Int×Unit→List Int×Unit} (hp1:∀(a b k:Int) (d:List Int),d.length≤12→a=0→b=d.length→p1 (a,b,k,d,())=true) (hf1:∀(a b k:Int) (d:List Int),d.length≤12→a=0→b=d.length→(f1 (a,b,k,d,())).1=mQ d)
    {p2:Int×Unit→Bool} {f2:Int×Unit→Int×Unit} (hp2:∀n,0≤n→n≤18446744073709551615→p2 (n,())=true) (a:List Int) (ha:a.length≤8):
    Ja (std 0) p1 f1 p2 f2 (a,()) (fun y=>y=(mQ a,())):=by
  dsimp only [Ja,Alg.cl,Alg.bd,Alg.l1,Tup.q,Tup.o]
  have e:IntKind.u64.wrap (a.length:Int)=(a.length:Int):=IntWalk.u64_in _ (by omega)
  refine⟨?_,hp1 _ _ _ _ (by omega) rfl rfl,by rw [hf1 _ _ _ _ (by omega) rfl rfl]⟩
  rw [e];exact hp2 _ (by omega) (by omega)
end Go.TX.F
namespace Go.TX.F
open Go Go.AE Go.TX
def wOK (l:List Int):Prop:=∀z∈l,0≤z∧z≤65535
theorem wOK.at {l:List Int} (h:wOK l) (n:Nat):0≤l.getD n default∧l.getD n default≤65535:=by
  by_cases hn:n<l.length
  · rw [getD_lt hn];exact h _ (List.getElem_mem _)
  · rw [List.getD,List.getElem?_eq_none (by omega)];decide
theorem wOK.snoc {l:List Int} (h:wOK l) {x:Int} (hx:0≤x∧x≤65535):wOK (l++ [x]):=fun z hz=>by
  rw [List.mem_append,List.mem_singleton]at hz
  rcases hz with hz | rfl
  · exact h z hz
  · exact hx
end Go.TX.F
namespace Go.TX.F
open Go Go.AE Go.TX
def ins (c:Int) (at_:List Int):List aj→List aj
  | []=>if c%65536=0 then []else [⟨c%65536,at_⟩]
  | m::o=>if dO at_ m.atoms<0 then(if c%65536=0 then m::o else⟨c%65536,at_⟩::m::o)
    else if at_=m.atoms then(if(c+m.bK)%65536=0 then o else⟨(c+m.bK)%65536,at_⟩::o)else m::ins c at_ o
theorem aaY {op:Int} (hop:1≤op∧op≤5) {x y:List aj} (hx:aN x) (hy:aN y):aN (jv op x y).1:=by
  unfold jv
  split
  · exact Mv _ _
  · split
    · exact Mv _ _
    · split
      · exact VE _ _
      · unfold Jk
        repeat' split
        all_goals first | exact kD _ | exact eH | assumption
end Go.TX.F
namespace Go.TX.F
open Go Go.AE Go.TX
end Go.TX.F
namespace Go.TX.F
open Go Go.AE Go.TX
@[reducible] def hX (o : IOp) : Prop := o.kind ≠ 1 ∧ o.kind ≠ 2 ∧ o.kind ≠ 6
@[reducible] def hY (o : IOp) : Prop := o.kind = 3 ∨ o.kind = 5
@[reducible] def mkV (o : IOp) : Prop := (1 ≤ o.kind ∧ o.kind ≤ 4) ∨ o.kind = 6
@[reducible] def evO (o : IOp) : Prop := 4 ≤ o.kind ∧ o.kind ≤ 7
def Vl (ops:List IOp) (x n:Int):Prop:=0≤x∧x<n∧mkV ((ops).getD (x).toNat default)
structure Mw (ops:List IOp) (len i:Int) (o:IOp):Prop where
  kd:1≤o.kind∧o.kind≤8
  x1:hX o→Vl ops o.x i
  x0:¬hX o→o.x=0
  y1:hY o→Vl ops o.y i
  y0:¬hY o→o.y=0
  k1:o.kind=1→0≤o.k∧o.k≤65535
  k2:o.kind=2∨o.kind=8→0≤o.k∧o.k≤3
  k3:o.kind=3→1≤o.k∧o.k≤5
  k0:4≤o.kind→o.kind≤7→o.k=0
  a1:evO o→0≤o.at_∧o.at_<len
  a0:¬evO o→o.at_=0
structure AB (b:Blk):Prop where
  f:1≤b.fin∧b.fin≤4
  x1:b.fin≠1→Vl b.ops b.x b.ops.length
  x0:b.fin=1→b.x=0
  y1:3≤b.fin→Vl b.ops b.y b.ops.length
  y0:b.fin≤2→b.y=0
  k1:b.fin≠2→0≤b.k∧b.k≤65535
  k0:b.fin=2→b.k=0
structure jy (b:Blk):Prop where
  ln:1≤b.len∧b.len≤8
  pc:0≤b.pc∧b.pc≤64-b.len
  sz:b.ops.length≤48
  op:∀i:Int,0≤i→i<b.ops.length→Mw b.ops b.len i ((b.ops).getD (i).toNat default)
  en:AB b
structure SS where
  t:List Atom
  regs:List (List aj)
  vals:List (List aj)
  ld:Int
  inn:Int
  evs:List Ev
def xOf (s:SS) (o:IOp):List aj:=if hX o then((s.vals).getD (o.x).toNat default)else []
def yOf (s:SS) (o:IOp):List aj:=if hY o then((s.vals).getD (o.y).toNat default)else []
def aOf (s:SS) (o:IOp):Atom:=if o.kind=4 then⟨2,s.ld,[],[]⟩else⟨3,s.inn,[],[]⟩
noncomputable def nT (s:SS) (o:IOp):List Atom:=if o.kind=3 then(tDo s.t o.k (xOf s o) (yOf s o)).1 else if o.kind=4∨o.kind=6 then(bD s.t (aOf s o)).1 else s.t
noncomputable def nV (s:SS) (o:IOp):List aj:=if o.kind=1 then dJ o.k else if o.kind=2 then((s.regs).getD (o.k).toNat default)else if o.kind=3 then(tDo s.t o.k (xOf s o) (yOf s o)).2 else if o.kind=4∨o.kind=6 then fG (bD s.t (aOf s o)).2 else []
def nR (s:SS) (o:IOp):List (List aj):=if o.kind=8 then s.regs.set o.k.toNat (xOf s o)else s.regs
def nE (s:SS) (o:IOp):List Ev:=if evO o then s.evs++ [⟨o.kind,o.at_,xOf s o,yOf s o,if o.kind=4∨o.kind=5 then s.regs else []⟩]else s.evs
noncomputable def stp (s:SS) (o:IOp):SS:=⟨nT s o,nR s o,s.vals++ [nV s o],if o.kind=4 then s.ld+1 else s.ld,if o.kind=6 then s.inn+1 else s.inn,nE s o⟩
noncomputable def rN (t:List Atom):Nat→List Atom×List (List aj)
  | 0=>(t,[])
  | n+1=>((bD (rN t n).1 ⟨1,n,[],[]⟩).1,(rN t n).2++ [fG (bD (rN t n).1 ⟨1,n,[],[]⟩).2])
noncomputable def s0 (t:List Atom):SS:=⟨(rN t 4).1,(rN t 4).2,[],0,0,[]⟩
noncomputable def mh (t:List Atom) (b:Blk):SS:=b.ops.foldl stp (s0 t)
def JA (b:Blk) (s:SS):Sym:=⟨s.evs,s.regs,b.fin,if b.fin=1 then []else((s.vals).getD (b.x).toNat default),if 3≤b.fin then((s.vals).getD (b.y).toNat default)else [],b.k⟩
def apq:Sym:=⟨[],[],0,[],[],0⟩
noncomputable def symEnd (s:Sym) (behind:Int):Sym:=
  if bp (aN s.x∧aN s.y)=false then apq
  else if s.fin=2∧(dQ s.x).2=true then⟨s.events,s.regs,1,[],[],(dQ s.x).1⟩
  else if s.fin≠3∧s.fin≠4 then s
  else if s.x=s.y∨(dQ s.x).2=true∧(dQ s.y).2=true then
    ⟨s.events,s.regs,1,[],[],if s.x=s.y∧s.fin=3∨((dQ s.x).2=true∧(dQ s.y).2=true)∧(s.fin=3∧(dQ s.x).1=(dQ s.y).1∨s.fin=4∧(dQ s.x).1< (dQ s.y).1)then s.k else behind⟩
  else if s.fin=3∧0<gW s.x s.y then⟨s.events,s.regs,s.fin,s.y,s.x,s.k⟩else s
noncomputable def bX (t:List Atom) (b:Blk):List Atom×Sym:=if bp (aI t∧t.length≤100∧jy b)=true then((mh t b).t,symEnd (JA b (mh t b)) (b.pc+b.len))else([],apq)
theorem wR (t:List Atom) (a:Atom):t<+:(bD t a).1:=by
  unfold bD
  split
  · exact List.prefix_refl _
  · split
    · exact List.prefix_refl _
    · exact List.prefix_append _ _
theorem Ep {α:Type} {a b:List α} (h:a<+:b):a.length≤b.length:=h.length_le
theorem alN {α:Type} {d:α} {a b:List α} (h:a<+:b) {i:Int} (h1:i.toNat<a.length):b.getD i.toNat d=a.getD i.toNat d:=by
  obtain⟨c,rfl⟩:=h
  rw [getD_lt h1,getD_lt (by rw [List.length_append];omega),List.getElem_append_left h1]
theorem xJ {t:List Atom} {a:Atom} (h:0≤(bD t a).2):(bD t a).2< (bD t a).1.length∧(((bD t a).1).getD ((bD t a).2).toNat default)=a:=by
  have hsp:=l9 t a
  revert h
  unfold bD
  split
  · intro h
    rcases hsp with⟨h1,_⟩ | ⟨_,h2,h3,_⟩
    · exact absurd h (by dsimp only;omega)
    · exact⟨h2,h3.symm⟩
  · split
    · intro h;exact absurd h (by dsimp only;omega)
    · intro _
      dsimp only
      refine⟨by rw [List.length_append];simp only [List.length_cons,List.length_nil];omega,?_⟩
      rw [getD_lt (by rw [List.length_append];simp only [List.length_cons,List.length_nil];omega)]
      simp
theorem Tn {u:List Atom} {a:Atom} (hu:aI u) {k:Int} (h0:0≤k) (h1:k<u.length) (h2:((u).getD (k).toNat default)=a):bD u a=(u,k):=by
  have hf:sZ u a=k:=by
    refine(l9 u a).uniq (Or.inr ⟨h0,h1,h2.symm,fun j j1 j2=> ?_⟩)
    have:=(mg.1 hu).1 k h0 h1
    have g:=this.2 j j1 j2
    dsimp only at g ⊢
    rw [h2]at g;exact g
  unfold bD
  rw [hf,if_pos h0]
theorem AJ {t u:List Atom} {a:Atom} (hu:aI u) (h:0≤(bD t a).2) (hp:(bD t a).1<+:u):bD u a=(u,(bD t a).2):=by
  obtain⟨g1,g2⟩:=xJ h
  have:=Ep hp
  exact Tn hu h (by omega) (by rw [alN hp (by omega),g2])
theorem QN {op n:Int} {x y:List aj} (ux:aR x n) (uy:aR y n):aR (jv op x y).1 n:=by
  unfold jv
  split
  · exact zo ux uy
  · split
    · refine zo ux ?_
      unfold jr
      split
      · exact zq uy (mR _ _)
      · exact jE _
    · split
      · exact zq ux uy
      · unfold Jk
        repeat' split
        all_goals first | exact ux | exact uy | exact jE _ | exact mR _ _
structure alO (t:List Atom) (op:Int) (x y:List aj):Prop where
  tok:aI (tDo t op x y).1
  pre:t<+:(tDo t op x y).1
  len:(tDo t op x y).1.length≤t.length+1
  pok:aN (tDo t op x y).2
  und:aR (tDo t op x y).2 (tDo t op x y).1.length
  ok:tOk t op x y=true
theorem ae2 {t:List Atom} {op:Int} {x y:List aj} (h:aI t) (h2:t.length<200) (h3:1≤op∧op≤5) (hx:aN x) (hy:aN y) (ux:aR x t.length) (uy:aR y t.length):alO t op x y:=by
  by_cases c:(jv op x y).2=true
  · have e:tDo t op x y=(t,(jv op x y).1):=by unfold tDo;rw [if_pos c]
    refine⟨?_,?_,?_,?_,?_,by unfold tOk;rw [c];rfl⟩<;>rw [e]
    · exact h
    · exact List.prefix_refl _
    · exact Nat.le_succ _
    · exact aaY h3 hx hy
    · exact QN ux uy
  · have key:∀x' y',aN x'→aN y'→aR x' t.length→aR y' t.length→0≤(bD t ⟨4,op,x',y'⟩).2∧aI (bD t ⟨4,op,x',y'⟩).1∧(bD t ⟨4,op,x',y'⟩).1.length≤t.length+1:=fun x' y' a1 a2 a3 a4=>by
      have p1:=vw (a:=⟨4,op,x',y'⟩) h h2
      have q1:=p1.2.2.2 (by unfold fO;rw [if_pos rfl];exact⟨h3,a1,a2,a3,a4⟩)
      exact⟨q1,p1.1,p1.2.2.1⟩
    by_cases c2:op≠2∧0<gW x y
    · obtain⟨k1,k2,k3⟩:=key y x hy hx uy ux
      have e:tDo t op x y=((bD t ⟨4,op,y,x⟩).1,fG (bD t ⟨4,op,y,x⟩).2):=by unfold tDo;rw [if_neg c,if_pos c2,if_neg (by omega)]
      refine⟨?_,?_,?_,?_,?_,by unfold tOk;rw [if_pos c2,decide_eq_false (by omega),Bool.not_false,Bool.or_true]⟩<;>rw [e]
      · exact k2
      · exact wR _ _
      · exact k3
      · exact oq _
      · exact ou (xJ k1).1
    · obtain⟨k1,k2,k3⟩:=key x y hx hy ux uy
      have e:tDo t op x y=((bD t ⟨4,op,x,y⟩).1,fG (bD t ⟨4,op,x,y⟩).2):=by unfold tDo;rw [if_neg c,if_neg c2,if_neg (by omega)]
      refine⟨?_,?_,?_,?_,?_,by unfold tOk;rw [if_neg c2,decide_eq_false (by omega),Bool.not_false,Bool.or_true]⟩<;>rw [e]
      · exact k2
      · exact wR _ _
      · exact k3
      · exact oq _
      · exact ou (xJ k1).1
theorem aaZ {t u:List Atom} {op:Int} {x y:List aj} (hu:aI u) (h:tOk t op x y=true) (hp:(tDo t op x y).1<+:u):tDo u op x y=(u,(tDo t op x y).2):=by
  by_cases c:(jv op x y).2=true
  · unfold tDo;rw [if_pos c,if_pos c]
  · by_cases c2:op≠2∧0<gW x y
    · have k1:0≤(bD t ⟨4,op,y,x⟩).2:=by
        unfold tOk at h;rw [if_pos c2,Bool.or_eq_true,Bool.not_eq_true',decide_eq_false_iff_not]at h;have:=h.resolve_left c;omega
      have e:tDo t op x y=((bD t ⟨4,op,y,x⟩).1,fG (bD t ⟨4,op,y,x⟩).2):=by unfold tDo;rw [if_neg c,if_pos c2,if_neg (by omega)]
      rw [e]at hp ⊢
      have:=AJ hu k1 hp
      unfold tDo;rw [if_neg c,if_pos c2,this,if_neg (by dsimp only;omega)]
    · have k1:0≤(bD t ⟨4,op,x,y⟩).2:=by
        unfold tOk at h;rw [if_neg c2,Bool.or_eq_true,Bool.not_eq_true',decide_eq_false_iff_not]at h;have:=h.resolve_left c;omega
      have e:tDo t op x y=((bD t ⟨4,op,x,y⟩).1,fG (bD t ⟨4,op,x,y⟩).2):=by unfold tDo;rw [if_neg c,if_neg c2,if_neg (by omega)]
      rw [e]at hp ⊢
      have:=AJ hu k1 hp
      unfold tDo;rw [if_neg c,if_neg c2,this,if_neg (by dsimp only;omega)]
end Go.TX.F
namespace Go.TX.F
open Go Go.AE Go.TX
structure SI (n:Int) (i:Nat) (s:SS):Prop where
  tok:aI s.t
  tl:(s.t.length:Int)≤n+i
  r4:s.regs.length=4
  rok:∀p∈s.regs,aN p∧aR p s.t.length
  vl:s.vals.length=i
  vok:∀p∈s.vals,aN p∧aR p s.t.length
  ld:0≤s.ld∧s.ld≤i
  inn:0≤s.inn∧s.inn≤i
theorem Jr {l:List (List aj)} {n:Int} (h:∀p∈l,aN p∧aR p n) (i:Int):aN ((l).getD (i).toNat default)∧aR ((l).getD (i).toNat default) n:=by
  by_cases c:i.toNat<l.length
  · rw [getD_lt c];exact h _ (List.getElem_mem _)
  · rw [List.getD_eq_getElem?_getD,List.getElem?_eq_none (by omega)];exact⟨eH,jE _⟩
theorem SI.x {n:Int} {i:Nat} {s:SS} (h:SI n i s) (o:IOp):aN (xOf s o)∧aR (xOf s o) s.t.length:=by
  unfold xOf;split
  · exact Jr h.vok _
  · exact⟨eH,jE _⟩
theorem SI.y {n:Int} {i:Nat} {s:SS} (h:SI n i s) (o:IOp):aN (yOf s o)∧aR (yOf s o) s.t.length:=by
  unfold yOf;split
  · exact Jr h.vok _
  · exact⟨eH,jE _⟩
theorem ae3 {n:Int} {i:Nat} {s:SS} (h:SI n i s) (hi:i<200) (o:IOp) (m:Int):fO (aOf s o) m:=by
  have h1:=h.ld
  have h2:=h.inn
  unfold aOf
  split
  · unfold fO;rw [if_neg (by simp)];exact⟨⟨rfl,rfl⟩,Or.inr ⟨Or.inl rfl,by dsimp only;omega,by dsimp only;omega⟩⟩
  · unfold fO;rw [if_neg (by simp)];exact⟨⟨rfl,rfl⟩,Or.inr ⟨Or.inr rfl,by dsimp only;omega,by dsimp only;omega⟩⟩
structure SOK (s:SS) (o:IOp):Prop where
  pre:s.t<+:(stp s o).t
  d:o.kind=3→alO s.t o.k (xOf s o) (yOf s o)
  p:o.kind=4∨o.kind=6→0≤(bD s.t (aOf s o)).2
theorem Mx {n:Int} {i:Nat} {s:SS} {o:IOp} (h:SI n i s) (hk:o.kind=3→1≤o.k∧o.k≤5) (hn:n+i<200) (hi:i<200):SI n (i+1) (stp s o)∧SOK s o:=by
  have hl:=h.tl
  have tl:s.t.length<200:=by omega
  have hd:o.kind=3→alO s.t o.k (xOf s o) (yOf s o):=fun e=>ae2 h.tok tl (hk e) (h.x o).1 (h.y o).1 (h.x o).2 (h.y o).2
  have hput:=vw (a:=aOf s o) h.tok tl
  have hp:=hput.2.2.2 (ae3 h hi o _)
  have T:aI (nT s o)∧(nT s o).length≤s.t.length+1∧s.t<+:nT s o:=by
    unfold nT
    split
    · rename_i e;have:=hd e;exact⟨this.tok,this.len,this.pre⟩
    · split
      · exact⟨hput.1,hput.2.2.1,wR _ _⟩
      · exact⟨h.tok,Nat.le_succ _,List.prefix_refl _⟩
  have up:∀ {p:List aj},aN p∧aR p s.t.length→aN p∧aR p (nT s o).length:=fun hp=>⟨hp.1,xI hp.2 (by have:=Ep T.2.2;omega)⟩
  have V:aN (nV s o)∧aR (nV s o) (nT s o).length:=by
    unfold nV
    split
    · exact⟨kD _,mR _ _⟩
    · split
      · exact up (Jr h.rok _)
      · split
        · rename_i e
          have:=hd e
          refine⟨this.pok,?_⟩
          have e2:nT s o=(tDo s.t o.k (xOf s o) (yOf s o)).1:=by unfold nT;rw [if_pos e]
          rw [e2];exact this.und
        · split
          · rename_i e1 e2
            have e3:nT s o=(bD s.t (aOf s o)).1:=by unfold nT;rw [if_neg (by omega),if_pos e2]
            rw [e3]
            exact⟨oq _,ou (xJ hp).1⟩
          · exact⟨eH,jE _⟩
  have g1:=h.ld
  have g2:=h.inn
  refine⟨⟨T.1,?_,?_,?_,?_,?_,?_,?_⟩,⟨T.2.2,hd,fun _=>hp⟩⟩
  · have:=T.2.1;show((nT s o).length:Int)≤_;omega
  · show(nR s o).length=4
    unfold nR;split
    · rw [List.length_set];exact h.r4
    · exact h.r4
  · show∀p∈nR s o,_
    intro p hp
    unfold nR at hp;split at hp
    · rcases List.mem_or_eq_of_mem_set hp with hp | rfl
      · exact up (h.rok p hp)
      · exact up (h.x o)
    · exact up (h.rok p hp)
  · show(s.vals++ [nV s o]).length=i+1
    rw [List.length_append,h.vl];rfl
  · show∀p∈s.vals++ [nV s o],_
    intro p hp
    rw [List.mem_append,List.mem_singleton]at hp
    rcases hp with hp | rfl
    · exact up (h.vok p hp)
    · exact V
  · show 0≤(if o.kind=4 then s.ld+1 else s.ld)∧(if o.kind=4 then s.ld+1 else s.ld)≤_
    split<;>omega
  · show 0≤(if o.kind=6 then s.inn+1 else s.inn)∧(if o.kind=6 then s.inn+1 else s.inn)≤_
    split<;>omega
theorem Dl {n:Int}:∀(ops:List IOp) (i:Nat) (s:SS),SI n i s→(∀o∈ops,o.kind=3→1≤o.k∧o.k≤5)→n+i+ops.length≤200→i+ops.length≤200→SI n (i+ops.length) (ops.foldl stp s)∧s.t<+:(ops.foldl stp s).t
  | [],i,s,h,_,_,_=>⟨h,List.prefix_refl _⟩
  | o::r,i,s,h,hk,h1,h2=>by
    rw [List.length_cons]at h1 h2
    obtain⟨a1,a2⟩:=Mx h (hk o List.mem_cons_self) (by omega) (by omega)
    obtain⟨b1,b2⟩:=Dl r (i+1) (stp s o) a1 (fun o ho=>hk o (List.mem_cons_of_mem _ ho)) (by omega) (by omega)
    rw [List.foldl_cons,List.length_cons,show i+(r.length+1)=i+1+r.length by omega]
    exact⟨b1,a2.pre.trans b2⟩
structure RI (t:List Atom) (n:Nat) (r:List Atom×List (List aj)):Prop where
  tok:aI r.1
  tl:r.1.length≤t.length+n
  pre:t<+:r.1
  r4:r.2.length=n
  rok:∀p∈r.2,aN p∧aR p r.1.length
theorem KO {t:List Atom} (h:aI t) (hl:t.length≤196):∀n:Nat,n≤4→RI t n (rN t n)
  | 0,_=>⟨h,Nat.le_refl _,List.prefix_refl _,rfl,fun p hp=>absurd hp (by simp [rN])⟩
  | n+1,hn=>by
    have ih:=KO h hl n (by omega)
    have l:=ih.tl
    have hp:=vw (a:=⟨1,n,[],[]⟩) ih.tok (by omega)
    have h0:=hp.2.2.2 (by unfold fO;rw [if_neg (by simp)];exact⟨⟨rfl,rfl⟩,Or.inl ⟨rfl,by dsimp only;omega,by dsimp only;omega⟩⟩)
    have pr:=wR (rN t n).1 ⟨1,n,[],[]⟩
    unfold rN
    refine⟨hp.1,?_,ih.pre.trans pr,?_,fun p h=> ?_⟩
    · have:=hp.2.2.1;dsimp only;omega
    · dsimp only;rw [List.length_append,ih.r4];rfl
    · dsimp only at h ⊢
      rw [List.mem_append,List.mem_singleton]at h
      rcases h with h | rfl
      · have:=ih.rok p h;exact⟨this.1,xI this.2 (by have:=Ep pr;omega)⟩
      · exact⟨oq _,ou (xJ h0).1⟩
theorem MB {t:List Atom} (h:aI t) (hl:t.length≤196) {n:Nat} (hn:n<4):0≤(bD (rN t n).1 ⟨1,n,[],[]⟩).2:=by
  have ih:=KO h hl n (by omega)
  have l:=ih.tl
  exact(vw (a:=⟨1,n,[],[]⟩) ih.tok (by omega)).2.2.2 (by unfold fO;rw [if_neg (by simp)];exact⟨⟨rfl,rfl⟩,Or.inl ⟨rfl,by dsimp only;omega,by dsimp only;omega⟩⟩)
theorem QO {t:List Atom} (h:aI t) (hl:t.length≤196):SI (t.length+4) 0 (s0 t):=by
  have:=KO h hl 4 (by omega)
  have l:=this.tl
  exact⟨this.tok,by show((rN t 4).1.length:Int)≤_;omega,this.r4,this.rok,rfl,fun p hp=>absurd hp (by simp [s0]),by simp [s0],by simp [s0]⟩
theorem jy.k3 {b:Blk} (h:jy b):∀o∈b.ops,o.kind=3→1≤o.k∧o.k≤5:=fun o ho=>by
  obtain⟨i,hi,rfl⟩:=List.getElem_of_mem ho
  have:=(h.op i (by omega) (by omega)).k3
  rw [show(i:Int).toNat=i from rfl,getD_lt hi]at this
  exact this
theorem VI {t:List Atom} {b:Blk} (h:aI t) (hl:t.length≤100) (hb:jy b):SI (t.length+4) b.ops.length (mh t b)∧t<+:(mh t b).t:=by
  have sz:=hb.sz
  obtain⟨h1,h2⟩:=Dl b.ops 0 (s0 t) (QO h (by omega)) hb.k3 (by omega) (by omega)
  rw [Nat.zero_add]at h1
  exact⟨h1,(KO h (by omega) 4 (by omega)).pre.trans h2⟩
def SS.on (s:SS) (u:List Atom):SS:=⟨u,s.regs,s.vals,s.ld,s.inn,s.evs⟩
theorem alP {s:SS} {o:IOp} {u:List Atom} (hu:aI u) (h:SOK s o) (hp:(stp s o).t<+:u):stp (s.on u) o=(stp s o).on u:=by
  have hp:nT s o<+:u:=hp
  have ex:xOf (s.on u) o=xOf s o:=rfl
  have ey:yOf (s.on u) o=yOf s o:=rfl
  have ea:aOf (s.on u) o=aOf s o:=rfl
  have eT:nT (s.on u) o=u:=by
    unfold nT
    split
    · rename_i e
      rw [ex,ey]
      have h3:=(h.d e).ok
      unfold nT at hp;rw [if_pos e]at hp
      rw [show(s.on u).t=u from rfl,aaZ hu h3 hp]
    · split
      · rename_i e1 e2
        unfold nT at hp;rw [if_neg e1,if_pos e2]at hp
        rw [ea,show(s.on u).t=u from rfl,AJ hu (h.p e2) hp]
      · rfl
  have eV:nV (s.on u) o=nV s o:=by
    unfold nV
    split
    · rfl
    · split
      · rfl
      · split
        · rename_i e
          rw [ex,ey]
          have h3:=(h.d e).ok
          unfold nT at hp;rw [if_pos e]at hp
          rw [show(s.on u).t=u from rfl,aaZ hu h3 hp]
        · split
          · rename_i e1 e2
            unfold nT at hp;rw [if_neg e1,if_pos e2]at hp
            rw [ea,show(s.on u).t=u from rfl,AJ hu (h.p e2) hp]
          · rfl
  show SS.mk (nT (s.on u) o) (nR (s.on u) o) ((s.on u).vals++ [nV (s.on u) o]) _ _ (nE (s.on u) o)=SS.mk u (nR s o) (s.vals++ [nV s o]) _ _ (nE s o)
  rw [eT,eV];rfl
theorem aa0 {n:Int} {u:List Atom} (hu:aI u):∀(ops:List IOp) (i:Nat) (s:SS),SI n i s→(∀o∈ops,o.kind=3→1≤o.k∧o.k≤5)→n+i+ops.length≤200→i+ops.length≤200→(ops.foldl stp s).t<+:u→ops.foldl stp (s.on u)=(ops.foldl stp s).on u
  | [],i,s,h,_,_,_,_=>rfl
  | o::r,i,s,h,hk,h1,h2,hp=>by
    rw [List.length_cons]at h1 h2
    obtain⟨a1,a2⟩:=Mx h (hk o List.mem_cons_self) (by omega) (by omega)
    rw [List.foldl_cons]at hp
    obtain⟨_,b2⟩:=Dl r (i+1) (stp s o) a1 (fun o ho=>hk o (List.mem_cons_of_mem _ ho)) (by omega) (by omega)
    rw [List.foldl_cons,List.foldl_cons,alP hu a2 (b2.trans hp)]
    exact aa0 hu r (i+1) (stp s o) a1 (fun o ho=>hk o (List.mem_cons_of_mem _ ho)) (by omega) (by omega) hp
theorem agh {t u:List Atom} (h:aI t) (hl:t.length≤196) (hu:aI u):∀n:Nat,n≤4→(rN t n).1<+:u→rN u n=(u,(rN t n).2)
  | 0,_,_=>rfl
  | n+1,hn,hp=>by
    have h0:=MB h hl (n:=n) (by omega)
    have pr:=wR (rN t n).1 ⟨1,n,[],[]⟩
    have hp':(bD (rN t n).1 ⟨1,n,[],[]⟩).1<+:u:=hp
    have ih:=agh h hl hu n (by omega) (pr.trans hp')
    show((bD (rN u n).1 ⟨1,n,[],[]⟩).1,(rN u n).2++ [fG (bD (rN u n).1 ⟨1,n,[],[]⟩).2])=(u,(rN t n).2++ [fG (bD (rN t n).1 ⟨1,n,[],[]⟩).2])
    rw [ih]
    dsimp only
    rw [AJ hu h0 hp']
theorem ae4 {t u:List Atom} {b:Blk} (h:aI t) (hl:t.length≤100) (hb:jy b) (hu:aI u) (hp:(mh t b).t<+:u):mh u b=(mh t b).on u:=by
  have sz:=hb.sz
  have i0:=QO h (by omega)
  obtain⟨_,h2⟩:=Dl b.ops 0 (s0 t) i0 hb.k3 (by omega) (by omega)
  have e:s0 u=(s0 t).on u:=by
    unfold s0 SS.on
    rw [agh h (by omega) hu 4 (by omega) (h2.trans hp)]
  unfold mh at hp ⊢
  rw [e]
  exact aa0 hu b.ops 0 (s0 t) i0 hb.k3 (by omega) (by omega) hp
theorem zu {t:List Atom} {b:Blk} (h:aI t) (hl:t.length≤100) (hb:jy b):bX t b=((mh t b).t,symEnd (JA b (mh t b)) (b.pc+b.len)):=by
  unfold bX;rw [if_pos (fJ ⟨h,hl,hb⟩)]
theorem XJ {t u:List Atom} {b:Blk} (h:aI t) (hl:t.length≤100) (hb:jy b) (hu:aI u) (hlu:u.length≤100) (hp:(bX t b).1<+:u):bX u b=(u,(bX t b).2):=by
  rw [zu h hl hb]at hp ⊢
  rw [zu hu hlu hb,ae4 h hl hb hu hp]
  rfl
theorem KP {t:List Atom} {b:Blk} (h:aI t) (hl:t.length≤100) (hb:jy b):aI (bX t b).1∧t<+:(bX t b).1∧(bX t b).1.length≤t.length+b.ops.length+4:=by
  unfold bX
  rw [if_pos (fJ ⟨h,hl,hb⟩)]
  obtain⟨h1,h2⟩:=VI h hl hb
  have:=h1.tl
  exact⟨h1.tok,h2,by dsimp only;omega⟩
end Go.TX.F
namespace Go.TX.F
open Go Go.AE Go.TX
def ShP (l:List (List aj)):Prop:=l.length<1000000000∧∀p∈l,Sh p
def ShE (e:Ev):Prop:=Sh e.x∧Sh e.y∧ShP e.regs
def alQ (l:List Ev):Prop:=l.length<1000000000∧∀e∈l,ShE e
structure ShY (s:Sym):Prop where
  e:alQ s.events
  r:ShP s.regs
  x:Sh s.x
  y:Sh s.y
theorem ShP.at {l:List (List aj)} (h:ShP l) (n:Nat):Sh (l.getD n default):=by
  by_cases c:n<l.length
  · rw [getD_lt c];exact h.2 _ (List.getElem_mem _)
  · rw [List.getD_eq_getElem?_getD,List.getElem?_eq_none (by omega)];exact jw
theorem VJ:ShP []:=⟨by simp,fun p h=>absurd h (by simp)⟩
theorem alQ.at {l:List Ev} (h:alQ l) (n:Nat):ShE (l.getD n default):=by
  by_cases c:n<l.length
  · rw [getD_lt c];exact h.2 _ (List.getElem_mem _)
  · rw [List.getD_eq_getElem?_getD,List.getElem?_eq_none (by omega)];exact⟨jw,jw,VJ⟩
theorem SI.regs {n:Int} {i:Nat} {s:SS} (h:SI n i s):ShP s.regs:=⟨by have:=h.r4;omega,fun p hp=>(h.rok p hp).1.sh⟩
theorem ae5 {n:Int} {i:Nat} {s:SS} {o:IOp} (h:SI n i s) (h2:s.evs.length≤i∧∀e∈s.evs,ShE e):(stp s o).evs.length≤i+1∧∀e∈(stp s o).evs,ShE e:=by
  show(nE s o).length≤i+1∧∀e∈nE s o,ShE e
  unfold nE
  split
  · refine⟨by rw [List.length_append];have:=h2.1;simp only [List.length_cons,List.length_nil];omega,fun e he=> ?_⟩
    rw [List.mem_append,List.mem_singleton]at he
    rcases he with he | rfl
    · exact h2.2 e he
    · refine⟨(h.x o).1.sh,(h.y o).1.sh,?_⟩
      dsimp only
      split
      · exact h.regs
      · exact VJ
  · exact⟨by have:=h2.1;omega,h2.2⟩
theorem Tp {n:Int}:∀(ops:List IOp) (i:Nat) (s:SS),SI n i s→(∀o∈ops,o.kind=3→1≤o.k∧o.k≤5)→n+i+ops.length≤200→i+ops.length≤200→(s.evs.length≤i∧∀e∈s.evs,ShE e)→(ops.foldl stp s).evs.length≤i+ops.length∧∀e∈(ops.foldl stp s).evs,ShE e
  | [],i,s,h,_,_,_,h3=>h3
  | o::r,i,s,h,hk,h1,h2,h3=>by
    rw [List.length_cons]at h1 h2
    obtain⟨a1,a2⟩:=Mx h (hk o List.mem_cons_self) (by omega) (by omega)
    have:=Tp r (i+1) (stp s o) a1 (fun o ho=>hk o (List.mem_cons_of_mem _ ho)) (by omega) (by omega) (ae5 h h3)
    rw [List.foldl_cons,List.length_cons,show i+(r.length+1)=i+1+r.length by omega]
    exact this
def evT (e:Ev):Int×Int×Nat:=(e.kind,e.at_,e.regs.length)
def opT (o:IOp):Int×Int×Nat:=(o.kind,o.at_,if o.kind=4∨o.kind=5 then 4 else 0)
def gY (ops:List IOp):List IOp:=ops.filter fun o=>decide (evO o)
theorem VK:∀(ops:List IOp) (s:SS),s.regs.length=4→(ops.foldl stp s).evs.map evT=s.evs.map evT++(gY ops).map opT
  | [],s,_=>by simp [gY]
  | o::r,s,h=>by
    have h':(stp s o).regs.length=4:=by
      show(nR s o).length=4
      unfold nR;split
      · rw [List.length_set];exact h
      · exact h
    rw [List.foldl_cons,VK r (stp s o) h']
    show(nE s o).map evT++_=_
    unfold nE gY
    by_cases c:evO o
    · have e:evT ⟨o.kind,o.at_,xOf s o,yOf s o,if o.kind=4∨o.kind=5 then s.regs else []⟩=opT o:=by
        unfold evT opT
        dsimp only
        split
        · rw [h]
        · rfl
      rw [if_pos c,List.filter_cons_of_pos (by simpa using c),List.map_append,List.append_assoc]
      refine congrArg (s.evs.map evT++ ·) ?_
      show evT _::_=opT o::_
      rw [e];rfl
    · rw [if_neg c,List.filter_cons_of_neg (by simpa using c)]
theorem VL {n:Int} {i:Nat} {s:SS} {b:Blk} (h:SI n i s):aN (JA b s).x∧aN (JA b s).y:=by
  unfold JA
  dsimp only
  constructor
  · split
    · exact eH
    · exact(Jr h.vok _).1
  · split
    · exact(Jr h.vok _).1
    · exact eH
theorem MC {s:Sym} {n:Int} (h:aN s.x∧aN s.y):(symEnd s n).events=s.events∧(symEnd s n).regs=s.regs∧aN (symEnd s n).x∧aN (symEnd s n).y:=by
  unfold symEnd
  rw [if_neg (by rw [fJ h];simp)]
  repeat' split
  all_goals first | exact⟨rfl,rfl,h⟩ | exact⟨rfl,rfl,eH,eH⟩ | exact⟨rfl,rfl,h.2,h.1⟩
structure apr (t:List Atom) (b:Blk):Prop where
  evs:(bX t b).2.events.map evT=(gY b.ops).map opT
  r4:(bX t b).2.regs.length=4
  sh:ShY (bX t b).2
  ne:0< (bX t b).1.length
theorem D5 {t:List Atom} {b:Blk} (h:aI t) (hl:t.length≤100) (hb:jy b):apr t b:=by
  have sz:=hb.sz
  have i0:=QO h (by omega)
  obtain⟨h1,h2⟩:=VI h hl hb
  have hs:=Tp b.ops 0 (s0 t) i0 hb.k3 (by omega) (by omega) ⟨by simp [s0],fun e he=>absurd he (by simp [s0])⟩
  have he:=VK b.ops (s0 t) i0.r4
  have hk:=MC (n:=b.pc+b.len) (VL (b:=b) h1)
  have e:bX t b=((mh t b).t,symEnd (JA b (mh t b)) (b.pc+b.len)):=by unfold bX;rw [if_pos (fJ ⟨h,hl,hb⟩)]
  rw [Nat.zero_add]at hs
  refine⟨?_,?_,?_,?_⟩
  · rw [e];dsimp only;rw [hk.1];show(mh t b).evs.map evT=_;unfold mh;rw [he];rfl
  · rw [e];dsimp only;rw [hk.2.1];exact h1.r4
  · rw [e]
    refine⟨?_,?_,hk.2.2.1.sh,hk.2.2.2.sh⟩
    · rw [hk.1];exact⟨by have:=hs.1;show(b.ops.foldl stp (s0 t)).evs.length<_;omega,hs.2⟩
    · rw [hk.2.1];exact h1.regs
  · rw [e]
    have r:=Dl b.ops 0 (s0 t) i0 hb.k3 (by omega) (by omega)
    have:=Ep r.2
    have p:=xJ (MB h (by omega) (n:=3) (by omega))
    have p0:=MB h (by omega) (n:=3) (by omega)
    show 0< (mh t b).t.length
    have:(s0 t).t.length=(bD (rN t 3).1 ⟨1,(3:Nat),[],[]⟩).1.length:=rfl
    unfold mh
    omega
noncomputable def t4:List Atom:=(rN [] 4).1
theorem XK:aI []:=mg.2 ⟨All.zero,by simp⟩
theorem aps:aI t4∧t4.length≤4:=by
  have:=KO XK (by simp) 4 (by omega)
  exact⟨this.tok,Nat.le_trans this.tl (by simp)⟩
noncomputable def chk (b c:Blk):Bool:=bp (jy b∧jy c∧b.pc=c.pc∧b.len=c.len∧(b=c∨(bX t4 b).2=(bX (bX t4 b).1 c).2))
structure Lk (b c:Blk):Prop where
  ob:jy b
  oc:jy c
  pc:b.pc=c.pc
  len:b.len=c.len
  run:∀u,aI u→u.length≤100→(bX u b).1=u→bX u c=bX u b
theorem Lk.refl {b:Blk} (h:jy b):Lk b b:=⟨h,h,rfl,rfl,fun _ _ _ _=>rfl⟩
theorem Lk.trans {b c d:Blk} (h:Lk b c) (g:Lk c d):Lk b d:=⟨h.ob,g.oc,h.pc.trans g.pc,h.len.trans g.len,fun u h1 h2 h3=>by
  have e:=h.run u h1 h2 h3
  rw [g.run u h1 h2 (by rw [e];exact h3),e]⟩
theorem ae6 {b:Blk} (hb:jy b):aI (bX t4 b).1∧(bX t4 b).1.length≤100∧bX (bX t4 b).1 b=bX t4 b:=by
  have h4:=aps
  have hr:=KP h4.1 (by omega) hb
  have sz:=hb.sz
  refine⟨hr.1,by omega,?_⟩
  have:=XJ h4.1 (by omega) hb hr.1 (by omega) (List.prefix_refl _)
  rw [this]
theorem Lk.chk {b c:Blk} (h:Lk b c):chk b c=true:=by
  obtain⟨h1,h2,h3⟩:=ae6 h.ob
  refine fJ ⟨h.ob,h.oc,h.pc,h.len,Or.inr ?_⟩
  rw [h.run _ h1 h2 (by rw [h3]),h3]
end Go.TX.F
namespace Go.TX.F
open Go Go.AE Go.TX
theorem Tq (f:SS→IOp→SS) (s:SS) {l:List IOp} {i:Nat} (h:i<l.length):(l.take (i+1)).foldl f s=f ((l.take i).foldl f s) l[i]:=by
  rw [List.take_succ_eq_append_getElem h,List.foldl_append];rfl
def ren (nm:List Int) (o:IOp):IOp:=⟨o.kind,if hX o then((nm).getD (o.x).toNat default)else o.x,if hY o then((nm).getD (o.y).toNat default)else o.y,o.k,o.at_⟩
def cpN (s:List Int×List Int) (i:Int) (o:IOp):Int:=if o.kind=2∧0≤((s.2).getD (o.k).toNat default)then((s.2).getD (o.k).toNat default)else i
def cpL (s:List Int×List Int) (i:Int) (o:IOp):List Int:=if o.kind=2 then(if 0≤((s.2).getD (o.k).toNat default)then s.2 else s.2.set o.k.toNat i)else if o.kind=8 then s.2.set o.k.toNat ((s.1).getD (o.x).toNat default)else s.2
def cpS (ops:List IOp):Nat→List Int×List Int
  | 0=>([],[-1, -1, -1, -1])
  | i+1=>((cpS ops i).1++ [cpN (cpS ops i) i (ops.getD i default)],cpL (cpS ops i) i (ops.getD i default))
structure CI (ops:List IOp) (i:Nat) (s:SS):Prop where
  nm:∀j:Int,0≤j→j<i→(0≤(((cpS ops i).1).getD (j).toNat default)∧(((cpS ops i).1).getD (j).toNat default)≤j)∧((s.vals).getD ((((cpS ops i).1).getD (j).toNat default)).toNat default)=((s.vals).getD (j).toNat default)∧(mkV ((ops).getD (j).toNat default)→mkV ((ops).getD ((((cpS ops i).1).getD (j).toNat default)).toNat default))
  la:∀r:Int,0≤r→r≤3→0≤(((cpS ops i).2).getD (r).toNat default)→(((cpS ops i).2).getD (r).toNat default)<i∧((s.vals).getD ((((cpS ops i).2).getD (r).toNat default)).toNat default)=((s.regs).getD (r).toNat default)∧mkV ((ops).getD ((((cpS ops i).2).getD (r).toNat default)).toNat default)
end Go.TX.F
namespace Go.TX.F
open Go Go.AE Go.TX
def fcO (f:List IOp) (o:IOp):IOp:=if o.kind=3∧(((f).getD (o.x).toNat default)).kind=1∧(((f).getD (o.y).toNat default)).kind=1 then⟨1,0,0,wdo o.k (((f).getD (o.x).toNat default)).k (((f).getD (o.y).toNat default)).k,0⟩else o
def fc (ops:List IOp):Nat→List IOp
  | 0=> []
  | i+1=>fc ops i++ [fcO (fc ops i) (ops.getD i default)]
structure FI (ops:List IOp) (i:Nat) (s:SS):Prop where
  c:∀j:Int,0≤j→j<i→((((fc ops i)).getD (j).toNat default)).kind=1→(0≤((((fc ops i)).getD (j).toNat default)).k∧((((fc ops i)).getD (j).toNat default)).k≤65535)∧((s.vals).getD (j).toNat default)=dJ ((((fc ops i)).getD (j).toNat default)).k
  m:∀j:Int,0≤j→j<i→mkV ((ops).getD (j).toNat default)→mkV (((fc ops i)).getD (j).toNat default)
end Go.TX.F
namespace Go.TX.F
open Go Go.AE Go.TX
theorem RB:(∀o:IOp,kE .iop 0 o=o.kind)∧(∀o:IOp,kE .iop 1 o=o.x)∧(∀o:IOp,kE .iop 2 o=o.y)∧(∀o:IOp,kE .iop 3 o=o.k)∧(∀o:IOp,kE .iop 4 o=o.at_)∧
    (∀b:Blk,kE .blk 0 b=b.pc)∧(∀b:Blk,kE .blk 1 b=b.len)∧(∀b:Blk,o8 .blk 2 .iop b=b.ops)∧(∀b:Blk,kE .blk 3 b=b.fin)∧(∀b:Blk,kE .blk 4 b=b.x)∧(∀b:Blk,kE .blk 5 b=b.y)∧(∀b:Blk,kE .blk 6 b=b.k)∧
    (∀x,Co.mk .iop x=⟨x.1,x.2.1,x.2.2.1,x.2.2.2.1,x.2.2.2.2.1⟩)∧(∀x,Co.mk .blk x=⟨x.1,x.2.1,x.2.2.1,x.2.2.2.1,x.2.2.2.2.1,x.2.2.2.2.2.1,x.2.2.2.2.2.2.1⟩)∧
    (∀i:Ins,kE .ins 0 i=i.op)∧(∀i:Ins,kE .ins 1 i=i.d)∧(∀i:Ins,kE .ins 2 i=i.a)∧(∀i:Ins,kE .ins 3 i=i.k)∧(∀x,Co.mk .ins x=⟨x.1,x.2.1,x.2.2.1,x.2.2.2.1⟩)∧
    (∀e:Ev,kE .ev 0 e=e.kind)∧(∀e:Ev,kE .ev 1 e=e.at_)∧(∀e:Ev,o8 .ev 2 .mono e=e.x)∧(∀e:Ev,o8 .ev 3 .mono e=e.y)∧(∀e:Ev,o8 .ev 4 .poly e=e.regs)∧(∀x,Co.mk .ev x=⟨x.1,x.2.1,x.2.2.1,x.2.2.2.1,x.2.2.2.2.1⟩)∧
    (∀s:Sym,o8 .sym 0 .ev s=s.events)∧(∀s:Sym,o8 .sym 1 .poly s=s.regs)∧(∀s:Sym,kE .sym 2 s=s.fin)∧(∀s:Sym,o8 .sym 3 .mono s=s.x)∧(∀s:Sym,o8 .sym 4 .mono s=s.y)∧(∀s:Sym,kE .sym 5 s=s.k)∧
    (∀x,Co.mk .sym x=⟨x.1,x.2.1,x.2.2.1,x.2.2.2.1,x.2.2.2.2.1,x.2.2.2.2.2.1⟩):=
  ⟨fun _=>rfl,fun _=>rfl,fun _=>rfl,fun _=>rfl,fun _=>rfl,fun _=>rfl,fun _=>rfl,fun _=>rfl,fun _=>rfl,fun _=>rfl,fun _=>rfl,fun _=>rfl,fun _=>rfl,fun _=>rfl,fun _=>rfl,fun _=>rfl,fun _=>rfl,fun _=>rfl,fun _=>rfl,fun _=>rfl,fun _=>rfl,fun _=>rfl,fun _=>rfl,fun _=>rfl,fun _=>rfl,fun _=>rfl,fun _=>rfl,fun _=>rfl,fun _=>rfl,fun _=>rfl,fun _=>rfl,fun _=>rfl⟩
@[reducible] def hK (o : IOp) : Prop := o.kind = 1 ∨ o.kind = 2 ∨ o.kind = 3 ∨ o.kind = 8
theorem agi {p1:Int×Int×Int×Unit→Bool} {f1:Int×Int×Int×Unit→Bool×Unit} (hp1:∀a b c,p1 (a,b,c,())=true) (hf1:∀a b c,f1 (a,b,c,())=(inB a b c,())) (o:IOp):
    Qb (std 0) p1 f1 (o,()) (fun y=>y=(decide (hX o),decide (hY o),decide (hK o),decide (evO o),())):=by
  dsimp only [Qb,Alg.cl,Alg.bd,Alg.l1,Tup.q,Tup.o]
  simp (disch:=omega) only [RR,RB,hp1,hf1]
  refine Prod.ext ?_ (Prod.ext ?_ (Prod.ext ?_ (Prod.ext ?_ rfl)))<;>rw [Bool.eq_iff_iff]<;>simp [hX,hY,hK,evO,inB,or_assoc,and_assoc]
theorem agj {p1:Int×Int×Int×Unit→Bool} {f1:Int×Int×Int×Unit→Bool×Unit} (hp1:∀a b c,p1 (a,b,c,())=true) (hf1:∀a b c,f1 (a,b,c,())=(inB a b c,())) (o:IOp):
    Qc (std 0) p1 f1 (o,()) (fun y=>y=(decide (mkV o),())):=by
  dsimp only [Qc,Alg.cl,Alg.bd,Alg.l1,Tup.q,Tup.o]
  simp (disch:=omega) only [RR,RB,hp1,hf1]
  refine Prod.ext ?_ rfl
  rw [Bool.eq_iff_iff];simp [mkV,inB]
theorem agk {p1:Int×Int×Int×Unit→Bool} {f1:Int×Int×Int×Unit→Bool×Unit} (hp1:∀a b c,p1 (a,b,c,())=true) (hf1:∀a b c,f1 (a,b,c,())=(inB a b c,())) (o:IOp):
    Qp (std 0) p1 f1 (o,()) (fun y=>y=(decide (evO o),())):=by
  dsimp only [Qp,Alg.cl,Alg.bd,Alg.l1,Tup.q,Tup.o]
  simp (disch:=omega) only [RR,RB,hp1,hf1]
  refine Prod.ext ?_ rfl
  rw [Bool.eq_iff_iff];simp [evO,inB]
theorem agl {p2:IOp×Unit→Bool} {f2:IOp×Unit→Bool×Unit} (hp2:∀o,p2 (o,())=true) (hf2:∀o,f2 (o,())=(decide (mkV o),()))
    {p1:Int×Int×Int×Unit→Bool} {f1:Int×Int×Int×Unit→Bool×Unit} (hp1:∀a b c,p1 (a,b,c,())=true) (hf1:∀a b c,f1 (a,b,c,())=(inB a b c,())) (b:Blk) (x n:Int) (h0:0≤n) (h1:n≤b.ops.length) (h2:b.ops.length<1000000000):
    Qd (std 0) p2 f2 p1 f1 (b,x,n,()) (fun y=>y=(bp (Vl b.ops x n),())):=by
  dsimp only [Qd,Alg.cl,Alg.bd,Alg.l1,Tup.q,Tup.o]
  simp (disch:=omega) only [RR,RB,hp1,hf1,hp2,hf2,dz,nD]
  refine⟨by omega,by omega,?_⟩
  refine Prod.ext ?_ rfl
  dsimp only
  rw [Bool.eq_iff_iff,bq,Bool.and_eq_true,dz,decide_eq_true_eq]
  unfold Vl
  constructor
  · rintro⟨⟨a1,a2⟩,a3⟩;exact⟨a1,by omega,a3⟩
  · rintro⟨a1,a2,a3⟩;exact⟨⟨a1,by omega⟩,a3⟩
theorem QS {ops:List IOp} {len i:Int} {o:IOp}:Mw ops len i o↔(1≤o.kind∧o.kind≤8)∧(hX o∧Vl ops o.x i∨¬hX o∧o.x=0)∧(hY o∧Vl ops o.y i∨¬hY o∧o.y=0)∧
    (hK o∧(o.kind=1∧(0≤o.k∧o.k≤65535)∨(o.kind=2∨o.kind=8)∧(0≤o.k∧o.k≤3)∨o.kind=3∧(1≤o.k∧o.k≤5))∨¬hK o∧o.k=0)∧(evO o∧(0≤o.at_∧o.at_<len)∨¬evO o∧o.at_=0):=by
  constructor
  · rintro⟨kd,x1,x0,y1,y0,k1,k2,k3,k0,a1,a0⟩
    refine⟨kd,?_,?_,?_,?_⟩
    · by_cases h:hX o
      · exact Or.inl ⟨h,x1 h⟩
      · exact Or.inr ⟨h,x0 h⟩
    · by_cases h:hY o
      · exact Or.inl ⟨h,y1 h⟩
      · exact Or.inr ⟨h,y0 h⟩
    · unfold hK;omega
    · by_cases h:evO o
      · exact Or.inl ⟨h,a1 h⟩
      · exact Or.inr ⟨h,a0 h⟩
  · rintro⟨kd,x,y,k,a⟩
    refine⟨kd,fun h=> ?_,fun h=> ?_,fun h=> ?_,fun h=> ?_,fun h=> ?_,fun h=> ?_,fun h=> ?_,fun h h'=> ?_,fun h=> ?_,fun h=> ?_⟩
    · rcases x with x | x
      · exact x.2
      · exact absurd h x.1
    · rcases x with x | x
      · exact absurd x.1 h
      · exact x.2
    · rcases y with y | y
      · exact y.2
      · exact absurd h y.1
    · rcases y with y | y
      · exact absurd y.1 h
      · exact y.2
    · unfold hK at k;omega
    · unfold hK at k;omega
    · unfold hK at k;omega
    · unfold hK at k;omega
    · rcases a with a | a
      · exact a.2
      · exact absurd h a.1
    · rcases a with a | a
      · exact absurd a.1 h
      · exact a.2
theorem agm {p3:Blk×Int×Int×Unit→Bool} {f3:Blk×Int×Int×Unit→Bool×Unit} (hp3:∀b x n,0≤n→n≤b.ops.length→b.ops.length<1000000000→p3 (b,x,n,())=true) (hf3:∀b x n,0≤n→n≤b.ops.length→b.ops.length<1000000000→f3 (b,x,n,())=(bp (Vl b.ops x n),()))
    {p2:IOp×Unit→Bool} {f2:IOp×Unit→Bool×Bool×Bool×Bool×Unit} (hp2:∀o,p2 (o,())=true) (hf2:∀o,f2 (o,())=(decide (hX o),decide (hY o),decide (hK o),decide (evO o),()))
    {p4:Int×Unit→Bool} {f4:Int×Unit→Bool×Unit} (hp4:∀a,p4 (a,())=true) (hf4:∀a,f4 (a,())=(inB a 0 65535,()))
    {p1:Int×Int×Int×Unit→Bool} {f1:Int×Int×Int×Unit→Bool×Unit} (hp1:∀a b c,p1 (a,b,c,())=true) (hf1:∀a b c,f1 (a,b,c,())=(inB a b c,()))
    {p5:Int×Unit→Bool} {f5:Int×Unit→Bool×Unit} (hp5:∀a,p5 (a,())=true) (hf5:∀a,f5 (a,())=(inB a 1 5,()))
    {p6:Int×Unit→Bool} {f6:Int×Unit→Bool×Unit} (hp6:∀a,p6 (a,())=true) (hf6:∀a,f6 (a,())=(inB a 0 3,()))
    (b:Blk) (i:Int) (h0:0≤i) (h1:i<b.ops.length) (h2:b.ops.length<1000000000) (h3:1≤b.len∧b.len≤8):
    Qe (std 0) p3 f3 p2 f2 p4 f4 p1 f1 p5 f5 p6 f6 (b,i,()) (fun y=>y=(bp (Mw b.ops b.len i ((b.ops).getD (i).toNat default)),())):=by
  have Tt:=fun x=>hp3 b x i h0 (by omega) h2
  have Tv:=fun x=>hf3 b x i h0 (by omega) h2
  dsimp only [Qe,Alg.cl,Alg.bd,Alg.l1,Tup.q,Tup.o]
  simp (disch:=omega) only [RR,RB,hp1,hf1,hp2,hf2,Tt,Tv,hp4,hf4,hp5,hf5,hp6,hf6,nD]
  refine⟨by omega,by omega,fun h=> ?_,fun h=> ?_⟩
  · rw [iY (fun g=>h g.kd)]
  · have h:=dz.1 h
    refine Prod.ext ?_ rfl
    dsimp only
    rw [Bool.eq_iff_iff,bq,QS]
    generalize ((b.ops).getD (i).toNat default)=o at h ⊢
    simp only [Bool.and_eq_true,Bool.or_eq_true,Bool.not_eq_true',decide_eq_true_eq,decide_eq_false_iff_not,bq,dz,h,true_and,and_true]
    have e:∀ {a:Int},(0≤a∧a≤b.len-1)↔(0≤a∧a<b.len):=fun {a}=>by omega
    have k:(bif decide (o.kind=1)then inB o.k 0 65535 else bif decide (o.kind=2)then inB o.k 0 3 else bif decide (o.kind=3)then inB o.k 1 5 else(decide (o.kind=8)&&inB o.k 0 3))=true↔(o.kind=1∧(0≤o.k∧o.k≤65535)∨(o.kind=2∨o.kind=8)∧(0≤o.k∧o.k≤3)∨o.kind=3∧(1≤o.k∧o.k≤5)):=by
      rcases(by omega:o.kind=1∨o.kind=2∨o.kind=3∨o.kind=8∨(o.kind≠1∧o.kind≠2∧o.kind≠3∧o.kind≠8))with c | c | c | c | ⟨c1,c2,c3,c4⟩
      · simp [c,inB]
      · simp [c,inB]
      · simp [c,inB]
      · simp [c,inB]
      · simp [c1,c2,c3,c4]
    rw [k]
    simp only [e,and_assoc]
theorem agn (b:Blk):Qh (std 0) (b,()) (fun y=>y=(decide (b.fin≠1),decide (3≤b.fin),decide (b.fin≠2),())):=by
  dsimp only [Qh,Alg.cl,Alg.bd,Alg.l1,Tup.q,Tup.o]
  simp (disch:=omega) only [RR,RB]
  refine Prod.ext ?_ (Prod.ext rfl (Prod.ext ?_ rfl))<;>simp
theorem KQ {b:Blk}:AB b↔(1≤b.fin∧b.fin≤4)∧(b.fin≠1∧Vl b.ops b.x b.ops.length∨¬b.fin≠1∧b.x=0)∧(3≤b.fin∧Vl b.ops b.y b.ops.length∨¬3≤b.fin∧b.y=0)∧(b.fin≠2∧(0≤b.k∧b.k≤65535)∨¬b.fin≠2∧b.k=0):=by
  constructor
  · rintro⟨f,x1,x0,y1,y0,k1,k0⟩
    refine⟨f,?_,?_,by omega⟩
    · by_cases h:b.fin=1
      · exact Or.inr ⟨fun g=>g h,x0 h⟩
      · exact Or.inl ⟨h,x1 h⟩
    · by_cases h:3≤b.fin
      · exact Or.inl ⟨h,y1 h⟩
      · exact Or.inr ⟨h,y0 (by omega)⟩
  · rintro⟨f,x,y,k⟩
    refine⟨f,fun h=> ?_,fun h=> ?_,fun h=> ?_,fun h=> ?_,fun h=>by omega,fun h=>by omega⟩
    · rcases x with x | x
      · exact x.2
      · exact absurd h x.1
    · rcases x with x | x
      · exact absurd h x.1
      · exact x.2
    · rcases y with y | y
      · exact y.2
      · exact absurd h y.1
    · rcases y with y | y
      · exact absurd y.1 (by omega)
      · exact y.2
theorem agp {p2:Blk×Unit→Bool} {f2:Blk×Unit→Bool×Bool×Bool×Unit} (hp2:∀b,p2 (b,())=true) (hf2:∀b,f2 (b,())=(decide (b.fin≠1),decide (3≤b.fin),decide (b.fin≠2),()))
    {p3:Blk×Int×Int×Unit→Bool} {f3:Blk×Int×Int×Unit→Bool×Unit} (hp3:∀b x n,0≤n→n≤b.ops.length→b.ops.length<1000000000→p3 (b,x,n,())=true) (hf3:∀b x n,0≤n→n≤b.ops.length→b.ops.length<1000000000→f3 (b,x,n,())=(bp (Vl b.ops x n),()))
    {p4:Int×Unit→Bool} {f4:Int×Unit→Bool×Unit} (hp4:∀a,p4 (a,())=true) (hf4:∀a,f4 (a,())=(inB a 0 65535,()))
    {p1:Int×Int×Int×Unit→Bool} {f1:Int×Int×Int×Unit→Bool×Unit} (hp1:∀a b c,p1 (a,b,c,())=true) (hf1:∀a b c,f1 (a,b,c,())=(inB a b c,())) (b:Blk) (h2:b.ops.length<1000000000):
    Qi (std 0) p2 f2 p3 f3 p4 f4 p1 f1 (b,()) (fun y=>y=(bp (AB b),())):=by
  have Tt:=fun x=>hp3 b x b.ops.length (by omega) (Int.le_refl _) h2
  have Tv:=fun x=>hf3 b x b.ops.length (by omega) (Int.le_refl _) h2
  dsimp only [Qi,Alg.cl,Alg.bd,Alg.l1,Tup.q,Tup.o]
  simp (disch:=omega) only [RR,RB,hp1,hf1,hp2,hf2,Tt,Tv,hp4,hf4]
  refine Prod.ext ?_ rfl
  dsimp only
  rw [Bool.eq_iff_iff,bq,KQ]
  simp only [Bool.and_eq_true,Bool.or_eq_true,Bool.not_eq_true',decide_eq_true_eq,decide_eq_false_iff_not,bq,dz,and_assoc]
theorem agq {p2:Blk×Unit→Bool} {f2:Blk×Unit→Bool×Unit} (hp2:∀b,b.ops.length<1000000000→p2 (b,())=true) (hf2:∀b,b.ops.length<1000000000→f2 (b,())=(bp (AB b),()))
    {p3:Blk×Int×Unit→Bool} {f3:Blk×Int×Unit→Bool×Unit} (hp3:∀(b:Blk) (i:Int),0≤i→i<b.ops.length→b.ops.length<1000000000→1≤b.len∧b.len≤8→p3 (b,i,())=true) (hf3:∀(b:Blk) (i:Int),0≤i→i<b.ops.length→b.ops.length<1000000000→1≤b.len∧b.len≤8→f3 (b,i,())=(bp (Mw b.ops b.len i ((b.ops).getD (i).toNat default)),()))
    {p1:Int×Int×Int×Unit→Bool} {f1:Int×Int×Int×Unit→Bool×Unit} (hp1:∀a b c,p1 (a,b,c,())=true) (hf1:∀a b c,f1 (a,b,c,())=(inB a b c,())) (b:Blk) (h2:b.ops.length<1000000000):
    Qj (std 0) p2 f2 p3 f3 p1 f1 (b,()) (fun y=>y=(bp (jy b),())):=by
  dsimp only [Qj,Alg.cl,Alg.bd,Alg.l1,Tup.q,Tup.o]
  simp (disch:=omega) only [RR,RB,hp1,hf1]
  by_cases hl:1≤b.len∧b.len≤8
  · have hl':=dz.2 hl
    simp (disch:=omega) only [RR,hl',dz,nD]
    refine⟨fun h=> ?_,fun h=> ?_⟩
    · rw [iY (fun g=> ?_)]
      have g1:=g.pc
      have g2:=g.sz
      omega
    · refine aA (fun(y:Int×Int×Blk×Unit)=>y.1=b.ops.length∧y.2.2.1=b∧0≤y.2.1∧y.2.1≤b.ops.length∧All y.2.1 (fun i=>Mw b.ops b.len i ((b.ops).getD (i).toNat default))) (fun y=>(b.ops.length-y.2.1).toNat) ⟨rfl,rfl,by simp,by simp,All.zero⟩ ?_
      rintro⟨(n:Int),(i:Int),(b':Blk),⟨⟩⟩ hI
      dsimp only at hI ⊢
      obtain⟨rfl,rfl,h3,h4,h5⟩:=hI
      simp (disch:=omega) only [RR,hp2 b' h2,hf2 b' h2]
      refine⟨fun h6=>⟨hp3 b' i h3 h6 h2 hl,?_⟩,fun h6=> ?_⟩
      · rw [hf3 b' i h3 h6 h2 hl]
        dsimp only
        refine⟨fun h7=> ?_,fun h7=>⟨⟨by omega,by omega,h5.snoc (bq.1 h7)⟩,by omega⟩⟩
        rw [iY (fun g=>om.1 h7 (g.op i h3 h6))]
      · by_cases he:AB b'
        · rw [fJ he,fJ (show jy b' from⟨hl,by omega,by omega,fun j j1 j2=>h5 j j1 (by omega),he⟩)]
        · rw [iY he,iY (fun g=>he g.en)]
  · have hl':=nD.2 hl
    simp (disch:=omega) only [RR,hl']
    rw [iY (fun g=>hl g.ln)]
    exact⟨rfl,fun h=>h.1.1.elim⟩
end Go.TX.F
namespace Go.TX.F
open Go Go.AE Go.TX
theorem aa1 {p1:Int×Int×Int×Unit→Bool} {f1:Int×Int×Int×Unit→Bool×Unit} (hp1:∀a b c,p1 (a,b,c,())=true) (hf1:∀a b c,f1 (a,b,c,())=(inB a b c,())) (k:Int):
    Gz (std 0) p1 f1 (k,()) (fun y=>y=(decide ((1≤k∧k≤4)∨k=6),())):=by
  dsimp only [Gz,Alg.cl,Alg.bd,Alg.l1,Tup.q,Tup.o]
  simp (disch:=omega) only [RR,hp1,hf1]
  refine Prod.ext ?_ rfl
  rw [Bool.eq_iff_iff];simp [inB]
theorem aa2 {p1:Int×Unit→Bool} {f1:Int×Unit→Bool×Unit} (hp1:∀k,p1 (k,())=true) (hf1:∀k,f1 (k,())=(decide ((1≤k∧k≤4)∨k=6),())) (ops:List IOp) (x n:Int) (h1:n≤ops.length):
    GA (std 0) p1 f1 (ops,x,n,()) (fun y=>y=(bp (Vl ops x n),())):=by
  dsimp only [GA,Alg.cl,Alg.bd,Alg.l1,Tup.q,Tup.o]
  simp (disch:=omega) only [RR,RB,hp1,hf1]
  refine⟨by simp only [Bool.and_eq_false_iff,decide_eq_false_iff_not];omega,by simp only [Bool.and_eq_false_iff,decide_eq_false_iff_not];omega,?_⟩
  refine Prod.ext ?_ rfl
  dsimp only
  rw [Bool.eq_iff_iff,bq,Bool.and_eq_true,Bool.and_eq_true,decide_eq_true_eq,decide_eq_true_eq,decide_eq_true_eq,and_assoc]
  rfl
theorem aa3 {p4:Int×Unit→Bool} {f4:Int×Unit→Bool×Unit} (hp4:∀a,p4 (a,())=true) (hf4:∀a,f4 (a,())=(inB a 0 65535,()))
    {p1:Int×Int×Int×Unit→Bool} {f1:Int×Int×Int×Unit→Bool×Unit} (hp1:∀a b c,p1 (a,b,c,())=true) (hf1:∀a b c,f1 (a,b,c,())=(inB a b c,()))
    {p3:List IOp×Int×Int×Unit→Bool} {f3:List IOp×Int×Int×Unit→Bool×Unit} (hp3:∀(ops:List IOp) (x n:Int),n≤ops.length→p3 (ops,x,n,())=true) (hf3:∀(ops:List IOp) (x n:Int),n≤ops.length→f3 (ops,x,n,())=(bp (Vl ops x n),()))
    (ops:List IOp) (i len:Int) (h0:0≤i) (h1:i<ops.length) (h3:1≤len∧len≤8):GD (std 0) p4 f4 p1 f1 p3 f3 (ops,i,len,()) (fun y=>y=(bp (Mw ops len i ((ops).getD (i).toNat default)),())):=by
  have Tt:=fun x=>hp3 ops x i (by omega)
  have Tv:=fun x=>hf3 ops x i (by omega)
  have e:∀ {a:Int},(0≤a∧a≤len-1)↔(0≤a∧a<len):=fun {a}=>by omega
  dsimp only [GD,Alg.cl,Alg.bd,Alg.l1,Tup.q,Tup.o]
  simp (disch:=omega) only [RR,RB,hp1,hf1,Tt,Tv,hp4,hf4]
  refine⟨by omega,by omega,?_⟩
  rw [show bp (Mw ops len i ((ops).getD (i).toNat default))=bp (_)from Mh QS]
  generalize ((ops).getD (i).toNat default)=o
  have go:∀ {c:Bool} {P:Prop},(c=true↔P)→(c,())=(bp P,()):=fun {c P} h=>Prod.ext (by dsimp only;rw [Bool.eq_iff_iff,bq];exact h) rfl
  refine⟨fun c=> ?_,fun c1=>⟨fun c=> ?_,fun c2=>⟨fun c=> ?_,fun c3=> ?_⟩⟩⟩
  · refine go ?_
    simp only [Bool.and_eq_true,decide_eq_true_eq,bq,dz,c,hX,hY,hK,evO,e]
    simp [and_assoc]
  · refine go ?_
    simp only [Bool.and_eq_true,decide_eq_true_eq,bq,dz,c,hX,hY,hK,evO,e]
    simp [and_assoc]
  · refine go ?_
    simp only [Bool.and_eq_true,decide_eq_true_eq,bq,dz,c,hX,hY,hK,evO,e]
    simp [and_assoc]
  · by_cases c4:o.kind=4∨o.kind=7
    · have c5:o.kind≠8:=by omega
      rcases c4 with c | c<;>simp (disch:=omega) only [RR,c,Int.reduceEq]<;>(refine go ?_)<;>simp only [Bool.and_eq_true,decide_eq_true_eq,bq,dz,c,hX,hY,hK,evO,e]<;>simp [and_assoc]
    · by_cases c:o.kind=5
      · simp (disch:=omega) only [RR,c,Int.reduceEq]
        refine go ?_
        simp only [Bool.and_eq_true,decide_eq_true_eq,bq,dz,c,hX,hY,hK,evO,e]
        simp [and_assoc]
      · by_cases c':o.kind=6
        · simp (disch:=omega) only [RR,c',Int.reduceEq]
          refine go ?_
          simp only [Bool.and_eq_true,decide_eq_true_eq,bq,dz,c',hX,hY,hK,evO,e]
          simp [and_assoc]
        · by_cases c8:o.kind=8
          · simp (disch:=omega) only [RR,c8,Int.reduceEq]
            refine go ?_
            simp only [Bool.and_eq_true,decide_eq_true_eq,bq,dz,c8,hX,hY,hK,evO,e]
            simp [and_assoc]
          · have n4:¬o.kind=4:=fun h=>c4 (Or.inl h)
            have n7:¬o.kind=7:=fun h=>c4 (Or.inr h)
            simp (disch:=omega) only [RR,n4,n7,c,c',c8]
            rw [iY (fun h=>by have:=h.1;omega)]
theorem aa4 {p4:Int×Unit→Bool} {f4:Int×Unit→Bool×Unit} (hp4:∀a,p4 (a,())=true) (hf4:∀a,f4 (a,())=(inB a 0 65535,()))
    {p3:List IOp×Int×Int×Unit→Bool} {f3:List IOp×Int×Int×Unit→Bool×Unit} (hp3:∀(ops:List IOp) (x n:Int),n≤ops.length→p3 (ops,x,n,())=true) (hf3:∀(ops:List IOp) (x n:Int),n≤ops.length→f3 (ops,x,n,())=(bp (Vl ops x n),()))
    (b:Blk):GH (std 0) p4 f4 p3 f3 (b,()) (fun y=>y=(bp (AB b),())):=by
  have Tt:=fun x=>hp3 b.ops x b.ops.length (Int.le_refl _)
  have Tv:=fun x=>hf3 b.ops x b.ops.length (Int.le_refl _)
  dsimp only [GH,Alg.cl,Alg.bd,Alg.l1,Tup.q,Tup.o]
  simp (disch:=omega) only [RR,RB,Tt,Tv,hp4,hf4]
  rw [show bp (AB b)=bp (_)from Mh KQ]
  have go:∀ {c:Bool} {P:Prop},(c=true↔P)→(c,())=(bp P,()):=fun {c P} h=>Prod.ext (by dsimp only;rw [Bool.eq_iff_iff,bq];exact h) rfl
  refine⟨fun c=> ?_,fun c1=>⟨fun c=> ?_,fun c2=> ?_⟩⟩
  · refine go ?_
    simp only [Bool.and_eq_true,decide_eq_true_eq,bq,dz,c]
    simp [and_assoc]
  · refine go ?_
    simp only [Bool.and_eq_true,decide_eq_true_eq,bq,dz,c]
    simp [and_assoc]
  · by_cases c:b.fin=3
    · simp (disch:=omega) only [RR,c,Int.reduceEq]
      refine go ?_
      simp only [Bool.and_eq_true,decide_eq_true_eq,bq,dz,c]
      simp [and_assoc]
    · by_cases c4:b.fin=4
      · simp (disch:=omega) only [RR,c4,Int.reduceEq]
        refine go ?_
        simp only [Bool.and_eq_true,decide_eq_true_eq,bq,dz,c4]
        simp [and_assoc]
      · simp (disch:=omega) only [RR,c,c4]
        rw [iY (fun h=>by have:=h.1;omega)]
theorem aa5 {p1:Int×Int×Int×Unit→Bool} {f1:Int×Int×Int×Unit→Bool×Unit} (hp1:∀a b c,p1 (a,b,c,())=true) (hf1:∀a b c,f1 (a,b,c,())=(inB a b c,()))
    {p2:Blk×Unit→Bool} {f2:Blk×Unit→Bool×Unit} (hp2:∀b,p2 (b,())=true) (hf2:∀b,f2 (b,())=(bp (AB b),()))
    {p3:List IOp×Int×Int×Unit→Bool} {f3:List IOp×Int×Int×Unit→Bool×Unit} (hp3:∀(ops:List IOp) (i len:Int),0≤i→i<ops.length→1≤len∧len≤8→p3 (ops,i,len,())=true) (hf3:∀(ops:List IOp) (i len:Int),0≤i→i<ops.length→1≤len∧len≤8→f3 (ops,i,len,())=(bp (Mw ops len i ((ops).getD (i).toNat default)),())) (b:Blk) (h2:b.ops.length<1000000000):
    GI (std 0) p1 f1 p2 f2 p3 f3 (b,()) (fun y=>y=(bp (jy b),())):=by
  dsimp only [GI,Alg.cl,Alg.bd,Alg.l1,Tup.q,Tup.o]
  simp (disch:=omega) only [RR,RB,hp1,hf1]
  by_cases hl:1≤b.len∧b.len≤8
  · have hl':=dz.2 hl
    simp (disch:=omega) only [RR,hl',dz,nD]
    refine⟨fun h=> ?_,fun h=> ?_⟩
    · rw [iY (fun g=> ?_)]
      have g1:=g.pc
      have g2:=g.sz
      omega
    · refine aA (fun(y:Int×Blk×Unit)=>y.2.1=b∧0≤y.1∧y.1≤b.ops.length∧All y.1 (fun i=>Mw b.ops b.len i ((b.ops).getD (i).toNat default))) (fun y=>(b.ops.length-y.1).toNat) ⟨rfl,by simp,by simp,All.zero⟩ ?_
      rintro⟨(i:Int),(b':Blk),⟨⟩⟩ hI
      dsimp only at hI ⊢
      obtain⟨rfl,h3,h4,h5⟩:=hI
      simp (disch:=omega) only [RR,hp2 b',hf2 b']
      refine⟨fun h6=>⟨hp3 b'.ops i b'.len h3 h6 hl,?_⟩,fun h6=> ?_⟩
      · rw [hf3 b'.ops i b'.len h3 h6 hl]
        dsimp only
        refine⟨fun h7=> ?_,fun h7=>⟨⟨by omega,by omega,h5.snoc (bq.1 h7)⟩,by omega⟩⟩
        rw [iY (fun g=>om.1 h7 (g.op i h3 h6))]
      · by_cases he:AB b'
        · rw [fJ he,fJ (show jy b' from⟨hl,by omega,by omega,fun j j1 j2=>h5 j j1 (by omega),he⟩)]
        · rw [iY he,iY (fun g=>he g.en)]
  · have hl':=nD.2 hl
    simp (disch:=omega) only [RR,hl']
    rw [iY (fun g=>hl g.ln)]
    exact⟨rfl,fun h=>h.1.1.elim⟩
theorem agr {p4:Int×Unit→Bool} {f4:Int×Unit→Bool×Unit} (hp4:∀a,p4 (a,())=true) (hf4:∀a,f4 (a,())=(inB a 0 65535,())) (r a b:Int):
    PS (std 0) p4 f4 (r,a,b,()) (fun y=>y=(inB a 0 65535&&inB b 0 65535&& (decide (r=1∧a=b∨r=2∧a<b)),())):=by
  dsimp only [PS,Alg.cl,Alg.bd,Alg.l1,Tup.q,Tup.o]
  simp (disch:=omega) only [RR,hp4,hf4]
  refine Prod.ext ?_ rfl
  rw [Bool.eq_iff_iff];simp
theorem ags {p1:List aj×Unit→Bool} {f1:List aj×Unit→List aj×Unit} (hp1:∀a,Sh a→p1 (a,())=true) (hf1:∀a,Sh a→f1 (a,())=(a,())) (a:List (List aj)) (ha:ShP a):
    PG (std 0) p1 f1 (a,()) (fun y=>y=(a,())):=by
  have hlen:=ha.1
  dsimp only [PG,Alg.cl,Alg.bd,Alg.l1,Tup.q,Tup.o]
  refine aA (fun(y:List (List aj)×Int×Int×List (List aj)×Unit)=>y.1=a∧y.2.1=a.length∧y.2.2.2.1=a.take y.2.2.1.toNat∧0≤y.2.2.1∧y.2.2.1≤a.length) (fun y=>(a.length-y.2.2.1).toNat) ⟨rfl,rfl,by simp,by simp,by simp⟩ ?_
  rintro⟨(l:List (List aj)),(m:Int),(i:Int),(o:List (List aj)),⟨⟩⟩ hI
  dsimp only at hI ⊢
  obtain⟨rfl,rfl,rfl,h1,h2⟩:=hI
  simp (disch:=omega) only [RR,hp1 _ (ha.at _),hf1 _ (ha.at _)]
  refine⟨fun h4=>⟨by omega,by omega,?_,⟨dP h1 h4 rfl,by omega,by omega⟩,by omega⟩,fun h4=>by rw [List.take_of_length_le (by omega)]⟩
  have:=List.length_take_le' i.toNat l
  simp only [List.length_cons,List.length_nil];omega
theorem agt {p1:List aj×Unit→Bool} {f1:List aj×Unit→List aj×Unit} (hp1:∀a,Sh a→p1 (a,())=true) (hf1:∀a,Sh a→f1 (a,())=(a,()))
    {p2:List (List aj)×Unit→Bool} {f2:List (List aj)×Unit→List (List aj)×Unit} (hp2:∀a,ShP a→p2 (a,())=true) (hf2:∀a,ShP a→f2 (a,())=(a,())) (s:Sym) (hs:ShY s):
    PI (std 0) p1 f1 p2 f2 (s,()) (fun y=>y=(s.fin,s.k,s.events,s.regs,s.x,s.y,())):=by
  have hlen:=hs.e.1
  dsimp only [PI,Alg.cl,Alg.bd,Alg.l1,Tup.q,Tup.o]
  simp (disch:=omega) only [RR,RB,hp1 _ hs.x,hf1 _ hs.x,hp1 _ hs.y,hf1 _ hs.y,hp2 _ hs.r,hf2 _ hs.r]
  refine aA (fun(y:List Ev×Int×Int×Int×Int×Int×Int×List Ev×List (List aj)×List aj×List aj×Unit)=>y.1=s.events∧y.2.1=s.events.length∧y.2.2.2.2.2.1=s.fin∧y.2.2.2.2.2.2.1=s.k∧y.2.2.2.2.2.2.2.1=s.events.take y.2.2.1.toNat∧y.2.2.2.2.2.2.2.2.1=s.regs∧y.2.2.2.2.2.2.2.2.2.1=s.x∧y.2.2.2.2.2.2.2.2.2.2.1=s.y∧0≤y.2.2.1∧y.2.2.1≤s.events.length) (fun y=>(s.events.length-y.2.2.1).toNat) ⟨rfl,rfl,rfl,rfl,by simp,rfl,rfl,rfl,by simp,by simp⟩ ?_
  rintro⟨(l:List Ev),(m:Int),(i:Int),(q1:Int),(q2:Int),(q3:Int),(q4:Int),(o:List Ev),(r:List (List aj)),(u:List aj),(v:List aj),⟨⟩⟩ hI
  dsimp only at hI ⊢
  obtain⟨rfl,rfl,rfl,rfl,rfl,rfl,rfl,rfl,h1,h2⟩:=hI
  have he:=hs.e.at i.toNat
  simp (disch:=omega) only [RR,RB,hp1 _ he.1,hf1 _ he.1,hp1 _ he.2.1,hf1 _ he.2.1,hp2 _ he.2.2,hf2 _ he.2.2]
  refine⟨fun h4=>⟨by omega,by omega,?_,⟨dP h1 h4 rfl,by omega,by omega⟩,by omega⟩,fun h4=>by rw [List.take_of_length_le (by omega)]⟩
  have:=List.length_take_le' i.toNat s.events
  simp only [List.length_cons,List.length_nil];omega
end Go.TX.F
namespace Go.TX.F
open Go Go.AE Go.TX
theorem agu {p1:Int×Unit→Bool} {f1:Int×Unit→List aj×Unit} (hp1:∀n,p1 (n,())=true) (hf1:∀n,f1 (n,())=(fG n,()))
    {p2:List Atom×Atom×Unit→Bool} {f2:List Atom×Atom×Unit→List Atom×Int×Unit} (hp2:∀(t:List Atom) a,t.length<1000000000→ShA a→p2 (t,a,())=true) (hf2:∀(t:List Atom) a,t.length<1000000000→ShA a→f2 (t,a,())=((bD t a).1,(bD t a).2,()))
    (kd k:Int) (t:List Atom) (fl:Bool) (ht:t.length<1000000000):
    Qn (std 0) p1 f1 p2 f2 (kd,k,t,fl,()) (fun y=>y=if(bD t ⟨kd,k,[],[]⟩).2<0 then([],t,true,())else(fG (bD t ⟨kd,k,[],[]⟩).2,(bD t ⟨kd,k,[],[]⟩).1,fl,())):=by
  have sa:ShA ⟨kd,k,[],[]⟩:=⟨jw,jw⟩
  dsimp only [Qn,Alg.cl,Alg.bd,Alg.l1,Tup.q,Tup.o]
  simp (disch:=omega) only [RR,hp1,hf1,hp2 _ _ ht sa,hf2 _ _ ht sa]
  exact⟨fun h=>by rw [if_pos h],fun h=>by rw [if_neg h]⟩
theorem VN (t:List Atom) (n:Nat):rN t (n+1)=((bD (rN t n).1 ⟨1,n,[],[]⟩).1,(rN t n).2++ [fG (bD (rN t n).1 ⟨1,n,[],[]⟩).2]):=rfl
theorem agv {p1:Int×Int×List Atom×Bool×Unit→Bool} {f1:Int×Int×List Atom×Bool×Unit→List aj×List Atom×Bool×Unit} (hp1:∀kd k (t:List Atom) fl,t.length<1000000000→p1 (kd,k,t,fl,())=true)
    (hf1:∀kd k (t:List Atom) fl,t.length<1000000000→f1 (kd,k,t,fl,())=if(bD t ⟨kd,k,[],[]⟩).2<0 then([],t,true,())else(fG (bD t ⟨kd,k,[],[]⟩).2,(bD t ⟨kd,k,[],[]⟩).1,fl,()))
    (t:List Atom) (fl:Bool) (ht:aI t) (hl:t.length≤196):Qo (std 0) p1 f1 (t,fl,()) (fun y=>y=((rN t 4).1,fl,(rN t 4).2,())):=by
  dsimp only [Qo,Alg.cl,Alg.bd,Alg.l1,Tup.q,Tup.o]
  refine aA (fun(y:Int×List Atom×Bool×List (List aj)×Unit)=>0≤y.1∧y.1≤4∧y.2.2.1=fl∧y.2.1=(rN t y.1.toNat).1∧y.2.2.2.1=(rN t y.1.toNat).2) (fun y=>(4-y.1).toNat) ⟨by simp,by simp,rfl,rfl,rfl⟩ ?_
  rintro⟨(i:Int),(u:List Atom),(g:Bool),(r:List (List aj)),⟨⟩⟩ hI
  dsimp only at hI ⊢
  obtain⟨h1,h2,rfl,rfl,rfl⟩:=hI
  have ok:=KO ht hl i.toNat (by omega)
  have l1:=ok.tl
  have l2:=ok.r4
  simp (disch:=omega) only [RR,hp1 _ _ (rN t i.toNat).1 _ (by omega),hf1 _ _ (rN t i.toNat).1 _ (by omega),List.length_cons,List.length_nil]
  refine⟨fun h3=> ?_,fun h3=> ?_⟩
  · have hp:=MB ht hl (n:=i.toNat) (by omega)
    rw [show((i.toNat:Nat):Int)=i by omega]at hp
    rw [if_neg (by omega)]
    have e:(i+1).toNat=i.toNat+1:=by omega
    have e2:((i.toNat:Nat):Int)=i:=by omega
    refine⟨by omega,⟨by omega,by omega,rfl,?_,?_⟩,by omega⟩
    · rw [e,VN,e2]
    · rw [e,VN,e2]
  · rw [show i.toNat=4 by omega]
theorem agw (a:List (List aj)) (h0:0<a.length) (h1:a.length<1000000000):Qq (std 0) (a,()) (fun y=>y=(a,a,())):=by
  dsimp only [Qq,Alg.cl,Alg.bd,Alg.l1,Tup.q,Tup.o]
  simp (disch:=omega) only [RR,List.length_nil]
  exact⟨by omega,by omega,rfl⟩
theorem agx {p1:List aj×Unit→Bool} {f1:List aj×Unit→Int×Bool×Unit} (hp1:∀a,Sh a→p1 (a,())=true) (hf1:∀a,Sh a→f1 (a,())=((dQ a).1,(dQ a).2,()))
    {p2:List aj×Unit→Bool} {f2:List aj×Unit→Bool×Unit} (hp2:∀a,Sh a→p2 (a,())=true) (hf2:∀a,Sh a→f2 (a,())=(bp (aN a),()))
    {p3:List aj×List aj×Unit→Bool} {f3:List aj×List aj×Unit→Int×Unit} (hp3:∀a b,Sh a→p3 (a,b,())=true) (hf3:∀a b,Sh a→f3 (a,b,())=(gW a b,()))
    {p4:Sym×Unit→Bool} {f4:Sym×Unit→Int×Int×List Ev×List (List aj)×List aj×List aj×Unit} (hp4:∀s,ShY s→p4 (s,())=true) (hf4:∀s,ShY s→f4 (s,())=(s.fin,s.k,s.events,s.regs,s.x,s.y,()))
    {p5:List aj×List aj×Unit→Bool} {f5:List aj×List aj×Unit→Bool×Unit} (hp5:∀a b,Sh a→p5 (a,b,())=true) (hf5:∀a b,Sh a→f5 (a,b,())=(decide (gW a b=0),()))
    {p6:Int×Int×Int×Unit→Bool} {f6:Int×Int×Int×Unit→Bool×Unit} (hp6:∀r a b,p6 (r,a,b,())=true) (hf6:∀r a b,f6 (r,a,b,())=(inB a 0 65535&&inB b 0 65535&& (decide (r=1∧a=b∨r=2∧a<b)),()))
    (s:Sym) (n:Int) (hs:ShY s) (h0:0≤s.fin) (h1:s.fin≤4):PU (std 0) p1 f1 p2 f2 p3 f3 p4 f4 p5 f5 p6 f6 (s,n,()) (fun y=>y=(symEnd s n,())):=by
  dsimp only [PU,Alg.cl,Alg.bd,Alg.l1,Tup.q,Tup.o]
  simp (disch:=omega) only [RR,RB,hp1 _ hs.x,hf1 _ hs.x,hp1 _ hs.y,hf1 _ hs.y,hp2 _ hs.x,hf2 _ hs.x,hp2 _ hs.y,hf2 _ hs.y,hp3 _ _ hs.x,hf3 _ _ hs.x,hp4 s hs,hf4 s hs,hp5 _ _ hs.x,hf5 _ _ hs.x,hp6,hf6]
  have xy:gW s.x s.y=0↔s.x=s.y:=Dj
  have rx:(dQ s.x).2=true→inB (dQ s.x).1 0 65535=true:=fun h=>dz.2 (Jq h).2.2
  have ry:(dQ s.y).2=true→inB (dQ s.y).1 0 65535=true:=fun h=>dz.2 (Jq h).2.2
  unfold symEnd
  refine⟨fun h=> ?_,fun h=>⟨fun g=> ?_,fun g=>⟨fun k=> ?_,fun k=>⟨fun l=>⟨fun m=> ?_,fun m=> ?_⟩,fun l=>⟨fun m=> ?_,fun m=> ?_⟩⟩⟩⟩⟩
  · rw [if_pos (by rw [Jh,Bool.and_eq_false_iff];exact h)];rfl
  all_goals rw [if_neg (by rw [Jh,h.1,h.2];simp)]
  · rw [if_pos g]
  all_goals rw [if_neg (show¬(s.fin=2∧(dQ s.x).2=true) by
    rintro⟨a,b⟩;rw [decide_eq_true a,b]at g;cases g)]
  · rw [if_pos k]
  all_goals rw [if_neg (show¬(s.fin≠3∧s.fin≠4) by
    rintro⟨a,b⟩;rw [decide_eq_false a,decide_eq_false b]at k;cases k)]
  · rw [if_pos (by rw [←xy];exact l),if_neg]
    rintro(⟨q1,q2⟩ | ⟨⟨q1,q2⟩,q3⟩)
    · have:=m.1;rw [decide_eq_true (xy.2 q1),decide_eq_true q2]at this;cases this
    · have:=m.2
      rw [q1,q2,rx q1,ry q2,decide_eq_true (by omega)]at this;cases this
  · rw [if_pos (by rw [←xy];exact l),if_pos]
    rcases m with⟨q1,q2⟩ | ⟨q1,_,q3⟩
    · exact Or.inl ⟨xy.1 q1,q2⟩
    · exact Or.inr ⟨q1,by omega⟩
  all_goals rw [if_neg (show¬(s.x=s.y∨(dQ s.x).2=true∧(dQ s.y).2=true) by
    rintro(q | ⟨q1,q2⟩)
    · exact l.1 (xy.2 q)
    · have:=l.2;rw [q1,q2]at this;cases this)]
  · rw [if_pos m]
  · rw [if_neg]
    rintro⟨a,b⟩;rw [decide_eq_true a,decide_eq_true b]at m;cases m
end Go.TX.F
namespace Go.TX.F
open Go Go.AE Go.TX
noncomputable def SW (t:List Atom) (b:Blk) (i:Nat):SS:=(b.ops.take i).foldl stp (s0 t)
structure At (t:List Atom) (b:Blk) (i:Nat) (ld inn:Int) (tb:List Atom) (V:List (List aj)) (ev:List Ev) (rg:List (List aj)):Prop where
  ld:ld=(SW t b i).ld
  inn:inn=(SW t b i).inn
  tb:tb=(SW t b i).t
  V:V=(SW t b i).vals++List.replicate (b.ops.length-i) []
  ev:ev=(SW t b i).evs
  rg:rg=(SW t b i).regs
theorem At.aqP {t:List Atom} {b:Blk} {i:Nat} {ld inn:Int} {tb:List Atom} {V:List (List aj)} {ev:List Ev} {rg:List (List aj)} (h:At t b i ld inn tb V ev rg) (hv:(SW t b i).vals.length=i) (hi:i≤b.ops.length):V.length=b.ops.length:=by
  rw [h.V,List.length_append,List.length_replicate,hv];omega
theorem VO (t:List Atom):∀(l:List IOp) (s:SS),(l.foldl stp s).evs.length≤s.evs.length+l.length
  | [],s=>Nat.le_refl _
  | o::r,s=>by
    rw [List.foldl_cons,List.length_cons]
    have h1:=VO t r (stp s o)
    have h2:(stp s o).evs.length≤s.evs.length+1:=by
      show(nE s o).length≤_
      unfold nE;split
      · rw [List.length_append];exact Nat.le_refl _
      · omega
    omega
theorem alR {t:List Atom} {b:Blk} (i:Nat) (hi:i≤b.ops.length):(SW t b i).evs.length≤i:=by
  have:=VO t (b.ops.take i) (s0 t)
  rw [List.length_take,Nat.min_eq_left hi]at this
  show((b.ops.take i).foldl stp (s0 t)).evs.length≤i
  have e:(s0 t).evs.length=0:=rfl
  omega
theorem ae7 {t:List Atom} {b:Blk} {i:Nat} (hi:i<b.ops.length):SW t b (i+1)=stp (SW t b i) (b.ops.getD i default):=by
  unfold SW;rw [Tq _ _ hi,getD_lt hi]
theorem At.next {t:List Atom} {b:Blk} {i:Nat} {ld inn:Int} {tb:List Atom} {V:List (List aj)} {ev:List Ev} {rg:List (List aj)} (h:At t b i ld inn tb V ev rg) (hv:(SW t b i).vals.length=i) (hi:i<b.ops.length) {o:IOp} (ho:b.ops.getD i default=o)
    {ld' aa6:Int} {tb':List Atom} {V':List (List aj)} {ev':List Ev} {rg':List (List aj)} (h1:ld'=if o.kind=4 then ld+1 else ld) (h2:aa6=if o.kind=6 then inn+1 else inn) (h3:tb'=nT (SW t b i) o) (h4:V'=V.set i (nV (SW t b i) o)) (h5:ev'=nE (SW t b i) o) (h6:rg'=nR (SW t b i) o):At t b (i+1) ld' aa6 tb' V' ev' rg':=by
  have e:=ae7 (t:=t) hi
  rw [ho]at e
  refine⟨?_,?_,?_,?_,?_,?_⟩<;>rw [e]
  · rw [h1,h.ld];rfl
  · rw [h2,h.inn];rfl
  · exact h3
  · rw [h4,h.V]
    show _=((SW t b i).vals++ [nV (SW t b i) o])++_
    rw [List.set_append_right _ _ (by omega),hv,Nat.sub_self,show b.ops.length-i=(b.ops.length- (i+1))+1 by omega,List.replicate_succ,List.set_cons_zero,List.append_assoc];rfl
  · exact h5
  · exact h6
set_option maxHeartbeats 1000000 in
theorem agy {p1:Blk×Unit→Bool} {f1:Blk×Unit→Bool×Bool×Bool×Unit} (hp1:∀b,p1 (b,())=true) (hf1:∀b,f1 (b,())=(decide (b.fin≠1),decide (3≤b.fin),decide (b.fin≠2),()))
    {p2:Blk×Unit→Bool} {f2:Blk×Unit→Bool×Unit} (hp2:∀b,b.ops.length<1000000000→p2 (b,())=true) (hf2:∀b,b.ops.length<1000000000→f2 (b,())=(bp (jy b),()))
    {p3:IOp×Unit→Bool} {f3:IOp×Unit→Bool×Unit} (hp3:∀o,p3 (o,())=true) (hf3:∀o,f3 (o,())=(decide (evO o),()))
    {p4:IOp×Unit→Bool} {f4:IOp×Unit→Bool×Bool×Bool×Bool×Unit} (hp4:∀o,p4 (o,())=true) (hf4:∀o,f4 (o,())=(decide (hX o),decide (hY o),decide (hK o),decide (evO o),()))
    {p5:Int×Unit→Bool} {f5:Int×Unit→List aj×Unit} (hp5:∀n,p5 (n,())=true) (hf5:∀n,f5 (n,())=(dJ n,()))
    {p6:Sym×Int×Unit→Bool} {f6:Sym×Int×Unit→Sym×Unit} (hp6:∀s n,ShY s→0≤s.fin→s.fin≤4→p6 (s,n,())=true) (hf6:∀s n,ShY s→0≤s.fin→s.fin≤4→f6 (s,n,())=(symEnd s n,()))
    {p7:List Atom×Unit→Bool} {f7:List Atom×Unit→Bool×Unit} (hp7:∀a,ShT a→p7 (a,())=true) (hf7:∀a,ShT a→f7 (a,())=(bp (aI a),()))
    {p8:List Atom×Unit→Bool} {f8:List Atom×Unit→List Atom×Unit} (hp8:∀a,ShT a→p8 (a,())=true) (hf8:∀a,ShT a→f8 (a,())=(a,()))
    {p9:List Atom×Int×List aj×List aj×Unit→Bool} {f9:List Atom×Int×List aj×List aj×Unit→List Atom×List aj×Bool×Unit} (hp9:∀(t:List Atom) op x y,t.length<1000000000→Sh x→Sh y→p9 (t,op,x,y,())=true)
    (hf9:∀(t:List Atom) op x y,t.length<1000000000→Sh x→Sh y→(f9 (t,op,x,y,())).1=(tDo t op x y).1∧(f9 (t,op,x,y,())).2.1=(tDo t op x y).2∧(f9 (t,op,x,y,())).2.2.1=tOk t op x y)
    {p10:Int×Int×List Atom×Bool×Unit→Bool} {f10:Int×Int×List Atom×Bool×Unit→List aj×List Atom×Bool×Unit} (apt:∀kd k (t:List Atom) fl,t.length<1000000000→p10 (kd,k,t,fl,())=true)
    (aqQ:∀kd k (t:List Atom) fl,t.length<1000000000→f10 (kd,k,t,fl,())=if(bD t ⟨kd,k,[],[]⟩).2<0 then([],t,true,())else(fG (bD t ⟨kd,k,[],[]⟩).2,(bD t ⟨kd,k,[],[]⟩).1,fl,()))
    {p11:List Atom×Bool×Unit→Bool} {f11:List Atom×Bool×Unit→List Atom×Bool×List (List aj)×Unit} (aqR:∀(t:List Atom) fl,aI t→t.length≤196→p11 (t,fl,())=true) (aqS:∀(t:List Atom) fl,aI t→t.length≤196→f11 (t,fl,())=((rN t 4).1,fl,(rN t 4).2,()))
    {p12:List (List aj)×Unit→Bool} {f12:List (List aj)×Unit→List (List aj)×List (List aj)×Unit} (apu:∀a:List (List aj),0<a.length→a.length<1000000000→p12 (a,())=true) (apv:∀a:List (List aj),0<a.length→a.length<1000000000→f12 (a,())=(a,a,()))
    (t:List Atom) (b:Blk) (ht:ShT t) (hb:b.ops.length<1000000000):QI (std 0) p1 f1 p2 f2 p3 f3 p4 f4 p5 f5 p6 f6 p7 f7 p8 f8 p9 f9 p10 f10 p11 f11 p12 f12 (t,b,()) (fun y=>y=((bX t b).1,(bX t b).2,())):=by
  have hlt:=ht.1
  dsimp only [QI,Alg.cl,Alg.bd,Alg.l1,Tup.q,Tup.o]
  simp (disch:=omega) only [RR,RB,hp7 t ht,hf7 t ht,hp2 b hb,hf2 b hb]
  by_cases c:aI t∧t.length≤100∧jy b
  case neg=>
    refine⟨fun _=> ?_,fun h=> ?_⟩
    · unfold bX;rw [iY c];rfl
    · exact absurd ⟨bq.1 h.1.1,by omega,bq.1 h.2⟩ c
  obtain⟨c1,c2,c3⟩:=c
  simp (disch:=omega) only [RR,fJ c1,fJ c3,aqR t false c1 (by omega),aqS t false c1 (by omega)]
  have sz:=c3.sz
  have hop:=c3.op
  have hk3:=c3.k3
  have i0:=QO c1 (by omega)
  have siw:∀j:Nat,j≤b.ops.length→SI (t.length+4) j (SW t b j):=fun j hj=>by
    have:=(Dl (b.ops.take j) 0 (s0 t) i0 (fun o ho=>hk3 o (List.mem_of_mem_take ho)) (by rw [List.length_take];omega) (by rw [List.length_take];omega)).1
    rw [List.length_take,Nat.min_eq_left hj,Nat.zero_add]at this;exact this
  refine⟨fun h=>absurd h (by omega),fun _=>⟨by omega,by omega,?_⟩⟩
  refine aA (fun(y:Int×Int×List IOp×Int×Int×Blk×Int×Int×List Atom×Bool×Int×Int×List (List aj)×List Ev×List (List aj)×Unit)=>y.2.2.2.2.2.1=b∧y.2.2.1=b.ops∧y.2.2.2.1=b.ops.length∧y.2.2.2.2.2.2.2.2.2.1=false∧y.2.2.2.2.2.2.2.2.2.2.1=b.fin∧y.2.2.2.2.2.2.2.2.2.2.2.1=b.k∧
      0≤y.2.2.2.2.1∧y.2.2.2.2.1≤b.ops.length∧At t b y.2.2.2.2.1.toNat y.1 y.2.1 y.2.2.2.2.2.2.2.2.1 y.2.2.2.2.2.2.2.2.2.2.2.2.1 y.2.2.2.2.2.2.2.2.2.2.2.2.2.1 y.2.2.2.2.2.2.2.2.2.2.2.2.2.2.1) (fun y=>(b.ops.length-y.2.2.2.2.1).toNat)
    ⟨rfl,rfl,rfl,rfl,rfl,rfl,by simp,by simp,⟨rfl,rfl,rfl,rfl,rfl,rfl⟩⟩ ?_
  rintro⟨(ld:Int),(inn:Int),(ops:List IOp),(n:Int),(i:Int),(b':Blk),(z1:Int),(z2:Int),(tb:List Atom),(fl:Bool),(fin:Int),(kk:Int),(V:List (List aj)),(ev:List Ev),(rg:List (List aj)),⟨⟩⟩ hI
  dsimp only at hI ⊢
  obtain⟨e1,e2,e3,e4,e5,e6,h1,h2,hA⟩:=hI
  subst e1 e2 e3 e4 e5 e6
  have hl:V.length=b'.ops.length:=hA.aqP (siw i.toNat (by omega)).vl (by omega)
  have si:=siw i.toNat (by omega)
  obtain⟨a1,a2,a3,a4,a5,a6⟩:=hA
  have tl:tb.length<1000000000:=by rw [a3];have:=si.tl;omega
  have r4:rg.length=4:=by rw [a6];exact si.r4
  have evl:ev.length≤i.toNat:=by rw [a5];exact alR i.toNat (by omega)
  by_cases h7:i<b'.ops.length
  case neg=>
    have en:=c3.en
    have hf:=en.f
    have hpc:=c3.pc
    have hln:=c3.ln
    have ein:i.toNat=b'.ops.length:=by omega
    have eS:SW t b' i.toNat=mh t b':=by unfold SW mh;rw [ein,List.take_of_length_le (Nat.le_refl _)]
    rw [eS]at a1 a2 a3 a4 a5 a6 si
    have eV:V=(mh t b').vals:=by rw [a4,ein,Nat.sub_self];simp
    clear a4
    have pk:=VL (b:=b') si
    have eR:=zu c1 c2 c3
    have sh:ShY (JA b' (mh t b')):=by
      have i0:=QO c1 (by omega)
      have hs:=Tp b'.ops 0 (s0 t) i0 hk3 (by omega) (by omega) ⟨by simp [s0],fun e he=>absurd he (by simp [s0])⟩
      exact⟨⟨by have:=hs.1;show(b'.ops.foldl stp (s0 t)).evs.length<_;omega,hs.2⟩,si.regs,pk.1.sh,pk.2.sh⟩
    have st:=si.tok.sh
    have q6:=hp6 (JA b' (mh t b')) (b'.pc+b'.len) sh (by show 0≤b'.fin;omega) hf.2
    have r6:=hf6 (JA b' (mh t b')) (b'.pc+b'.len) sh (by show 0≤b'.fin;omega) hf.2
    subst a1 a2 a3 a5 a6 eV
    have x1:=en.x1
    have y1:=en.y1
    have sl:=si.vl
    have E:JA b' (mh t b')=⟨(mh t b').evs,(mh t b').regs,b'.fin,if b'.fin=1 then []else(((mh t b').vals).getD (b'.x).toNat default),if 3≤b'.fin then(((mh t b').vals).getD (b'.y).toNat default)else [],b'.k⟩:=rfl
    rw [E]at q6 r6
    rcases(by omega:b'.fin=1∨b'.fin=2∨3≤b'.fin)with c | c | c
    · have n2:¬3≤b'.fin:=by omega
      rw [if_pos c,if_neg n2]at q6 r6
      simp (disch:=omega) only [RR,RB,h7,hp1,hf1,decide_eq_false n2,c,ne_eq,not_true_eq_false,decide_false,hp8 _ st,hf8 _ st]
      rw [c]at q6 r6
      rw [eR,E,if_pos c,if_neg n2,c]
      exact⟨fun h=>absurd h (by omega),fun _=>⟨q6,by rw [r6]⟩⟩
    · have n1:b'.fin≠1:=by omega
      have n2:¬3≤b'.fin:=by omega
      obtain⟨v1,v2,_⟩:=x1 n1
      rw [if_neg n1,if_neg n2]at q6 r6
      simp (disch:=omega) only [RR,RB,h7,hp1,hf1,decide_eq_true n1,decide_eq_false n2,hp8 _ st,hf8 _ st]
      rw [eR,E,if_neg n1,if_neg n2]
      exact⟨v1,by omega,v1,by omega,q6,by rw [r6]⟩
    · have n1:b'.fin≠1:=by omega
      obtain⟨v1,v2,_⟩:=x1 n1
      obtain⟨w1,w2,_⟩:=y1 c
      rw [if_neg n1,if_pos c]at q6 r6
      simp (disch:=omega) only [RR,RB,h7,hp1,hf1,decide_eq_true n1,decide_eq_true c,hp8 _ st,hf8 _ st]
      rw [eR,E,if_neg n1,if_pos c]
      exact⟨v1,by omega,v1,by omega,w1,by omega,w1,by omega,q6,by rw [r6]⟩
  have hok:=hop i h1 h7
  have nxt:=fun {ld' aa6:Int} {tb':List Atom} {V':List (List aj)} {ev':List Ev} {rg':List (List aj)}=>At.next (t:=t) (b:=b') (i:=i.toNat) (o:=((b'.ops).getD (i).toNat default)) ⟨a1,a2,a3,a4,a5,a6⟩ si.vl (by omega) rfl (ld':=ld') (aa6:=aa6) (tb':=tb') (V':=V') (ev':=ev') (rg':=rg')
  have ei:(i+1).toNat=i.toNat+1:=by omega
  have vx:∀j:Int,0≤j→j<i→((V).getD (j).toNat default)=(((SW t b' i.toNat).vals).getD (j).toNat default):=fun j j1 j2=>by
    have:=si.vl
    rw [a4,getD_lt (by rw [List.length_append];omega),getD_lt (by omega),List.getElem_append_left]
  have ex:hX ((b'.ops).getD (i).toNat default)→((V).getD ((((b'.ops).getD (i).toNat default)).x).toNat default)=xOf (SW t b' i.toNat) ((b'.ops).getD (i).toNat default):=fun h=>by
    unfold xOf;rw [if_pos h];exact vx _ (hok.x1 h).1 (hok.x1 h).2.1
  have ey:hY ((b'.ops).getD (i).toNat default)→((V).getD ((((b'.ops).getD (i).toNat default)).y).toNat default)=yOf (SW t b' i.toNat) ((b'.ops).getD (i).toNat default):=fun h=>by
    unfold yOf;rw [if_pos h];exact vx _ (hok.y1 h).1 (hok.y1 h).2.1
  have v0:V.set i.toNat []=V:=by
    have:=si.vl
    rw [a4,List.set_append_right _ _ (by omega),this,Nat.sub_self,show b'.ops.length-i.toNat=(b'.ops.length- (i.toNat+1))+1 by omega,List.replicate_succ,List.set_cons_zero]
  obtain⟨sn,so⟩:=Mx (o:=((b'.ops).getD (i).toNat default)) si hok.k3 (by omega) (by omega)
  have gl:=si.ld
  have gi:=si.inn
  have shx:=(si.x ((b'.ops).getD (i).toNat default)).1.sh
  have shy:=(si.y ((b'.ops).getD (i).toNat default)).1.sh
  generalize hs:SW t b' i.toNat=s at*
  generalize ho:((b'.ops).getD (i).toNat default)=o at*
  have kd:=hok.kd
  subst a1 a2 a3 a5 a6
  have L0:o.kind≠4→s.ld=if o.kind=4 then s.ld+1 else s.ld:=fun h=>by rw [if_neg h]
  have I0:o.kind≠6→s.inn=if o.kind=6 then s.inn+1 else s.inn:=fun h=>by rw [if_neg h]
  have T0:o.kind≠3→o.kind≠4→o.kind≠6→s.t=nT s o:=fun h3 h4 h6=>by unfold nT;rw [if_neg h3,if_neg (by omega)]
  have R0:o.kind≠8→s.regs=nR s o:=fun h=>by unfold nR;rw [if_neg h]
  have E0:¬evO o→s.evs=nE s o:=fun h=>by unfold nE;rw [if_neg h]
  have V0:o.kind=5∨o.kind=7∨o.kind=8→V=V.set i.toNat (nV s o):=fun h=>by
    rw [show nV s o=[] by unfold nV;rw [if_neg (by omega),if_neg (by omega),if_neg (by omega),if_neg (by omega)],v0]
  have P0:∀kd k,0≤(bD s.t ⟨kd,k,[],[]⟩).2→f10 (kd,k,s.t,false,())=(fG (bD s.t ⟨kd,k,[],[]⟩).2,(bD s.t ⟨kd,k,[],[]⟩).1,false,()):=fun kd k h=>by
    rw [aqQ _ _ _ _ tl,if_neg (by omega)]
  have y0:¬hY o→yOf s o=[]:=fun h=>by unfold yOf;rw [if_neg h]
  have x0:¬hX o→xOf s o=[]:=fun h=>by unfold xOf;rw [if_neg h]
  rcases(by omega:o.kind=1∨o.kind=2∨o.kind=3∨o.kind=4∨o.kind=5∨o.kind=6∨o.kind=7∨o.kind=8)with c | c | c | c | c | c | c | c
  · have dX:decide (hX o)=false:=decide_eq_false (by unfold hX;omega)
    have dY:decide (hY o)=false:=decide_eq_false (by unfold hY;omega)
    have dE:decide (evO o)=false:=decide_eq_false (by unfold evO;omega)
    have N:At t b' (i.toNat+1) s.ld s.inn s.t (V.set i.toNat (dJ o.k)) s.evs s.regs:=nxt (L0 (by omega)) (I0 (by omega)) (T0 (by omega) (by omega) (by omega)) (by unfold nV;rw [if_pos c]) (E0 (by unfold evO;omega)) (R0 (by omega))
    simp (disch:=omega) only [RR,RB,ho,h7,hp4,hf4,hp3,hf3,dX,dY,dE,c,Int.reduceEq,List.length_cons,List.length_nil,hp5,hf5]
    repeat' apply And.intro
    all_goals first | omega | (rw [ei];exact N)
  · have dX:decide (hX o)=false:=decide_eq_false (by unfold hX;omega)
    have dY:decide (hY o)=false:=decide_eq_false (by unfold hY;omega)
    have dE:decide (evO o)=false:=decide_eq_false (by unfold evO;omega)
    have k2:=hok.k2 (Or.inl c)
    have N:At t b' (i.toNat+1) s.ld s.inn s.t (V.set i.toNat ((s.regs).getD (o.k).toNat default)) s.evs s.regs:=nxt (L0 (by omega)) (I0 (by omega)) (T0 (by omega) (by omega) (by omega)) (by unfold nV;rw [if_neg (by omega),if_pos c]) (E0 (by unfold evO;omega)) (R0 (by omega))
    simp (disch:=omega) only [RR,RB,ho,h7,hp4,hf4,hp3,hf3,dX,dY,dE,c,Int.reduceEq,List.length_cons,List.length_nil,r4]
    repeat' apply And.intro
    all_goals first | omega | (rw [ei];exact N)
  · have dX:decide (hX o)=true:=decide_eq_true (by unfold hX;omega)
    have dY:decide (hY o)=true:=decide_eq_true (by unfold hY;omega)
    have dE:decide (evO o)=false:=decide_eq_false (by unfold evO;omega)
    have v1:=hok.x1 (by unfold hX;omega)
    have v2:=hok.y1 (by unfold hY;omega)
    have u1:=v1.2.1
    have u2:=v2.2.1
    have w1:=v1.1
    have w2:=v2.1
    obtain⟨d1,d2,d3⟩:=hf9 s.t o.k _ _ tl shx shy
    have d4:=(so.d c).ok
    have N:At t b' (i.toNat+1) s.ld s.inn (tDo s.t o.k (xOf s o) (yOf s o)).1 (V.set i.toNat (tDo s.t o.k (xOf s o) (yOf s o)).2) s.evs s.regs:=nxt (L0 (by omega)) (I0 (by omega)) (by unfold nT;rw [if_pos c]) (by unfold nV;rw [if_neg (by omega),if_neg (by omega),if_pos c]) (E0 (by unfold evO;omega)) (R0 (by omega))
    simp (disch:=omega) only [RR,RB,ho,h7,hp4,hf4,hp3,hf3,dX,dY,dE,c,Int.reduceEq,List.length_cons,List.length_nil,ex (by unfold hX;omega),ey (by unfold hY;omega),hp9 s.t o.k _ _ tl shx shy,d1,d2,d3,d4]
    repeat' apply And.intro
    all_goals first | omega | (rw [ei];exact N)
  · have dX:decide (hX o)=true:=decide_eq_true (by unfold hX;omega)
    have dY:decide (hY o)=false:=decide_eq_false (by unfold hY;omega)
    have dE:decide (evO o)=true:=decide_eq_true (by unfold evO;omega)
    have v1:=hok.x1 (by unfold hX;omega)
    have u1:=v1.2.1
    have w1:=v1.1
    have ea:aOf s o=⟨2,s.ld,[],[]⟩:=by unfold aOf;rw [if_pos c]
    have pp:=so.p (Or.inl c)
    rw [ea]at pp
    have N:At t b' (i.toNat+1) (s.ld+1) s.inn (bD s.t ⟨2,s.ld,[],[]⟩).1 (V.set i.toNat (fG (bD s.t ⟨2,s.ld,[],[]⟩).2)) (s.evs++ [⟨4,o.at_,xOf s o,[],s.regs⟩]) s.regs:=nxt (by rw [if_pos c]) (I0 (by omega)) (by unfold nT;rw [if_neg (by omega),if_pos (Or.inl c),ea]) (by unfold nV;rw [if_neg (by omega),if_neg (by omega),if_neg (by omega),if_pos (Or.inl c),ea]) (by unfold nE;rw [if_pos (by unfold evO;omega),if_pos (Or.inl c),c,y0 (by unfold hY;omega)]) (R0 (by omega))
    simp (disch:=omega) only [RR,RB,ho,h7,hp4,hf4,hp3,hf3,dX,dY,dE,c,Int.reduceEq,List.length_cons,List.length_nil,ex (by unfold hX;omega),apu s.regs (by omega) (by omega),apv s.regs (by omega) (by omega),apt 2 s.ld s.t false tl,P0 2 s.ld pp]
    repeat' apply And.intro
    all_goals first | omega | (rw [ei];exact N)
  · have dX:decide (hX o)=true:=decide_eq_true (by unfold hX;omega)
    have dY:decide (hY o)=true:=decide_eq_true (by unfold hY;omega)
    have dE:decide (evO o)=true:=decide_eq_true (by unfold evO;omega)
    have v1:=hok.x1 (by unfold hX;omega)
    have v2:=hok.y1 (by unfold hY;omega)
    have u1:=v1.2.1
    have u2:=v2.2.1
    have w1:=v1.1
    have w2:=v2.1
    have N:At t b' (i.toNat+1) s.ld s.inn s.t V (s.evs++ [⟨5,o.at_,xOf s o,yOf s o,s.regs⟩]) s.regs:=nxt (L0 (by omega)) (I0 (by omega)) (T0 (by omega) (by omega) (by omega)) (V0 (by omega)) (by unfold nE;rw [if_pos (by unfold evO;omega),if_pos (Or.inr c),c]) (R0 (by omega))
    simp (disch:=omega) only [RR,RB,ho,h7,hp4,hf4,hp3,hf3,dX,dY,dE,c,Int.reduceEq,List.length_cons,List.length_nil,ex (by unfold hX;omega),ey (by unfold hY;omega),apu s.regs (by omega) (by omega),apv s.regs (by omega) (by omega)]
    repeat' apply And.intro
    all_goals first | omega | (rw [ei];exact N)
  · have dX:decide (hX o)=false:=decide_eq_false (by unfold hX;omega)
    have dY:decide (hY o)=false:=decide_eq_false (by unfold hY;omega)
    have dE:decide (evO o)=true:=decide_eq_true (by unfold evO;omega)
    have ea:aOf s o=⟨3,s.inn,[],[]⟩:=by unfold aOf;rw [if_neg (by omega)]
    have pp:=so.p (Or.inr c)
    rw [ea]at pp
    have N:At t b' (i.toNat+1) s.ld (s.inn+1) (bD s.t ⟨3,s.inn,[],[]⟩).1 (V.set i.toNat (fG (bD s.t ⟨3,s.inn,[],[]⟩).2)) (s.evs++ [⟨6,o.at_,[],[],[]⟩]) s.regs:=nxt (L0 (by omega)) (by rw [if_pos c]) (by unfold nT;rw [if_neg (by omega),if_pos (Or.inr c),ea]) (by unfold nV;rw [if_neg (by omega),if_neg (by omega),if_neg (by omega),if_pos (Or.inr c),ea]) (by unfold nE;rw [if_pos (by unfold evO;omega),if_neg (by omega),c,x0 (by unfold hX;omega),y0 (by unfold hY;omega)]) (R0 (by omega))
    simp (disch:=omega) only [RR,RB,ho,h7,hp4,hf4,hp3,hf3,dX,dY,dE,c,Int.reduceEq,List.length_cons,List.length_nil,apt 3 s.inn s.t false tl,P0 3 s.inn pp]
    repeat' apply And.intro
    all_goals first | omega | (rw [ei];exact N)
  · have dX:decide (hX o)=true:=decide_eq_true (by unfold hX;omega)
    have dY:decide (hY o)=false:=decide_eq_false (by unfold hY;omega)
    have dE:decide (evO o)=true:=decide_eq_true (by unfold evO;omega)
    have v1:=hok.x1 (by unfold hX;omega)
    have u1:=v1.2.1
    have w1:=v1.1
    have N:At t b' (i.toNat+1) s.ld s.inn s.t V (s.evs++ [⟨7,o.at_,xOf s o,[],[]⟩]) s.regs:=nxt (L0 (by omega)) (I0 (by omega)) (T0 (by omega) (by omega) (by omega)) (V0 (by omega)) (by unfold nE;rw [if_pos (by unfold evO;omega),if_neg (by omega),c,y0 (by unfold hY;omega)]) (R0 (by omega))
    simp (disch:=omega) only [RR,RB,ho,h7,hp4,hf4,hp3,hf3,dX,dY,dE,c,Int.reduceEq,List.length_cons,List.length_nil,ex (by unfold hX;omega)]
    repeat' apply And.intro
    all_goals first | omega | (rw [ei];exact N)
  · have dX:decide (hX o)=true:=decide_eq_true (by unfold hX;omega)
    have dY:decide (hY o)=false:=decide_eq_false (by unfold hY;omega)
    have dE:decide (evO o)=false:=decide_eq_false (by unfold evO;omega)
    have v1:=hok.x1 (by unfold hX;omega)
    have u1:=v1.2.1
    have w1:=v1.1
    have k2:=hok.k2 (Or.inr c)
    have N:At t b' (i.toNat+1) s.ld s.inn s.t V s.evs (s.regs.set o.k.toNat (xOf s o)):=nxt (L0 (by omega)) (I0 (by omega)) (T0 (by omega) (by omega) (by omega)) (V0 (by omega)) (E0 (by unfold evO;omega)) (by unfold nR;rw [if_pos c])
    simp (disch:=omega) only [RR,RB,ho,h7,hp4,hf4,hp3,hf3,dX,dY,dE,c,Int.reduceEq,List.length_cons,List.length_nil,ex (by unfold hX;omega),r4]
    repeat' apply And.intro
    all_goals first | omega | (rw [ei];exact N)
end Go.TX.F
namespace Go.TX.F
open Go Go.AE Go.TX
theorem alS (i:Ins):Ia (std 0) (i,()) (fun _=>True):=by
  dsimp only [Ia,Alg.cl,Alg.bd,Alg.l1,Tup.q,Tup.o]
  simp (disch:=omega) only [RR]
theorem alT {p1:Int×Int×Int×Unit→Bool} {f1:Int×Int×Int×Unit→Bool×Unit} (hp1:∀a b c,p1 (a,b,c,())=true) (hf1:∀a b c,f1 (a,b,c,())=(inB a b c,())) {p2:Ins×Unit→Bool} {f2:Ins×Unit→Bool×Unit} (hp2:∀i,p2 (i,())=true) (i:Ins):Ib (std 0) p1 f1 p2 f2 (i,()) (fun _=>True):=by
  dsimp only [Ib,Alg.cl,Alg.bd,Alg.l1,Tup.q,Tup.o]
  simp (disch:=omega) only [RR,hp1,hp2]
theorem alU (i:Int):Ic (std 0) (i,()) (fun _=>True):=by
  dsimp only [Ic,Alg.cl,Alg.bd,Alg.l1,Tup.q,Tup.o]
theorem alV {p1:Int×Unit→Bool} {f1:Int×Unit→Bool×Unit} (hp1:∀i,p1 (i,())=true) {p2:Ins×Unit→Bool} {f2:Ins×Unit→Bool×Unit} (hp2:∀i,p2 (i,())=true) (i:Ins):Ie (std 0) p1 f1 p2 f2 (i,()) (fun _=>True):=by
  dsimp only [Ie,Alg.cl,Alg.bd,Alg.l1,Tup.q,Tup.o]
  simp (disch:=omega) only [RR,hp1,hp2]
theorem alW {p1:Int×Unit→Bool} {f1:Int×Unit→Bool×Unit} (hp1:∀i,p1 (i,())=true) {p2:Ins×Unit→Bool} {f2:Ins×Unit→Bool×Unit} (hp2:∀i,p2 (i,())=true) {p3:Int×Int×Int×Unit→Bool} {f3:Int×Int×Int×Unit→Bool×Unit} (hp3:∀a b c,p3 (a,b,c,())=true) (hf3:∀a b c,f3 (a,b,c,())=(inB a b c,())) {p4:Ins×Unit→Bool} {f4:Ins×Unit→Bool×Unit} (hp4:∀i,p4 (i,())=true) (pc:Int) (l:List Ins) (hl:(l.length:Int)<1000):Ii (std 0) p1 f1 p2 f2 p3 f3 p4 f4 (pc,l,()) (fun _=>True):=by
  dsimp only [Ii,Alg.cl,Alg.bd,Alg.l1,Tup.q,Tup.o]
  simp (disch:=omega) only [RR,hp1,hp2,hp3,hp4]
  refine fun _=> ?_
  refine aA (fun(y:List Ins×Int×Unit)=>y.1=l∧0≤y.2.1) (fun y=>((l.length:Int)-y.2.1).toNat) ⟨rfl,by simp⟩ ?_
  rintro⟨(l':List Ins),(j:Int),⟨⟩⟩ hI
  dsimp only at hI ⊢
  obtain⟨rfl,h1⟩:=hI
  simp (disch:=omega) only [RR,hp1,hp2,hp3,hp4,or_true]
  refine fun h=>⟨h1,h,by omega,by omega,by omega,by omega,fun _=> ?_⟩
  rw [w64 (by omega) (by omega)];constructor<;>omega
theorem aa7 (a1 a2 a3 a4 a5 a6:Int) (o:IOp) (ops:List IOp) (hl:(ops.length:Int)<1000000):Ij (std 0) (a1,a2,a3,a4,a5,a6,o,ops,()) (fun y=>(y.2.2.2.2.2.2.2.1.length:Int)=ops.length+1):=by
  dsimp only [Ij,Alg.cl,Alg.bd,Alg.l1,Tup.q,Tup.o]
  simp (disch:=omega) only [RR,List.length_append,List.length_cons,List.length_nil]
  omega
theorem aa8 {p1:Int×Int×Int×Int×Int×Int×IOp×List IOp×Unit→Bool} {f1:Int×Int×Int×Int×Int×Int×IOp×List IOp×Unit→Int×Int×Int×Int×Int×Int×Int×List IOp×Unit} (hp1:∀a1 a2 a3 a4 a5 a6 o ops,(ops.length:Int)<1000000→p1 (a1,a2,a3,a4,a5,a6,o,ops,())=true) (hf1:∀a1 a2 a3 a4 a5 a6 o ops,(ops.length:Int)<1000000→((f1 (a1,a2,a3,a4,a5,a6,o,ops,())).2.2.2.2.2.2.2.1.length:Int)=ops.length+1) (a1 a2 a3 a4 a5 a6:Int) (k:Int) (ops:List IOp) (hl:(ops.length:Int)<1000000):Il (std 0) p1 f1 (a1,a2,a3,a4,a5,a6,k,ops,()) (fun y=>(y.2.2.2.2.2.2.2.1.length:Int)=ops.length+1):=by
  dsimp only [Il,Alg.cl,Alg.bd,Alg.l1,Tup.q,Tup.o]
  simp (disch:=omega) only [RR,hp1,hf1]
theorem aa9 {p1:Int×Int×Int×Int×Int×Int×IOp×List IOp×Unit→Bool} {f1:Int×Int×Int×Int×Int×Int×IOp×List IOp×Unit→Int×Int×Int×Int×Int×Int×Int×List IOp×Unit} (hp1:∀a1 a2 a3 a4 a5 a6 o ops,(ops.length:Int)<1000000→p1 (a1,a2,a3,a4,a5,a6,o,ops,())=true) (hf1:∀a1 a2 a3 a4 a5 a6 o ops,(ops.length:Int)<1000000→((f1 (a1,a2,a3,a4,a5,a6,o,ops,())).2.2.2.2.2.2.2.1.length:Int)=ops.length+1) (a1 a2 a3 a4 a5 a6:Int) (k x:Int) (ops:List IOp) (hl:(ops.length:Int)<1000000):Ik (std 0) p1 f1 (a1,a2,a3,a4,a5,a6,k,x,ops,()) (fun y=>(y.2.2.2.2.2.2.1.length:Int)=ops.length+1):=by
  dsimp only [Ik,Alg.cl,Alg.bd,Alg.l1,Tup.q,Tup.o]
  simp (disch:=omega) only [RR,hp1,hf1]
theorem abb {p1:Int×Int×Int×Int×Int×Int×Int×List IOp×Unit→Bool} {f1:Int×Int×Int×Int×Int×Int×Int×List IOp×Unit→Int×Int×Int×Int×Int×Int×Int×List IOp×Unit} (hp1:∀a1 a2 a3 a4 a5 a6 k ops,(ops.length:Int)<1000000→p1 (a1,a2,a3,a4,a5,a6,k,ops,())=true) (hf1:∀a1 a2 a3 a4 a5 a6 k ops,(ops.length:Int)<1000000→((f1 (a1,a2,a3,a4,a5,a6,k,ops,())).2.2.2.2.2.2.2.1.length:Int)=ops.length+1) {p2:Int×Int×Int×Int×Int×Int×IOp×List IOp×Unit→Bool} {f2:Int×Int×Int×Int×Int×Int×IOp×List IOp×Unit→Int×Int×Int×Int×Int×Int×Int×List IOp×Unit} (hp2:∀a1 a2 a3 a4 a5 a6 o ops,(ops.length:Int)<1000000→p2 (a1,a2,a3,a4,a5,a6,o,ops,())=true) (hf2:∀a1 a2 a3 a4 a5 a6 o ops,(ops.length:Int)<1000000→((f2 (a1,a2,a3,a4,a5,a6,o,ops,())).2.2.2.2.2.2.2.1.length:Int)=ops.length+1) (a1 a2 a3 a4 a5 a6:Int) (k a:Int) (o:IOp) (ops:List IOp) (hl:(ops.length:Int)<999000):Im (std 0) p1 f1 p2 f2 (a1,a2,a3,a4,a5,a6,k,a,o,ops,()) (fun y=>(y.2.2.2.2.2.2.2.1.length:Int)=ops.length+3):=by
  dsimp only [Im,Alg.cl,Alg.bd,Alg.l1,Tup.q,Tup.o]
  simp (disch:=(first | omega | (simp (disch:=(first | omega | (simp (disch:=(first | omega | (simp (disch:=omega) only [hf1,hf2];omega))) only [hf1,hf2];omega))) only [hf1,hf2];omega))) only [RR,hp1,hp2,hf1,hf2]
  omega
theorem abd {p1:Int×Int×Int×Int×Int×Int×Int×List IOp×Unit→Bool} {f1:Int×Int×Int×Int×Int×Int×Int×List IOp×Unit→Int×Int×Int×Int×Int×Int×Int×List IOp×Unit} (hp1:∀a1 a2 a3 a4 a5 a6 k ops,(ops.length:Int)<1000000→p1 (a1,a2,a3,a4,a5,a6,k,ops,())=true) (hf1:∀a1 a2 a3 a4 a5 a6 k ops,(ops.length:Int)<1000000→((f1 (a1,a2,a3,a4,a5,a6,k,ops,())).2.2.2.2.2.2.2.1.length:Int)=ops.length+1) {p2:Int×Int×Int×Int×Int×Int×IOp×List IOp×Unit→Bool} {f2:Int×Int×Int×Int×Int×Int×IOp×List IOp×Unit→Int×Int×Int×Int×Int×Int×Int×List IOp×Unit} (hp2:∀a1 a2 a3 a4 a5 a6 o ops,(ops.length:Int)<1000000→p2 (a1,a2,a3,a4,a5,a6,o,ops,())=true) (hf2:∀a1 a2 a3 a4 a5 a6 o ops,(ops.length:Int)<1000000→((f2 (a1,a2,a3,a4,a5,a6,o,ops,())).2.2.2.2.2.2.2.1.length:Int)=ops.length+1) {p3:Int×Int×Int×Int×Int×Int×Int×Int×IOp×List IOp×Unit→Bool} {f3:Int×Int×Int×Int×Int×Int×Int×Int×IOp×List IOp×Unit→Int×Int×Int×Int×Int×Int×Int×List IOp×Unit} (hp3:∀a1 a2 a3 a4 a5 a6 k a o ops,(ops.length:Int)<999000→p3 (a1,a2,a3,a4,a5,a6,k,a,o,ops,())=true) (hf3:∀a1 a2 a3 a4 a5 a6 k a o ops,(ops.length:Int)<999000→((f3 (a1,a2,a3,a4,a5,a6,k,a,o,ops,())).2.2.2.2.2.2.2.1.length:Int)=ops.length+3) {p4:Int×Int×Int×Int×Int×Int×Int×Int×List IOp×Unit→Bool} {f4:Int×Int×Int×Int×Int×Int×Int×Int×List IOp×Unit→Int×Int×Int×Int×Int×Int×List IOp×Unit} (hp4:∀a1 a2 a3 a4 a5 a6 k x ops,(ops.length:Int)<1000000→p4 (a1,a2,a3,a4,a5,a6,k,x,ops,())=true) (hf4:∀a1 a2 a3 a4 a5 a6 k x ops,(ops.length:Int)<1000000→((f4 (a1,a2,a3,a4,a5,a6,k,x,ops,())).2.2.2.2.2.2.1.length:Int)=ops.length+1) (a1 a2 a3 a4 a5 a6:Int) (i:Ins) (k:Int) (ops:List IOp) (hl:(ops.length:Int)<998000):Ip (std 0) p1 f1 p2 f2 p3 f3 p4 f4 (a1,a2,a3,a4,a5,a6,i,k,ops,()) (fun y=>(y.2.2.2.2.2.2.1.length:Int)=ops.length+5):=by
  dsimp only [Ip,Alg.cl,Alg.bd,Alg.l1,Tup.q,Tup.o]
  simp (disch:=(first | omega | (simp (disch:=(first | omega | (simp (disch:=(first | omega | (simp (disch:=omega) only [hf1,hf2,hf3,hf4];omega))) only [hf1,hf2,hf3,hf4];omega))) only [hf1,hf2,hf3,hf4];omega))) only [RR,hp1,hp2,hp3,hp4,hf1,hf2,hf3,hf4]
  constructor<;>intro _<;>omega
theorem abe {p1:Int×Int×Int×Int×Int×Int×Int×List IOp×Unit→Bool} {f1:Int×Int×Int×Int×Int×Int×Int×List IOp×Unit→Int×Int×Int×Int×Int×Int×Int×List IOp×Unit} (hp1:∀a1 a2 a3 a4 a5 a6 k ops,(ops.length:Int)<1000000→p1 (a1,a2,a3,a4,a5,a6,k,ops,())=true) (hf1:∀a1 a2 a3 a4 a5 a6 k ops,(ops.length:Int)<1000000→((f1 (a1,a2,a3,a4,a5,a6,k,ops,())).2.2.2.2.2.2.2.1.length:Int)=ops.length+1) (a1 a2 a3 a4 a5 a6:Int) (i:Ins) (ops:List IOp) (hl:(ops.length:Int)<999000):Iq (std 0) p1 f1 (a1,a2,a3,a4,a5,a6,i,ops,()) (fun y=>(y.2.2.2.2.2.2.1.length:Int)≤ops.length+5):=by
  dsimp only [Iq,Alg.cl,Alg.bd,Alg.l1,Tup.q,Tup.o]
  simp (disch:=(first | omega | (simp (disch:=(first | omega | (simp (disch:=(first | omega | (simp (disch:=omega) only [hf1];omega))) only [hf1];omega))) only [hf1];omega))) only [RR,hp1,hf1]
  refine⟨fun _=>by omega,fun _=>⟨fun _=>by omega,fun _=>by omega⟩⟩
theorem alX (k:Int) (hk:k<1000):Io (std 0) (k,()) (fun _=>True):=by
  dsimp only [Io,Alg.cl,Alg.bd,Alg.l1,Tup.q,Tup.o]
  simp (disch:=omega) only [RR]
  refine aA (fun(y:Int×Int×Int×Unit)=>y.1=k∧0≤y.2.2.1) (fun y=>(k-y.2.2.1).toNat) ⟨rfl,by simp⟩ ?_
  rintro⟨(k':Int),(z:Int),(j:Int),⟨⟩⟩ hI
  dsimp only at hI ⊢
  obtain⟨rfl,h1⟩:=hI
  simp (disch:=omega) only [RR]
  refine fun h=> ?_
  rw [w64 (by omega) (by omega)];constructor<;>omega
theorem abf {p1:Int×Int×Int×Int×Int×Int×Int×List IOp×Unit→Bool} {f1:Int×Int×Int×Int×Int×Int×Int×List IOp×Unit→Int×Int×Int×Int×Int×Int×Int×List IOp×Unit} (hp1:∀a1 a2 a3 a4 a5 a6 k ops,(ops.length:Int)<1000000→p1 (a1,a2,a3,a4,a5,a6,k,ops,())=true) (hf1:∀a1 a2 a3 a4 a5 a6 k ops,(ops.length:Int)<1000000→((f1 (a1,a2,a3,a4,a5,a6,k,ops,())).2.2.2.2.2.2.2.1.length:Int)=ops.length+1) {p2:Int×Int×Int×Int×Int×Int×Ins×List IOp×Unit→Bool} {f2:Int×Int×Int×Int×Int×Int×Ins×List IOp×Unit→Int×Int×Int×Int×Int×Int×List IOp×Unit} (hp2:∀a1 a2 a3 a4 a5 a6 i ops,(ops.length:Int)<999000→p2 (a1,a2,a3,a4,a5,a6,i,ops,())=true) (hf2:∀a1 a2 a3 a4 a5 a6 i ops,(ops.length:Int)<999000→((f2 (a1,a2,a3,a4,a5,a6,i,ops,())).2.2.2.2.2.2.1.length:Int)≤ops.length+5) {p3:Int×Int×Int×Int×Int×Int×IOp×List IOp×Unit→Bool} {f3:Int×Int×Int×Int×Int×Int×IOp×List IOp×Unit→Int×Int×Int×Int×Int×Int×Int×List IOp×Unit} (hp3:∀a1 a2 a3 a4 a5 a6 o ops,(ops.length:Int)<1000000→p3 (a1,a2,a3,a4,a5,a6,o,ops,())=true) (hf3:∀a1 a2 a3 a4 a5 a6 o ops,(ops.length:Int)<1000000→((f3 (a1,a2,a3,a4,a5,a6,o,ops,())).2.2.2.2.2.2.2.1.length:Int)=ops.length+1) {p4:Int×Int×Int×Int×Int×Int×Ins×Int×List IOp×Unit→Bool} {f4:Int×Int×Int×Int×Int×Int×Ins×Int×List IOp×Unit→Int×Int×Int×Int×Int×Int×List IOp×Unit} (hp4:∀a1 a2 a3 a4 a5 a6 i k ops,(ops.length:Int)<998000→p4 (a1,a2,a3,a4,a5,a6,i,k,ops,())=true) (hf4:∀a1 a2 a3 a4 a5 a6 i k ops,(ops.length:Int)<998000→((f4 (a1,a2,a3,a4,a5,a6,i,k,ops,())).2.2.2.2.2.2.1.length:Int)=ops.length+5) {p5:Int×Int×Int×Int×Int×Int×Int×Int×IOp×List IOp×Unit→Bool} {f5:Int×Int×Int×Int×Int×Int×Int×Int×IOp×List IOp×Unit→Int×Int×Int×Int×Int×Int×Int×List IOp×Unit} (hp5:∀a1 a2 a3 a4 a5 a6 k a o ops,(ops.length:Int)<999000→p5 (a1,a2,a3,a4,a5,a6,k,a,o,ops,())=true) (hf5:∀a1 a2 a3 a4 a5 a6 k a o ops,(ops.length:Int)<999000→((f5 (a1,a2,a3,a4,a5,a6,k,a,o,ops,())).2.2.2.2.2.2.2.1.length:Int)=ops.length+3) {p6:Int×Int×Int×Int×Int×Int×Int×Int×List IOp×Unit→Bool} {f6:Int×Int×Int×Int×Int×Int×Int×Int×List IOp×Unit→Int×Int×Int×Int×Int×Int×List IOp×Unit} (hp6:∀a1 a2 a3 a4 a5 a6 k x ops,(ops.length:Int)<1000000→p6 (a1,a2,a3,a4,a5,a6,k,x,ops,())=true) (hf6:∀a1 a2 a3 a4 a5 a6 k x ops,(ops.length:Int)<1000000→((f6 (a1,a2,a3,a4,a5,a6,k,x,ops,())).2.2.2.2.2.2.1.length:Int)=ops.length+1) {p7:Int×Unit→Bool} {f7:Int×Unit→Int×Unit} (hp7:∀k,k<1000→p7 (k,())=true) (a1 a2 a3 a4 a5 a6:Int) (i:Ins) (k:Int) (ops:List IOp) (hk:i.k<1000) (hl:(ops.length:Int)<997000):Ir (std 0) p1 f1 p2 f2 p3 f3 p4 f4 p5 f5 p6 f6 p7 f7 (a1,a2,a3,a4,a5,a6,i,k,ops,()) (fun y=>(y.2.2.2.2.2.2.1.length:Int)≤ops.length+5):=by
  have e4:=fun i k=>hf4 a1 a2 a3 a4 a5 a6 i k ops (by omega)
  have e2:=fun i=>hf2 a1 a2 a3 a4 a5 a6 i ops (by omega)
  dsimp only [Ir,Alg.cl,Alg.bd,Alg.l1,Tup.q,Tup.o]
  simp (disch:=(first | omega | (simp (disch:=(first | omega | (simp (disch:=(first | omega | (simp (disch:=omega) only [hf1,hf3,hf5,RB];omega))) only [hf1,hf3,hf5,RB];omega))) only [hf1,hf3,hf5,RB];omega))) only [RR,RB,hp1,hp2,hp3,hp4,hp5,hp6,hp7,hf1,hf3,hf4,hf5,hf6]
  have:=e2 i
  repeat' (first | (refine⟨?_,?_⟩) | intro _)
  all_goals omega
def KB (l:List Ins):Prop:=∀i∈l,i.k<1000
theorem KB.at {l:List Ins} (h:KB l) (n:Nat):(l.getD n default).k<1000:=by
  by_cases h1:n<l.length
  · rw [getD_lt h1];exact h _ (List.getElem_mem _)
  · simp only [List.getD,List.getElem?_eq_none (by omega:l.length≤n)];decide
theorem abg {p1:Int×List Ins×Unit→Bool} {f1:Int×List Ins×Unit→Bool×Unit} (hp1:∀pc l,(l.length:Int)<1000→p1 (pc,l,())=true) {p2:Int×Int×Int×Int×Int×Int×Ins×Int×List IOp×Unit→Bool} {f2:Int×Int×Int×Int×Int×Int×Ins×Int×List IOp×Unit→Int×Int×Int×Int×Int×Int×List IOp×Unit} (hp2:∀a1 a2 a3 a4 a5 a6 i k ops,i.k<1000→(ops.length:Int)<997000→p2 (a1,a2,a3,a4,a5,a6,i,k,ops,())=true) (hf2:∀a1 a2 a3 a4 a5 a6 i k ops,i.k<1000→(ops.length:Int)<997000→((f2 (a1,a2,a3,a4,a5,a6,i,k,ops,())).2.2.2.2.2.2.1.length:Int)≤ops.length+5) (pc:Int) (l:List Ins) (hl:(l.length:Int)<1000) (hk:KB l):Iu (std 0) p1 f1 p2 f2 (pc,l,()) (fun y=>(y.2.2.2.2.2.2.1.length:Int)≤5000):=by
  dsimp only [Iu,Alg.cl,Alg.bd,Alg.l1,Tup.q,Tup.o]
  simp (disch:=omega) only [RR,hp1,List.length_nil]
  refine⟨fun _=>by omega,fun _=> ?_⟩
  refine aA (fun(y:List Ins×Int×Int×Int×Int×Int×Int×Int×Int×Int×Int×Int×Int×Int×List IOp×Unit)=>y.1=l∧0≤y.2.1∧y.2.1≤l.length∧(y.2.2.2.2.2.2.2.2.2.2.2.2.2.2.1.length:Int)≤5*y.2.1) (fun y=>((l.length:Int)-y.2.1).toNat) ⟨rfl,by simp,by simp,by simp⟩ ?_
  rintro⟨(l':List Ins),(j:Int),u1,u2,u3,u4,u5,u6,b1,b2,b3,b4,b5,b6,(ops:List IOp),⟨⟩⟩ hI
  dsimp only at hI ⊢
  obtain⟨rfl,h1,h2,h3⟩:=hI
  have hk':=hk.at j.toNat
  simp (disch:=omega) only [RR,hp2]
  refine⟨fun h=> ?_,fun h=>by omega⟩
  have:=hf2 b1 b2 b3 b4 b5 b6 ((l').getD (j).toNat default) j ops hk' (by omega)
  exact⟨h1,h,⟨by omega,by omega,by omega⟩,by omega⟩
end Go.TX.F
namespace Go.TX.F
open Go Go.AE Go.TX
structure InD (m:Int) (b:List Int) (p:Int) (y:Int×Int×Int×Int×List Int×Int×Unit):Prop where
  b:y.2.2.2.2.1=b
  lo:p≤y.2.2.2.2.2.1
  hi:y.2.2.2.2.2.1≤p+m
  k:0≤y.2.2.2.1∧y.2.2.2.1≤255
@[reducible] def alY : List Int → Prop
  | []=>True
  | x::l=>(0≤x∧x≤255)∧alY l
theorem QT:∀(l:List Int) (n:Nat),alY l→0≤l.getD n default∧l.getD n default≤255
  | [],n,_=>by simp only [List.getD_nil];decide
  | x::l,0,h=>h.1
  | x::l,n+1,h=>QT l n h.2
theorem pkR {f1:Int×List Int×Int×Unit→Int×List Int×Int×Unit} {b:List Int} (hb:Bt b) (hf1:∀n b p,Bt b→0≤p→p<1000000000→Pk n b p (f1 (n,b,p,()))):
    (∀n p,0≤p→p<1000000000→(f1 (n,b,p,())).2.1=b)∧(∀n p,0≤p→p<1000000000→(f1 (n,b,p,())).2.2.1=p+1)∧
    (∀n p,0≤p→p<1000000000→(0≤(f1 (n,b,p,())).1)=True)∧(∀n p k,0≤p→p<1000000000→n≤k→0<k→((f1 (n,b,p,())).1<k)=True)∧
    (∀n p k,0≤p→p<1000000000→n≤k+1→0≤k→((f1 (n,b,p,())).1≤k)=True):=
  ⟨fun n p h1 h2=>(hf1 n b p hb h1 h2).1,fun n p h1 h2=>(hf1 n b p hb h1 h2).2.1,fun n p h1 h2=>eq_true (hf1 n b p hb h1 h2).2.2.1,
    fun n p k h1 h2 h3 h4=>eq_true (by have:=(hf1 n b p hb h1 h2).2.2;omega),fun n p k h1 h2 h3 h4=>eq_true (by have:=(hf1 n b p hb h1 h2).2.2;omega)⟩
theorem abh {p1:Int×List Int×Int×Unit→Bool} {f1:Int×List Int×Int×Unit→Int×List Int×Int×Unit} (hp1:∀n b p,Bt b→0≤p→p<1000000000→p1 (n,b,p,())=true) (hf1:∀n b p,Bt b→0≤p→p<1000000000→Pk n b p (f1 (n,b,p,()))) (b:List Int) (p:Int) (hb:Bt b) (h1:0≤p) (h2:p<900000000):H9 (std 0) p1 f1 (b,p,()) (fun y=>InD 20 b p y):=by
  have R:=pkR hb hf1
  have P:=fun n p h1 h2=>hp1 n b p hb h1 h2
  dsimp only [H9,Alg.cl,Alg.bd,Alg.l1,Tup.q,Tup.o]
  simp (disch:=omega) only [RR,R,P,List.length_cons,List.length_nil]
  repeat' (first | (refine⟨?_,?_⟩) | intro _)
  all_goals try omega
  all_goals refine⟨rfl,by dsimp only;omega,by dsimp only;omega,?_⟩
  all_goals dsimp only
  all_goals first | omega | (refine QT _ _ ?_;simp (disch:=omega) only [alY,R,Int.reduceLE,and_self,true_and,and_true]) | (simp (disch:=omega) only [R,Int.reduceLE,and_self,true_and,and_true])
theorem abj {p1:List Int×Int×Unit→Bool} {f1:List Int×Int×Unit→Int×Int×Int×Int×List Int×Int×Unit} (hp1:∀b p,Bt b→0≤p→p<900000000→p1 (b,p,())=true) (hf1:∀b p,Bt b→0≤p→p<900000000→InD 20 b p (f1 (b,p,()))) {p2:Int×List Int×Int×Unit→Bool} {f2:Int×List Int×Int×Unit→Int×List Int×Int×Unit} (hp2:∀n b p,Bt b→0≤p→p<1000000000→p2 (n,b,p,())=true) (hf2:∀n b p,Bt b→0≤p→p<1000000000→Pk n b p (f2 (n,b,p,()))) {p3:Ins×Unit→Bool} {f3:Ins×Unit→Bool×Unit} (hp3:∀i,p3 (i,())=true) (b:List Int) (p:Int) (hb:Bt b) (h1:0≤p) (h2:p<800000000):Ig (std 0) p1 f1 p2 f2 p3 f3 (b,p,()) (fun y=>InD 30 b p y):=by
  obtain⟨a1,a2,a3,a4⟩:=hf1 b p hb h1 (by omega)
  have R:=pkR hb hf2
  have P:=fun n p h1 h2=>hp2 n b p hb h1 h2
  dsimp only [Ig,Alg.cl,Alg.bd,Alg.l1,Tup.q,Tup.o]
  simp (disch:=omega) only [RR,hp1 b p hb h1 (by omega),hp3,a1,R,P]
  refine⟨fun _=>⟨rfl,by dsimp only;omega,by dsimp only;omega,?_⟩,fun _=>⟨rfl,a2,by dsimp only;omega,a4⟩⟩
  dsimp only
  simp (disch:=omega) only [R,Int.reduceLE,and_self]
structure LiD (b:List Int) (p:Int) (y:List Int×Int×List Ins×Unit):Prop where
  b:y.1=b
  lo:p≤y.2.1
  hi:y.2.1≤p+1000
  len:(y.2.2.1.length:Int)≤20
  k:KB y.2.2.1
theorem KB.app {l:List Ins} {i:Ins} (h:KB l) (h2:i.k≤255):KB (l++ [i]):=fun x hx=>by
  rw [List.mem_append,List.mem_singleton]at hx
  rcases hx with hx | rfl
  · exact h x hx
  · omega
theorem abk {p1:List Int×Int×Unit→Bool} {f1:List Int×Int×Unit→Int×Int×Int×Int×List Int×Int×Unit} (hp1:∀b p,Bt b→0≤p→p<800000000→p1 (b,p,())=true) (hf1:∀b p,Bt b→0≤p→p<800000000→InD 30 b p (f1 (b,p,()))) {p2:Int×List Int×Int×Unit→Bool} {f2:Int×List Int×Int×Unit→Int×List Int×Int×Unit} (hp2:∀n b p,Bt b→0≤p→p<1000000000→p2 (n,b,p,())=true) (hf2:∀n b p,Bt b→0≤p→p<1000000000→Pk n b p (f2 (n,b,p,()))) (b:List Int) (p:Int) (hb:Bt b) (h1:0≤p) (h2:p<700000000):Ih (std 0) p1 f1 p2 f2 (b,p,()) (fun y=>LiD b p y):=by
  obtain⟨e1,e2,e3,e4⟩:=hf2 8 b p hb h1 (by omega)
  dsimp only [Ih,Alg.cl,Alg.bd,Alg.l1,Tup.q,Tup.o]
  simp (disch:=omega) only [RR,hp2 8 b p hb h1 (by omega),e1,e2]
  refine aA (fun(y:Int×List Int×Int×List Ins×Unit)=>0≤y.1∧y.1≤8∧y.2.1=b∧p≤y.2.2.1∧y.2.2.1+40*y.1≤p+400∧(y.2.2.2.1.length:Int)+y.1≤8∧KB y.2.2.2.1) (fun y=>y.1.toNat)
    ⟨e3,by dsimp only;omega,rfl,by dsimp only;omega,by dsimp only;omega,by dsimp only [List.length_nil];omega,fun x hx=>by cases hx⟩ ?_
  rintro⟨(k:Int),(b':List Int),(q:Int),(l:List Ins),⟨⟩⟩ hI
  dsimp only at hI ⊢
  obtain⟨k1,k2,rfl,k3,k4,k5,k6⟩:=hI
  have R:=pkR hb hf2
  have P:=fun n p h1 h2=>hp2 n b' p hb h1 h2
  obtain⟨a1,a2,a3,a4⟩:=hf1 b' q hb (by omega) (by omega)
  obtain⟨b1,b2,b3,b4⟩:=hf1 b' (q+1) hb (by omega) (by omega)
  simp (disch:=omega) only [RR,RB,hp1 b' q hb (by omega) (by omega),hp1 b' (q+1) hb (by omega) (by omega),a1,b1,R,P,List.length_cons,List.length_nil,List.length_append]
  refine⟨fun c=>⟨by omega,⟨by omega,by omega,by omega,by omega,by omega,k6.app a4.2⟩,by omega⟩,fun c=>⟨fun _=>⟨by omega,rfl,by dsimp only;omega,by dsimp only;omega,?_,?_⟩,fun _=>⟨fun _=>⟨by omega,rfl,by dsimp only;omega,by dsimp only;omega,?_,?_⟩,fun _=>⟨by omega,rfl,by dsimp only;omega,by dsimp only;omega,?_,?_⟩⟩⟩⟩
  · dsimp only;rw [List.length_append];simp only [List.length_cons,List.length_nil];omega
  · refine k6.app ?_
    dsimp only
    simp (disch:=omega) only [R]
  · dsimp only;rw [List.length_append];simp only [List.length_cons,List.length_nil];omega
  · exact k6.app (by dsimp only;omega)
  · dsimp only;rw [List.length_append];simp only [List.length_cons,List.length_nil];omega
  · exact k6.app b4.2
end Go.TX.F
namespace Go.TX.F
open Go Go.AE Go.TX
theorem abl (b:Blk) (hb:b.ops.length<1000000):Hg (std 0) (b,()) (fun y=>y=(b.pc,b.len,b.fin,b.x,b.y,b.k,b.ops,())):=by
  dsimp only [Hg,Alg.cl,Alg.bd,Alg.l1,Tup.q,Tup.o]
  simp (disch:=omega) only [RR,RB,List.nil_append,List.length_nil]
  omega
theorem alZ (ops:List IOp) (k:Int):Ht (std 0) (ops,k,()) (fun _=>True):=by
  dsimp only [Ht,Alg.cl,Alg.bd,Alg.l1,Tup.q,Tup.o]
  simp (disch:=omega) only [RR,RB]
  omega
theorem abm (b:Blk) (k:Int):Hu (std 0) (b,k,()) (fun y=>y.2.2.1=b.ops):=by
  dsimp only [Hu,Alg.cl,Alg.bd,Alg.l1,Tup.q,Tup.o]
  simp (disch:=omega) only [RR,RB]
theorem abn {p1:Blk×Int×Unit→Bool} {f1:Blk×Int×Unit→Int×Int×List IOp×Int×Int×Int×Int×Unit} (hp1:∀b k,p1 (b,k,())=true) (hf1:∀b k,(f1 (b,k,())).2.2.1=b.ops) {p2:List IOp×Int×Unit→Bool} {f2:List IOp×Int×Unit→Int×Bool×Unit} (hp2:∀ops k,p2 (ops,k,())=true) (b:Blk):Hw (std 0) p1 f1 p2 f2 (b,()) (fun y=>y.1.ops=b.ops):=by
  dsimp only [Hw,Alg.cl,Alg.bd,Alg.l1,Tup.q,Tup.o]
  simp (disch:=omega) only [RR,RB,hp1,hf1,hp2]
  repeat' (first | (refine⟨?_,?_⟩) | intro _)
  all_goals rfl
theorem abo {p1:Int×Int×Int×Unit→Bool} {f1:Int×Int×Int×Unit→Bool×Unit} (hp1:∀a b c,p1 (a,b,c,())=true) (hf1:∀a b c,f1 (a,b,c,())=(inB a b c,())) (o:IOp) (al:List Int) (hx:hX o→0≤o.x∧o.x< (al.length:Int)) (hy:hY o→0≤o.y∧o.y< (al.length:Int)):Hl (std 0) p1 f1 (o,al,()) (fun y=>y.1.kind=o.kind∧y.1.k=o.k):=by
  unfold hX at hx
  unfold hY at hy
  dsimp only [Hl,Alg.cl,Alg.bd,Alg.l1,Tup.q,Tup.o]
  simp (disch:=omega) only [RR,RB,hp1,hf1,dz,nD]
  refine⟨fun c=>⟨(hx (by omega)).1,(hx (by omega)).2,hy⟩,fun c=>hy⟩
theorem al0 (ops:List IOp) (k:Int) (h0:0≤k) (h1:k<ops.length) (h2:(ops.length:Int)<1000000):HY (std 0) (ops,k,()) (fun _=>True):=by
  dsimp only [HY,Alg.cl,Alg.bd,Alg.l1,Tup.q,Tup.o]
  simp (disch:=omega) only [RR,RB]
  refine aA (fun(y:List IOp×Int×Int×Unit)=>y.1=ops∧y.2.1=k∧0≤y.2.2.1) (fun y=>((ops.length:Int)-y.2.2.1).toNat) ⟨rfl,rfl,by dsimp only;omega⟩ ?_
  rintro⟨(l:List IOp),(k':Int),(j:Int),⟨⟩⟩ hI
  dsimp only at hI ⊢
  obtain⟨rfl,rfl,h3⟩:=hI
  simp (disch:=omega) only [RR,RB]
  intro h
  simp only [show IntKind.i64.wrap (j+1)=j+1 from w64 (by omega) (by omega)]
  repeat' (first | (refine⟨?_,?_⟩) | intro _)
  all_goals omega
@[reducible] def XL (z : Int × Int × Int × Int × Int × Int × List IOp × Unit) : Blk := ⟨z.1, z.2.1, z.2.2.2.2.2.2.1, z.2.2.1, z.2.2.2.1, z.2.2.2.2.1, z.2.2.2.2.2.1⟩
theorem abp {p1:Blk×Unit→Bool} {f1:Blk×Unit→Blk×Unit} (hp1:∀b,b.ops.length<1000000→p1 (b,())=true) (hf1:∀b,b.ops.length<1000000→(f1 (b,())).1.ops.length≤b.ops.length) {p2:Blk×Unit→Bool} {f2:Blk×Unit→Int×Int×Int×Int×Int×Int×List IOp×Unit} (hp2:∀b,b.ops.length<1000000→p2 (b,())=true) (hf2:∀b,b.ops.length<1000000→(f2 (b,())).2.2.2.2.2.2.1.length≤b.ops.length) {p3:Blk×Unit→Bool} {f3:Blk×Unit→Int×Int×Int×Int×Int×Int×List IOp×Unit} (hp3:∀b,b.ops.length<1000000→p3 (b,())=true) (hf3:∀b,b.ops.length<1000000→(f3 (b,())).2.2.2.2.2.2.1.length≤b.ops.length) {p4:Blk×Unit→Bool} {f4:Blk×Unit→Int×Int×Int×Int×Int×Int×List IOp×Unit} (hp4:∀b,b.ops.length<1000000→p4 (b,())=true) (hf4:∀b,b.ops.length<1000000→(f4 (b,())).2.2.2.2.2.2.1.length≤b.ops.length) (b:Blk) (hb:b.ops.length<1000000):Mc (std 0) p1 f1 p2 f2 p3 f3 p4 f4 (b,()) (fun y=>y.2.2.2.2.2.2.1.length≤b.ops.length):=by
  have a1:=hf2 b hb
  have m1:(XL (f2 (b,()))).ops.length<1000000:=Nat.lt_of_le_of_lt a1 hb
  have a2:=hf1 _ m1
  have m2:=Nat.lt_of_le_of_lt a2 m1
  have a3:=hf3 _ m2
  have m3:(XL (f3 ((f1 (XL (f2 (b,())),())).1,()))).ops.length<1000000:=Nat.lt_of_le_of_lt a3 m2
  have a4:=hf4 _ m3
  have m4:(XL (f4 (XL (f3 ((f1 (XL (f2 (b,())),())).1,())),()))).ops.length<1000000:=Nat.lt_of_le_of_lt a4 m3
  have a5:=hf3 _ m4
  exact⟨hp2 b hb,hp1 _ m1,hp3 _ m2,hp4 _ m3,hp3 _ m4,Nat.le_trans a5 (Nat.le_trans a4 (Nat.le_trans a3 (Nat.le_trans a2 a1)))⟩
theorem abq {p1:Blk×Unit→Bool} {f1:Blk×Unit→Bool×Unit} (hp1:∀b,b.ops.length<1000000000→p1 (b,())=true) (hf1:∀b,b.ops.length<1000000000→f1 (b,())=(bp (jy b),())) {p2:Int×Int×Int×Unit→Bool} {f2:Int×Int×Int×Unit→Int×Unit} (hp2:∀op a b,p2 (op,a,b,())=true) (hf2:∀op a b,f2 (op,a,b,())=(wdo op a b,())) {p3:Blk×Unit→Bool} {f3:Blk×Unit→Blk×Unit} (hp3:∀b,p3 (b,())=true) (hf3:∀b,(f3 (b,())).1.ops=b.ops) {p4:List IOp×Int×Unit→Bool} {f4:List IOp×Int×Unit→Int×Bool×Unit} (hp4:∀ops k,p4 (ops,k,())=true) {p5:Blk×Unit→Bool} {f5:Blk×Unit→Int×Int×Int×Int×Int×Int×List IOp×Unit} (hp5:∀b,b.ops.length<1000000→p5 (b,())=true) (hf5:∀b,b.ops.length<1000000→f5 (b,())=(b.pc,b.len,b.fin,b.x,b.y,b.k,b.ops,())) (b:Blk) (hb:b.ops.length<1000000):HV (std 0) p1 f1 p2 f2 p3 f3 p4 f4 p5 f5 (b,()) (fun y=>y.1.ops.length≤b.ops.length):=by
  dsimp only [HV,Alg.cl,Alg.bd,Alg.l1,Tup.q,Tup.o]
  simp (disch:=omega) only [RR,RB,hp1 b (by omega),hf1 b (by omega),hp5 b hb,hf5 b hb]
  refine⟨fun _=>Nat.zero_le _,fun _=> ?_⟩
  refine aA (fun(y:Int×Int×Int×Int×Int×Int×Int×Int×Int×Int×Int×Int×Int×List IOp×Unit)=>0≤y.1∧y.2.2.2.2.2.2.2.2.2.2.2.2.2.1.length=b.ops.length) (fun y=>((b.ops.length:Int)-y.1).toNat) ⟨by dsimp only;omega,rfl⟩ ?_
  rintro⟨(k:Int),u1,u2,u3,u4,u5,u6,b1,b2,b3,b4,b5,b6,(ops:List IOp),⟨⟩⟩ hI
  dsimp only at hI ⊢
  obtain⟨h1,h2⟩:=hI
  simp (disch:=omega) only [RR,RB,hp4,hp3,hf3,hp2,hf2,List.length_set]
  refine⟨fun h=> ?_,fun h=>by rw [←h2];exact Nat.le_refl _⟩
  simp only [show IntKind.i64.wrap (k+1)=k+1 from w64 (by omega) (by omega)]
  repeat' (first | (refine⟨?_,?_⟩) | intro _)
  all_goals omega
theorem abr {p1:Blk×Unit→Bool} {f1:Blk×Unit→Bool×Unit} (hp1:∀b,b.ops.length<1000000000→p1 (b,())=true) (hf1:∀b,b.ops.length<1000000000→f1 (b,())=(bp (jy b),())) {p2:Int×Int×Int×Unit→Bool} {f2:Int×Int×Int×Unit→Bool×Unit} (hp2:∀a b c,p2 (a,b,c,())=true) (hf2:∀a b c,f2 (a,b,c,())=(inB a b c,())) (b:Blk) (hb:b.ops.length<1000000):H7 (std 0) p1 f1 p2 f2 (b,()) (fun y=>jy b→y.1.length=b.ops.length):=by
  dsimp only [H7,Alg.cl,Alg.bd,Alg.l1,Tup.q,Tup.o]
  simp (disch:=omega) only [RR,RB,hp1 b (by omega),hf1 b (by omega)]
  refine⟨fun h h2=>absurd h (by rw [fJ h2];decide),fun h=> ?_⟩
  have ok:=bq.1 h
  have n48:=ok.sz
  refine aA (fun(y:Int×Blk×List Bool×Unit)=>0≤y.1∧y.1≤b.ops.length∧y.2.1=b∧(y.2.2.1.length:Int)=y.1) (fun y=>((b.ops.length:Int)-y.1).toNat) ⟨by dsimp only;omega,by dsimp only;omega,rfl,rfl⟩ ?_
  rintro⟨(k:Int),(b':Blk),(kp:List Bool),⟨⟩⟩ hI
  dsimp only at hI ⊢
  obtain⟨h1,h2,rfl,h3⟩:=hI
  simp (disch:=omega) only [RR,RB,List.length_append,List.length_cons,List.length_nil]
  refine⟨fun h=>⟨h1,h,by omega,⟨by omega,by omega,by omega⟩,by omega⟩,fun h=> ?_⟩
  have ex:¬b'.fin=1→0≤b'.x∧b'.x<kp.length:=fun c=>by have:=ok.en.x1 c;exact⟨this.1,by have:=this.2.1;omega⟩
  have ey:b'.fin=3∨b'.fin=4→0≤b'.y∧b'.y<kp.length:=fun c=>by have:=ok.en.y1 (by omega);exact⟨this.1,by have:=this.2.1;omega⟩
  refine⟨fun c=>⟨(ex c).1,(ex c).2,(ex c).1,(ex c).2,fun c2=>⟨(ey c2).1,by rw [List.length_set];exact(ey c2).2,(ey c2).1,by rw [List.length_set];exact(ey c2).2,?_⟩,fun c2=> ?_⟩,fun c=>⟨fun c2=>⟨(ey c2).1,(ey c2).2,(ey c2).1,(ey c2).2,?_⟩,fun c2=> ?_⟩⟩
  all_goals
    refine aA (fun(y:Int×Blk×List Bool×Unit)=>y.1<b'.ops.length∧y.2.1=b'∧y.2.2.1.length=b'.ops.length) (fun y=>(y.1+1).toNat) ⟨by dsimp only;omega,rfl,by simp only [List.length_set];omega⟩ ?_
    rintro⟨(j:Int),(b2:Blk),(kp2:List Bool),⟨⟩⟩ hI
    dsimp only at hI ⊢
    obtain⟨j1,rfl,j3⟩:=hI
    simp (disch:=omega) only [RR,RB,hp2,hf2,dz,List.length_set]
    refine⟨fun j0=> ?_,fun _ _=>j3⟩
    have op:=ok.op j j0 j1
    have ox:=op.x1
    have oy:=op.y1
    try simp only [show IntKind.i64.wrap (j-1)=j-1 from w64 (by omega) (by omega)]
    generalize ((b2.ops).getD (j).toNat default)=o at ox oy ⊢
    unfold hX at ox
    unfold hY at oy
    unfold Vl at ox oy
    repeat' (first | (refine⟨?_,?_⟩) | intro _)
    all_goals first | omega | (have:=ox (by omega);omega) | (have:=oy (by omega);omega) | rfl
end Go.TX.F
namespace Go.TX.F
open Go Go.AE Go.TX
theorem abt {p1:IOp×List Int×Unit→Bool} {f1:IOp×List Int×Unit→IOp×Unit} (hp1:∀o al,(hX o→0≤o.x∧o.x< (al.length:Int))→(hY o→0≤o.y∧o.y< (al.length:Int))→p1 (o,al,())=true) (hf1:∀o al,(hX o→0≤o.x∧o.x< (al.length:Int))→(hY o→0≤o.y∧o.y< (al.length:Int))→(f1 (o,al,())).1.kind=o.kind∧(f1 (o,al,())).1.k=o.k) (b:Blk) (kp:List Bool) (ok:jy b) (hk:kp.length=b.ops.length):HZ (std 0) p1 f1 (b,kp,()) (fun y=>y.2.2.2.2.2.2.1.length≤b.ops.length):=by
  have n48:=ok.sz
  dsimp only [HZ,Alg.cl,Alg.bd,Alg.l1,Tup.q,Tup.o]
  simp (disch:=omega) only [RR,RB]
  refine aA (fun(y:List Bool×Int×Blk×Int×Int×Int×Int×Int×Int×List IOp×List Int×Unit)=>y.1=kp∧0≤y.2.1∧y.2.1≤b.ops.length∧y.2.2.1=b∧(y.2.2.2.2.2.2.2.2.2.1.length:Int)≤y.2.1∧(y.2.2.2.2.2.2.2.2.2.2.1.length:Int)=y.2.1) (fun y=>((b.ops.length:Int)-y.2.1).toNat) ⟨rfl,by dsimp only;omega,by dsimp only;omega,rfl,by simp,rfl⟩ ?_
  rintro⟨(kp':List Bool),(k:Int),(b':Blk),u1,u2,u3,u4,u5,u6,(out:List IOp),(to:List Int),⟨⟩⟩ hI
  dsimp only at hI ⊢
  obtain⟨rfl,h1,h2,rfl,h3,h4⟩:=hI
  have A:k<b'.ops.length→∀z,p1 (((b'.ops).getD (k).toNat default),to++ [z],())=true:=fun h z=>by
    have op:=ok.op k h1 h
    refine hp1 _ _ (fun c=> ?_) (fun c=> ?_)
    · have:=op.x1 c;unfold Vl at this;rw [List.length_append];simp only [List.length_cons,List.length_nil];omega
    · have:=op.y1 c;unfold Vl at this;rw [List.length_append];simp only [List.length_cons,List.length_nil];omega
  have ex:¬k<b'.ops.length→¬b'.fin=1→0≤b'.x∧b'.x<to.length:=fun h c=>by have:=ok.en.x1 c;exact⟨this.1,by have:=this.2.1;omega⟩
  have ey:¬k<b'.ops.length→b'.fin=3∨b'.fin=4→0≤b'.y∧b'.y<to.length:=fun h c=>by have:=ok.en.y1 (by omega);exact⟨this.1,by have:=this.2.1;omega⟩
  simp (disch:=omega) only [RR,RB,List.length_append,List.length_cons,List.length_nil]
  refine⟨fun h=>⟨by omega,h1,by omega,fun _=>⟨h1,h,A h _,by omega,⟨by omega,by omega,by omega,by omega⟩,by omega⟩,fun _=>⟨⟨by omega,by omega,by omega,by omega⟩,by omega⟩⟩,fun h=> ?_⟩
  have ex:=ex h
  have ey:=ey h
  refine⟨fun c=>⟨(ex c).1,(ex c).2,(ex c).1,(ex c).2,fun c2=>⟨(ey c2).1,(ey c2).2,(ey c2).1,(ey c2).2,by omega⟩,fun _=>by omega⟩,fun c=>⟨fun c2=>⟨(ey c2).1,(ey c2).2,(ey c2).1,(ey c2).2,by omega⟩,fun _=>by omega⟩⟩
theorem abu {p1:Blk×Unit→Bool} {f1:Blk×Unit→Bool×Unit} (hp1:∀b,b.ops.length<1000000000→p1 (b,())=true) (hf1:∀b,b.ops.length<1000000000→f1 (b,())=(bp (jy b),())) {p2:Blk×Unit→Bool} {f2:Blk×Unit→List Bool×Unit} (hp2:∀b,b.ops.length<1000000→p2 (b,())=true) (hf2:∀b,b.ops.length<1000000→(jy b→(f2 (b,())).1.length=b.ops.length)) {p3:Blk×List Bool×Unit→Bool} {f3:Blk×List Bool×Unit→Int×Int×Int×Int×Int×Int×List IOp×Unit} (hp3:∀b kp,jy b→kp.length=b.ops.length→p3 (b,kp,())=true) (hf3:∀b kp,jy b→kp.length=b.ops.length→(f3 (b,kp,())).2.2.2.2.2.2.1.length≤b.ops.length) (b:Blk) (hb:b.ops.length<1000000):H8 (std 0) p1 f1 p2 f2 p3 f3 (b,()) (fun y=>y.2.2.2.2.2.2.1.length≤b.ops.length):=by
  dsimp only [H8,Alg.cl,Alg.bd,Alg.l1,Tup.q,Tup.o]
  simp (disch:=omega) only [RR,RB,hp1 b (by omega),hf1 b (by omega),hp2 b hb]
  refine⟨fun _=>Nat.zero_le _,fun h=> ?_⟩
  have ok:=bq.1 h
  exact⟨hp3 _ _ ok (hf2 b hb ok),hf3 _ _ ok (hf2 b hb ok)⟩
theorem abv {p1:Blk×Unit→Bool} {f1:Blk×Unit→Bool×Unit} (hp1:∀b,b.ops.length<1000000000→p1 (b,())=true) (hf1:∀b,b.ops.length<1000000000→f1 (b,())=(bp (jy b),())) {p2:Blk×List Bool×Unit→Bool} {f2:Blk×List Bool×Unit→Int×Int×Int×Int×Int×Int×List IOp×Unit} (hp2:∀b kp,jy b→kp.length=b.ops.length→p2 (b,kp,())=true) (hf2:∀b kp,jy b→kp.length=b.ops.length→(f2 (b,kp,())).2.2.2.2.2.2.1.length≤b.ops.length) {p3:List IOp×Int×Unit→Bool} {f3:List IOp×Int×Unit→Bool×Unit} (hp3:∀ops k,0≤k→k<ops.length→(ops.length:Int)<1000000→p3 (ops,k,())=true) (b:Blk) (hb:b.ops.length<1000000):H6 (std 0) p1 f1 p2 f2 p3 f3 (b,()) (fun y=>y.2.2.2.2.2.2.1.length≤b.ops.length):=by
  dsimp only [H6,Alg.cl,Alg.bd,Alg.l1,Tup.q,Tup.o]
  simp (disch:=omega) only [RR,RB,hp1 b (by omega),hf1 b (by omega)]
  refine⟨fun _=>Nat.zero_le _,fun h=> ?_⟩
  have ok:=bq.1 h
  refine aA (fun(y:Int×Blk×Int×Int×Int×Int×Int×Int×List Bool×Unit)=>0≤y.1∧y.1≤b.ops.length∧y.2.1=b∧(y.2.2.2.2.2.2.2.2.1.length:Int)=y.1) (fun y=>((b.ops.length:Int)-y.1).toNat) ⟨by dsimp only;omega,by dsimp only;omega,rfl,rfl⟩ ?_
  rintro⟨(k:Int),(b':Blk),u1,u2,u3,u4,u5,u6,(kp:List Bool),⟨⟩⟩ hI
  dsimp only at hI ⊢
  obtain⟨h1,h2,rfl,h3⟩:=hI
  simp (disch:=omega) only [RR,RB,List.length_append,List.length_cons,List.length_nil]
  refine⟨fun h=>⟨h1,h,Or.inr (hp3 _ _ h1 h (by omega)),by omega,⟨by omega,by omega,by omega⟩,by omega⟩,fun h=> ?_⟩
  have e:kp.length=b'.ops.length:=by omega
  exact⟨hp2 _ _ ok e,hf2 _ _ ok e⟩
theorem abw {p1:Blk×Unit→Bool} {f1:Blk×Unit→Bool×Unit} (hp1:∀b,b.ops.length<1000000000→p1 (b,())=true) (hf1:∀b,b.ops.length<1000000000→f1 (b,())=(bp (jy b),())) {p2:IOp×List Int×Unit→Bool} {f2:IOp×List Int×Unit→IOp×Unit} (hp2:∀o al,(hX o→0≤o.x∧o.x< (al.length:Int))→(hY o→0≤o.y∧o.y< (al.length:Int))→p2 (o,al,())=true) (hf2:∀o al,(hX o→0≤o.x∧o.x< (al.length:Int))→(hY o→0≤o.y∧o.y< (al.length:Int))→(f2 (o,al,())).1.kind=o.kind∧(f2 (o,al,())).1.k=o.k) {p3:Blk×Unit→Bool} {f3:Blk×Unit→Int×Int×Int×Int×Int×Int×List IOp×Unit} (hp3:∀b,b.ops.length<1000000→p3 (b,())=true) (hf3:∀b,b.ops.length<1000000→f3 (b,())=(b.pc,b.len,b.fin,b.x,b.y,b.k,b.ops,())) (b:Blk) (hb:b.ops.length<1000000):Ho (std 0) p1 f1 p2 f2 p3 f3 (b,()) (fun y=>y.2.2.2.2.2.2.1.length≤b.ops.length):=by
  dsimp only [Ho,Alg.cl,Alg.bd,Alg.l1,Tup.q,Tup.o]
  simp (disch:=omega) only [RR,RB,hp1 b (by omega),hf1 b (by omega),hp3 b hb,hf3 b hb]
  refine⟨fun _=>Nat.zero_le _,fun h=> ?_⟩
  have ok:=bq.1 h
  have n48:=ok.sz
  refine aA (fun(y:Int×Int×Int×Int×Int×Int×Int×Int×Int×Int×Int×Int×Int×List Int×List Int×List IOp×Unit)=>0≤y.1∧y.1≤b.ops.length∧y.2.2.2.2.2.2.2.2.2.1=b.fin∧y.2.2.2.2.2.2.2.2.2.2.1=b.x∧y.2.2.2.2.2.2.2.2.2.2.2.1=b.y∧(y.2.2.2.2.2.2.2.2.2.2.2.2.2.1.length:Int)=y.1∧y.2.2.2.2.2.2.2.2.2.2.2.2.2.2.1.length=4∧
    y.2.2.2.2.2.2.2.2.2.2.2.2.2.2.2.1.length=b.ops.length∧∀j:Int,y.1≤j→((y.2.2.2.2.2.2.2.2.2.2.2.2.2.2.2.1).getD (j).toNat default)=((b.ops).getD (j).toNat default)) (fun y=>((b.ops.length:Int)-y.1).toNat) ⟨by dsimp only;omega,by dsimp only;omega,rfl,rfl,rfl,rfl,rfl,rfl,fun _ _=>rfl⟩ ?_
  rintro⟨(k:Int),u1,u2,u3,u4,u5,u6,b1,b2,b3,b4,b5,b6,(al:List Int),(la:List Int),(ops:List IOp),⟨⟩⟩ hI
  dsimp only at hI ⊢
  obtain⟨h1,h2,rfl,rfl,rfl,h3,h4,h5,h6⟩:=hI
  have e:=h6 k (Int.le_refl _)
  simp (disch:=omega) only [RR,RB,e,List.length_append,List.length_cons,List.length_nil,List.length_set]
  have fin:¬k<ops.length→(¬b.fin=1→0≤b.x∧b.x<al.length)∧(b.fin=3∨b.fin=4→0≤b.y∧b.y<al.length):=fun h=>⟨fun c=>by have:=ok.en.x1 c;exact⟨this.1,by have:=this.2.1;omega⟩,fun c=>by have:=ok.en.y1 (by omega);exact⟨this.1,by have:=this.2.1;omega⟩⟩
  refine⟨fun h=> ?_,fun h=> ?_⟩
  · have op:=ok.op k h1 (by omega)
    have hx:hX ((b.ops).getD (k).toNat default)→0≤((b.ops).getD (k).toNat default).x∧((b.ops).getD (k).toNat default).x< (al.length:Int):=fun c=>⟨(op.x1 c).1,by have:=(op.x1 c).2.1;omega⟩
    have hy:hY ((b.ops).getD (k).toNat default)→0≤((b.ops).getD (k).toNat default).y∧((b.ops).getD (k).toNat default).y< (al.length:Int):=fun c=>⟨(op.y1 c).1,by have:=(op.y1 c).2.1;omega⟩
    obtain⟨g1,g2⟩:=hf2 _ al hx hy
    have A:=hp2 _ al hx hy
    have k2:=op.k2
    have S:∀v j,k+1≤j→(ops.set k.toNat v).getD j.toNat default=((b.ops).getD (j).toNat default):=fun v j hj=>by
      rw [←h6 j (by omega)]
      simp only [List.getD,List.getElem?_set_ne (show k.toNat≠j.toNat by omega)]
    simp only [A]
    rw [←g1,←g2]at k2
    generalize (f2 (((b.ops).getD (k).toNat default),al,())).1=F at k2 ⊢
    repeat' (first | (refine⟨?_,?_⟩) | intro _)
    all_goals first | omega | exact True.intro | rfl | exact S _ _ (by assumption)
  · obtain⟨ex,ey⟩:=fin h
    refine⟨fun c=>⟨(ex c).1,(ex c).2,(ex c).1,(ex c).2,fun c2=>⟨(ey c2).1,(ey c2).2,(ey c2).1,(ey c2).2,by omega⟩,fun _=>by omega⟩,fun c=>⟨fun c2=>⟨(ey c2).1,(ey c2).2,(ey c2).1,(ey c2).2,by omega⟩,fun _=>by omega⟩⟩
end Go.TX.F
namespace Go.TX.F
open Go Go.AE Go.TX
structure BkD (m:Int) (n:Nat) (b:List Int) (p:Int) (y:Int×Int×Int×Int×Int×Int×List Int×Int×List IOp×Unit):Prop where
  b:y.2.2.2.2.2.2.1=b
  lo:p≤y.2.2.2.2.2.2.2.1
  hi:y.2.2.2.2.2.2.2.1≤p+m
  len:y.2.2.2.2.2.2.2.2.1.length≤n
theorem abx {p1:Int×List Ins×Unit→Bool} {f1:Int×List Ins×Unit→Int×Int×Int×Int×Int×Int×List IOp×Unit} (hp1:∀pc l,(l.length:Int)<1000→KB l→p1 (pc,l,())=true) (hf1:∀pc l,(l.length:Int)<1000→KB l→((f1 (pc,l,())).2.2.2.2.2.2.1.length:Int)≤5000) {p2:Blk×Unit→Bool} {f2:Blk×Unit→Int×Int×Int×Int×Int×Int×List IOp×Unit} (hp2:∀b,b.ops.length<1000000→p2 (b,())=true) (hf2:∀b,b.ops.length<1000000→(f2 (b,())).2.2.2.2.2.2.1.length≤b.ops.length) {p3:Blk×Unit→Bool} {f3:Blk×Unit→Int×Int×Int×Int×Int×Int×List IOp×Unit} (hp3:∀b,b.ops.length<1000000→p3 (b,())=true) (hf3:∀b,b.ops.length<1000000→(f3 (b,())).2.2.2.2.2.2.1.length≤b.ops.length) {p4:Int×List Int×Int×Unit→Bool} {f4:Int×List Int×Int×Unit→Int×List Int×Int×Unit} (hp4:∀n b p,Bt b→0≤p→p<1000000000→p4 (n,b,p,())=true) (hf4:∀n b p,Bt b→0≤p→p<1000000000→Pk n b p (f4 (n,b,p,()))) {p5:List Int×Int×Unit→Bool} {f5:List Int×Int×Unit→List Int×Int×List Ins×Unit} (hp5:∀b p,Bt b→0≤p→p<700000000→p5 (b,p,())=true) (hf5:∀b p,Bt b→0≤p→p<700000000→LiD b p (f5 (b,p,()))) (b:List Int) (p:Int) (hb:Bt b) (h1:0≤p) (h2:p<600000000):Iw (std 0) p1 f1 p2 f2 p3 f3 p4 f4 p5 f5 (b,p,()) (fun y=>BkD 2000 5000 b p y):=by
  obtain⟨a1,a2,a3,a4,a5⟩:=hf5 b p hb h1 (by omega)
  have R:=pkR hb hf4
  have P:=fun n p h1 h2=>hp4 n b p hb h1 h2
  have L:=fun pc=>hf1 pc _ (show((f5 (b,p,())).2.2.1.length:Int)<1000 by omega) a5
  have O1:=fun c (h:c.ops.length≤5000)=>hp2 c (by omega)
  have O2:=fun c (h:c.ops.length≤5000)=>hf2 c (by omega)
  have O3:=fun c (h:c.ops.length≤5000)=>hp3 c (by omega)
  have O4:=fun c (h:c.ops.length≤5000)=>hf3 c (by omega)
  dsimp only [Iw,Alg.cl,Alg.bd,Alg.l1,Tup.q,Tup.o]
  simp (disch:=omega) only [RR,hp5 b p hb h1 (by omega),a1,R,P,hp1 _ _ (show((f5 (b,p,())).2.2.1.length:Int)<1000 by omega) a5,List.length_cons,List.length_nil]
  have L':∀pc,(f1 (pc,(f5 (b,p,())).2.2.1,())).2.2.2.2.2.2.1.length≤5000:=fun pc=>by have:=L pc;omega
  refine⟨fun _=>⟨O1 _ (L' _),rfl,by dsimp only;omega,by dsimp only;omega,Nat.le_trans (O2 _ (L' _)) (L' _)⟩,fun _=>⟨fun _=>⟨O3 _ (L' _),rfl,by dsimp only;omega,by dsimp only;omega,Nat.le_trans (O4 _ (L' _)) (L' _)⟩,fun _=>⟨rfl,by dsimp only;omega,by dsimp only;omega,L' _⟩⟩⟩
end Go.TX.F
namespace Go.TX.F
open Go Go.AE Go.TX
theorem aby {p1:Int×List Int×Int×Unit→Bool} {f1:Int×List Int×Int×Unit→Int×List Int×Int×Unit} (hp1:∀n b p,Bt b→0≤p→p<1000000000→p1 (n,b,p,())=true) (hf1:∀n b p,Bt b→0≤p→p<1000000000→Pk n b p (f1 (n,b,p,()))) {p2:Blk×Unit→Bool} {f2:Blk×Unit→Int×Int×Int×Int×Int×Int×List IOp×Unit} (hp2:∀b,b.ops.length<1000000→p2 (b,())=true) (hf2:∀b,b.ops.length<1000000→f2 (b,())=(b.pc,b.len,b.fin,b.x,b.y,b.k,b.ops,())) (c:Blk) (b:List Int) (p:Int) (hc:c.ops.length<1000000) (hb:Bt b) (h1:0≤p) (h2:p<900000000):Da (std 0) p1 f1 p2 f2 (c,b,p,()) (fun y=>BkD 20 c.ops.length b p y):=by
  have R:=pkR hb hf1
  have P:=fun n p h1 h2=>hp1 n b p hb h1 h2
  by_cases z:(c.ops.length:Int)=0
  · dsimp only [Da,Alg.cl,Alg.bd,Alg.l1,Tup.q,Tup.o]
    simp (disch:=omega) only [RR,RB,hp2 c hc,hf2 c hc,z]
    exact⟨rfl,by dsimp only;omega,by dsimp only;omega,Nat.le_refl _⟩
  have B:=(hf1 c.ops.length b p hb h1 (by omega)).2.2
  have W:IntKind.i64.wrap ((f1 (c.ops.length,b,p,())).1-1)=(f1 (c.ops.length,b,p,())).1-1:=w64 (by omega) (by omega)
  dsimp only [Da,Alg.cl,Alg.bd,Alg.l1,Tup.q,Tup.o]
  simp (disch:=omega) only [RR,RB,hp2 c hc,hf2 c hc,R,P,z,List.length_set,W]
  repeat' (first | (refine And.intro ?_ ?_) | intro _)
  all_goals first | omega | exact⟨rfl,by dsimp only;omega,by dsimp only;omega,by dsimp only [ZE];simp only [List.length_set,List.length_take,List.length_drop];omega⟩ | exact⟨rfl,by dsimp only;omega,by dsimp only;omega,by simp only [List.length_drop,List.length_take];omega⟩ | exact⟨rfl,by dsimp only;omega,by dsimp only;omega,Nat.le_refl _⟩
structure BoD (b:List Int) (p:Int) (y:Blk×List Int×Int×Unit):Prop where
  len:y.1.ops.length<100000
  b:y.2.1=b
  lo:p≤y.2.2.1
  hi:y.2.2.1≤p+5000
theorem abz {p1:Int×List Int×Int×Unit→Bool} {f1:Int×List Int×Int×Unit→Bool×List Int×Int×Unit} (hp1:∀n b p,Bt b→0≤p→p<1000000000→p1 (n,b,p,())=true) (hf1:∀n b p,Bt b→0≤p→p<1000000000→(f1 (n,b,p,())).2.1=b∧(f1 (n,b,p,())).2.2.1=p+1) {p2:Int×List Int×Int×Unit→Bool} {f2:Int×List Int×Int×Unit→Int×List Int×Int×Unit} (hp2:∀n b p,Bt b→0≤p→p<1000000000→p2 (n,b,p,())=true) (hf2:∀n b p,Bt b→0≤p→p<1000000000→Pk n b p (f2 (n,b,p,()))) {p3:Blk×List Int×Int×Unit→Bool} {f3:Blk×List Int×Int×Unit→Int×Int×Int×Int×Int×Int×List Int×Int×List IOp×Unit} (hp3:∀c b p,c.ops.length<1000000→Bt b→0≤p→p<900000000→p3 (c,b,p,())=true) (hf3:∀c b p,c.ops.length<1000000→Bt b→0≤p→p<900000000→BkD 20 c.ops.length b p (f3 (c,b,p,()))) {p4:List Int×Int×Unit→Bool} {f4:List Int×Int×Unit→Int×Int×Int×Int×Int×Int×List Int×Int×List IOp×Unit} (hp4:∀b p,Bt b→0≤p→p<600000000→p4 (b,p,())=true) (hf4:∀b p,Bt b→0≤p→p<600000000→BkD 2000 5000 b p (f4 (b,p,()))) (n:Int) (b:List Int) (p:Int) (hb:Bt b) (h1:0≤p) (h2:p<500000000):IJ (std 0) p1 f1 p2 f2 p3 f3 p4 f4 (n,b,p,()) (fun y=>BoD b p y):=by
  obtain⟨a1,a2,a3,a4⟩:=hf4 b p hb h1 (by omega)
  have H4:=hp4 b p hb h1 (by omega)
  have R:=pkR hb hf2
  have P:=fun n p h1 h2=>hp2 n b p hb h1 h2
  have R1:=fun n p h1 h2=>(hf1 n b p hb h1 h2).1
  have R2:=fun n p h1 h2=>(hf1 n b p hb h1 h2).2
  have P1:=fun n p h1 h2=>hp1 n b p hb h1 h2
  dsimp only [IJ,Alg.cl,Alg.bd,Alg.l1,Tup.q,Tup.o]
  simp (disch:=omega) only [RR,RB,H4,a1,R,P,R1,R2,P1,List.length_cons,List.length_nil,List.length_append]
  repeat' (first | (refine And.intro ?_ ?_) | intro _)
  all_goals try omega
  all_goals try exact BoD.mk (show(f4 (b,p,())).2.2.2.2.2.2.2.2.1.length<100000 by omega) rfl (by dsimp only;omega) (by dsimp only;omega)
  all_goals try exact hp3 _ _ _ (show(f4 (b,p,())).2.2.2.2.2.2.2.2.1.length<1000000 by omega) hb (by omega) (by omega)
  all_goals try exact BoD.mk (show(_++ [_]).length<100000 by rw [List.length_append,List.length_singleton];omega) rfl (by dsimp only;omega) (by dsimp only;omega)
  all_goals try exact(fun h=>BoD.mk (Nat.lt_of_le_of_lt h.len (show(f4 (b,p,())).2.2.2.2.2.2.2.2.1.length<100000 by omega)) h.b (by have:=h.lo;dsimp only;omega) (by have:=h.hi;dsimp only;omega)) (hf3 _ _ _ (show(f4 (b,p,())).2.2.2.2.2.2.2.2.1.length<1000000 by omega) hb (by omega) (by omega))
  all_goals
    refine aA (fun(y:List Int×Int×Int×Int×Int×Int×Int×Int×Int×Int×Int×Int×Int×Int×List IOp×Unit)=>y.1=b∧p≤y.2.1∧y.2.1≤p+5000∧y.2.2.2.2.2.2.2.2.2.2.2.2.2.2.1.length<50000) (fun y=>50-y.2.2.2.2.2.2.2.2.2.2.2.2.2.2.1.length) ⟨rfl,by dsimp only;omega,by dsimp only;omega,by dsimp only;omega⟩ ?_
    rintro⟨(b':List Int),(q:Int),u1,u2,u3,u4,u5,u6,b1,b2,b3,b4,b5,b6,(ops:List IOp),⟨⟩⟩ hI
    dsimp only at hI ⊢
    obtain⟨rfl,h3,h4,h5⟩:=hI
    simp (disch:=omega) only [RR,List.length_append,List.length_cons,List.length_nil]
    refine⟨fun h=>⟨by omega,⟨by omega,by omega,by omega⟩,by omega⟩,fun h=>⟨show ops.length<100000 by omega,rfl,by dsimp only;omega,by dsimp only;omega⟩⟩
end Go.TX.F
namespace Go.TX.F
open Go Go.AE Go.TX
theorem abA {p1:List Int×Unit→Bool} {f1:List Int×Unit→List Int×Int×Unit} (hp1:∀b,By b→b.length<1000000000→p1 (b,())=true) (hf1:∀b,By b→b.length<1000000000→Bt (f1 (b,())).1∧(f1 (b,())).2.1=0) {p2:Int×List Int×Int×Unit→Bool} {f2:Int×List Int×Int×Unit→Blk×List Int×Int×Unit} (hp2:∀n b p,Bt b→0≤p→p<500000000→p2 (n,b,p,())=true) (hf2:∀n b p,Bt b→0≤p→p<500000000→BoD b p (f2 (n,b,p,()))) {p3:Int×List Int×Int×Unit→Bool} {f3:Int×List Int×Int×Unit→List Int×Int×List Atom×Unit} (hp3:∀n b p,Bt b→0≤p→p<300000000→p3 (n,b,p,())=true) (hf3:∀n b p,Bt b→0≤p→p<300000000→(f3 (n,b,p,())).1=b∧p≤(f3 (n,b,p,())).2.1∧(f3 (n,b,p,())).2.1≤p+20000∧ShT (f3 (n,b,p,())).2.2.1∧0< (f3 (n,b,p,())).2.2.1.length) (c:List Int) (hc:By c) (hl:c.length<1000000000):Jg (std 0) p1 f1 p2 f2 p3 f3 (c,()) (fun y=>ShT y.1∧0<y.1.length∧y.2.1.ops.length<100000):=by
  obtain⟨hb,e0⟩:=hf1 c hc hl
  generalize hbe:(f1 (c,())).1=b at hb
  obtain⟨a1,a2,a3,a4,a5⟩:=hf3 20 b 0 hb (by omega) (by omega)
  obtain⟨b1,b2,b3,b4⟩:=hf2 14 b (f3 (20,b,0,())).2.1 hb (by omega) (by omega)
  dsimp only [Jg,Alg.cl,Alg.bd,Alg.l1,Tup.q,Tup.o]
  simp (disch:=omega) only [RR,hp1 c hc hl,hbe,e0,hp3 20 b 0 hb (by omega) (by omega),a1,hp2 14 b (f3 (20,b,0,())).2.1 hb (by omega) (by omega)]
  exact⟨a4,a5,b1⟩
end Go.TX.F
namespace Go.TX.F
open Go Go.AE Go.TX
theorem KR (a b:List IOp):gY (a++b)=gY a++gY b:=List.filter_append ..
theorem abB {ops:List IOp} {k:Nat} (hk:k<ops.length) (h:evO (ops.getD k default)):(gY (ops.take k)).length< (gY ops).length∧(gY ops).getD (gY (ops.take k)).length default=ops.getD k default:=by
  have e:ops=ops.take k++ops.drop k:=(List.take_append_drop k ops).symm
  have e2:gY (ops.drop k)=ops.getD k default::gY (ops.drop (k+1)):=by
    rw [getD_lt hk]at h ⊢
    rw [List.drop_eq_getElem_cons hk]
    unfold gY
    rw [List.filter_cons_of_pos (by simp only [decide_eq_true_eq];exact h)]
  have e3:gY ops=gY (ops.take k)++ops.getD k default::gY (ops.drop (k+1)):=by
    rw [←e2,←KR,←e]
  constructor
  · rw [e3,List.length_append,List.length_cons];omega
  · rw [e3]
    simp only [List.getD,List.getElem?_append_right (Nat.le_refl _),Nat.sub_self,List.getElem?_cons_zero,Option.getD_some]
theorem Tw {ops:List IOp} {k:Nat} (hk:k<ops.length):(gY (ops.take (k+1))).length=(gY (ops.take k)).length+if evO (ops.getD k default)then 1 else 0:=by
  rw [List.take_succ_eq_append_getElem hk,KR,List.length_append,getD_lt hk]
  congr 1
  unfold gY
  by_cases h:evO ops[k]
  · rw [if_pos h,List.filter_cons_of_pos (by simp only [decide_eq_true_eq];exact h)];rfl
  · rw [if_neg h,List.filter_cons_of_neg (by simp only [decide_eq_true_eq];exact h)];rfl
theorem al1 {E:List Ev} {O:List IOp} (h:E.map evT=O.map opT) {m:Nat} (hm:m<O.length):evT (E.getD m default)=opT (O.getD m default):=by
  have hl:E.length=O.length:=by rw [←List.length_map (f:=evT),h,List.length_map]
  have e:(E.map evT)[m]'(by rw [List.length_map];omega)=(O.map opT)[m]'(by rw [List.length_map];omega):=by simp only [h]
  rw [getD_lt (by omega),getD_lt hm]
  simpa only [List.getElem_map]using e
theorem agz {p1:List Atom×Blk×Unit→Bool} {f1:List Atom×Blk×Unit→List Atom×Sym×Unit} (hp1:∀t b,ShT t→b.ops.length<1000000000→p1 (t,b,())=true) (hf1:∀t b,ShT t→b.ops.length<1000000000→f1 (t,b,())=((bX t b).1,(bX t b).2,())) {p2:List Atom×Unit→Bool} {f2:List Atom×Unit→Bool×Unit} (hp2:∀a,ShT a→p2 (a,())=true) (hf2:∀a,ShT a→f2 (a,())=(bp (aI a),())) {p3:Unit→Bool} {f3:Unit→Bool×Unit} (hp3:p3 ()=true) (hf3:f3 ()=(true,())) {p4:List Int×Unit→Bool} {f4:List Int×Unit→List Atom×Blk×Unit} (hp4:∀c,By c→c.length<1000000000→p4 (c,())=true) (hf4:∀c,By c→c.length<1000000000→ShT (f4 (c,())).1∧0< (f4 (c,())).1.length∧(f4 (c,())).2.1.ops.length<100000) (c:List Int) (hc:By c):QJ (std 0) p1 f1 p2 f2 p3 f3 p4 f4 (c,()) (fun y=>y=(true,())):=by
  dsimp only [QJ,Alg.cl,Alg.bd,Alg.l1,Tup.q,Tup.o]
  simp (disch:=omega) only [RR]
  by_cases hl:1048576< (c.length:Int)
  · simp (disch:=omega) only [RR,hl]
  · obtain⟨s1,s2,s3⟩:=hf4 c hc (by omega)
    have P4:=hp4 c hc (by omega)
    generalize (f4 (c,())).1=t at s1 s2 ⊢
    generalize (f4 (c,())).2.1=b at s3 ⊢
    simp (disch:=omega) only [RR,hl,P4,RB,hp1 t b s1 (by omega),hf1 t b s1 (by omega),hp3,hf3]
    refine⟨fun h0=> ?_,fun h0=> ?_⟩
    · have e:(bX t b).2.events.length=0:=by
        unfold bX
        split
        · rename_i h
          have h:=bq.1 h
          have:=(D5 h.1 h.2.1 h.2.2).ne
          omega
        · rfl
      rw [e];rfl
    · have ok:aI t∧t.length≤100∧jy b:=by
        by_cases h:aI t∧t.length≤100∧jy b
        · exact h
        · exact absurd (show((bX t b).1.length:Int)=0 by unfold bX;rw [if_neg (by rw [iY h];decide)];rfl) h0
      have S:=D5 ok.1 ok.2.1 ok.2.2
      have T:=(KP ok.1 ok.2.1 ok.2.2).1
      generalize (bX t b).1=u at T ⊢
      have ev:=S.evs
      have r4:=S.r4
      generalize (bX t b).2=s at ev r4 ⊢
      have le:s.events.length=(gY b.ops).length:=by rw [←List.length_map (f:=evT),ev,List.length_map]
      refine aA (fun(y:Int×Int×Blk×List Atom×Sym×Unit)=>0≤y.2.1∧y.2.1≤b.ops.length∧y.2.2.1=b∧y.2.2.2.1=u∧y.2.2.2.2.1=s∧y.1=(gY (b.ops.take y.2.1.toNat)).length) (fun y=>((b.ops.length:Int)-y.2.1).toNat) ⟨by dsimp only;omega,by dsimp only;omega,rfl,rfl,rfl,rfl⟩ ?_
      rintro⟨(n:Int),(k:Int),(b':Blk),(u':List Atom),(s':Sym),⟨⟩⟩ hI
      dsimp only at hI ⊢
      obtain⟨h1,h2,rfl,rfl,rfl,rfl⟩:=hI
      simp (disch:=omega) only [RR,RB,hp2 _ T.sh,hf2 _ T.sh,fJ T]
      have tk:k<b'.ops.length→(gY (b'.ops.take (k+1).toNat)).length=(gY (b'.ops.take k.toNat)).length+if evO ((b'.ops).getD (k).toNat default)then 1 else 0:=fun h=>by
        rw [show(k+1).toNat=k.toNat+1 by omega];exact Tw (by omega)
      have wl:(gY (b'.ops.take k.toNat)).length≤b'.ops.length:=Nat.le_trans (List.length_filter_le _ _) (by rw [List.length_take];omega)
      refine⟨fun h=>⟨h1,h,fun h5=> ?_,fun h5=> ?_⟩,fun h=> ?_⟩
      · rw [tk h,if_neg (by unfold evO;omega)];omega
      · have at_:=abB (ops:=b'.ops) (k:=k.toNat) (by omega) (by unfold evO;omega)
        have et:=al1 ev at_.1
        rw [at_.2]at et
        rw [tk h,if_pos (by unfold evO;omega)]
        generalize (gY (b'.ops.take k.toNat)).length=m at*
        simp only [Int.toNat_natCast]
        generalize ((b'.ops).getD (k).toNat default)=o at et h5 ⊢
        unfold evT opT at et
        have t1:(s'.events.getD m default).kind=o.kind:=congrArg (·.1) et
        have t2:(s'.events.getD m default).at_=o.at_:=congrArg (·.2.1) et
        have t3:(s'.events.getD m default).regs.length=if o.kind=4∨o.kind=5 then 4 else 0:=congrArg (·.2.2) et
        have t4:((decide (o.kind=4) || decide (o.kind=5))==decide (((s'.events.getD m default).regs.length:Int)=4))=true:=by
          rw [t3]
          by_cases c:o.kind=4∨o.kind=5
          · rw [if_pos c];rcases c with c | c<;>rw [c]<;>decide
          · rw [if_neg c,decide_eq_false (fun h=>c (Or.inl h)),decide_eq_false (fun h=>c (Or.inr h))];decide
        refine⟨fun h6=>absurd h6 (by omega),fun h6=>⟨by omega,by omega,fun h7=> ?_,fun h7=>⟨⟨by omega,by omega,by rw [w64 (by omega) (by omega)];omega⟩,by omega⟩⟩⟩
        rcases h7 with(h7 | h7) | h7
        · exact absurd t1 h7
        · exact absurd t2 h7
        · exact absurd (h7.symm.trans t4) (by decide)
      · have e:(gY (b'.ops.take k.toNat)).length=s'.events.length:=by rw [le,List.take_of_length_le (by omega)]
        rw [e,r4];simp
end Go.TX.F
namespace Go.TX.F
open Go Go.AE Go.TX
end Go.TX.F
namespace Go.TX
open Go Go.AE
theorem enters_of {P:Program} {f:FuncId} {fn:Func} {c:Code} (hf:P.funcs[f]? =some fn) (hname:(fn.name== "runtime.NumGoroutine")=false) (hb:fn.body=some c):Enters P f:=by
  intro args w
  have h1:fn.name≠ "runtime.NumGoroutine" :=by simpa using hname
  simp [callFunc,hf,h1,hb,mark]
def VP (P:Program):Nat→List Field→Bool
  | _,[]=>true
  | k,f::fs=> !(f.name== "_")&&f.offset==k&& (match P.underlying f.type with | some (.int _)=>true | _=>false)&&VP P (k+1) fs
theorem VQ {P:Program} (w:World) (d:Nat) (xs ys:List Int) (hl:xs.length=ys.length):∀(fs:List Field) (k:Nat),VP P k fs=true→k+fs.length=xs.length→
    (Op.eqFields (d+1) (xs.map (Value.int .i64)).toArray (ys.map (Value.int .i64)).toArray fs).run P w= .ok (xs.drop k==ys.drop k) w
  | [],k,_,h2=>by
    rw [List.drop_eq_nil_of_le (show xs.length≤k by simp only [List.length_nil]at h2;omega),List.drop_eq_nil_of_le (show ys.length≤k by simp only [List.length_nil]at h2;omega)]
    simp [Op.eqFields]
  | f::fs,k,h1,h2=>by
    simp only [List.length_cons]at h2
    simp only [VP,Bool.and_eq_true,Bool.not_eq_true',beq_eq_false_iff_ne,beq_iff_eq]at h1
    obtain⟨⟨⟨n1,n2⟩,n3⟩,n4⟩:=h1
    have hk:k<xs.length:=by omega
    have hk':k<ys.length:=by omega
    obtain⟨kd,hu⟩:∃kd,P.underlying f.type=some (.int kd):=by
      cases hu:P.underlying f.type with
      | none=>rw [hu]at n3;cases n3
      | some z=>cases z<;>(first | exact⟨_,rfl⟩ | (rw [hu]at n3;cases n3))
    have pk:P.plainKey f.type=true:=by unfold Program.plainKey;rw [hu]
    have p1:=run_part_plain w pk (xs:=(xs.map (Value.int .i64)).toArray) (off:=f.offset) (v:= .int .i64 xs[k]) (by rw [n2];simp [hk])
    have p2:=run_part_plain w pk (xs:=(ys.map (Value.int .i64)).toArray) (off:=f.offset) (v:= .int .i64 ys[k]) (by rw [n2];simp [hk'])
    have ih:=VQ w d xs ys hl fs (k+1) n4 (by omega)
    simp only [Op.eqFields,if_pos n1,Sem.run_bind,p1,p2,Result.andThen_ok,run_equalIn_int w d f.type .i64 kd _ _ hu]
    have e:(xs.drop k==ys.drop k)=((xs[k]==ys[k])&& (xs.drop (k+1)==ys.drop (k+1))):=by rw [List.drop_eq_getElem_cons hk,List.drop_eq_getElem_cons hk'];rfl
    rw [e]
    by_cases c:(xs[k]==ys[k])=true
    · rw [c]
      simp only [Bool.not_true,Bool.false_eq_true,if_false,ih,Bool.true_and]
    · have c2:(xs[k]==ys[k])=false:=by simpa using c
      rw [c2]
      simp only [Bool.not_false,if_true,Sem.run_pure,Bool.false_and]
theorem al2 {P:Program} {t:TypeId} {n:Nat} (hu:P.underlying t=some (.struct (P.fieldsOf t))) (hs:P.stoodInHeld t=false) (hg:P.eqGuardType P.depth t=false) (hf:VP P 0 (P.fieldsOf t).toList=true) (hn:(P.fieldsOf t).size=n) (xs ys:List Int) (hx:xs.length=n) (hy:ys.length=n) (w:World):
    (Op.equal t (.agg (xs.map (Value.int .i64)).toArray) (.agg (ys.map (Value.int .i64)).toArray)).run P w= .ok (xs==ys) w∧
    (eqGuard .eql t (.tmp 0) (.tmp 0) (.agg (xs.map (Value.int .i64)).toArray) (.agg (ys.map (Value.int .i64)).toArray)).run P w= .ok () w:=by
  refine⟨?_,run_eqGuard_agg w _ _ _ _ _ _ hg⟩
  show(Op.equalIn (9999+1) t _ _).run P w=_
  rw [run_equalIn_struct w 9999 t _ _ hu hs,VQ w 9998 xs ys (by omega) _ 0 hf (by rw [Array.length_toList];omega)]
  rfl
noncomputable def never (s:Sig):Ct ak s:={pre:=fun _=>false,fn:=fun _=>Classical.choice (wO _)}
theorem lN {E:Tab} {f:FuncId} {s:Sig} (h:Enters E.P f):dH E f (dF (never s)) where
  enters:=h
  calls:=by
    rintro args hh n K ⟨m,vs,h2,h3,h4,h5,cr,h6,h7,h8⟩
    exfalso
    unfold tX at h6
    split at h6
    · split at h6
      · split at h6
        · split at h6
          · cases h6
            have:=h7 false (List.mem_append_right _ (List.mem_singleton.2 rfl))
            cases this
          · cases h6
        · cases h6
      · cases h6
    · cases h6
abbrev aqT:Sig:={args:=[.c (.rows true .u8)],objs:=[],res:=[.c .bool],eu:=[]}
def entry (W:World):Ctx:={K:=fun _ b=>b<W.heap.size,μ:=fun _=>none,n:=0}
theorem Tx (W:World):bO (entry W) W []:=
  ⟨fun l o h=>(by cases h),fun l o l' o' b h=>(by cases h),fun f b ⟨l,o,h,_⟩=>(by cases h),fun f b h=>h,fun b h=>h⟩
theorem QU {W W':World} {c':Ctx} {h':Heap} (g:Grow (entry W) W [] c' W' h'):RowKit.Below W.heap.size W W':=
  ⟨g.os,g.tape,g.output,g.size,fun k hk=>g.kept k hk fun⟨l,o,h,_⟩=>by cases h⟩
theorem ae8 {c:Ctx} {w:World} {v:Value} {r:PV} {N:NM} {b:Bool} (h1:bN c w v r) (h2:PVR N r (.c (.d true (.bool b)))):v= .bool b:=by
  cases h2 with
  | one h=>
    cases h with
    | c h=>
      cases h with
      | d h3 _=>
        subst h3
        cases h1 with
        | c _ _ h4=>cases h4 with
          | d _ _ _ h5=>cases h5;rfl
    | agg h=>cases h
theorem aqU {E:Tab} {f:FuncId} {c:Ct ak aqT} (hc:dH E f (dF c)) {xs:List Int} {W:World} {v:Value} (hv:dZ (fun b=>b<W.heap.size) W v (.rows 1 (aQ .u8 xs)))
    (hg:tC E (entry W) W) (hp:c.pre (xs,())=true):Go.Calls E.P f #[v] W fun e W'=>e= .returned (.bool (c.fn (xs,())).1)∧RowKit.Below W.heap.size W W':=by
  refine(hc.calls [.c (.d true (.rows 1 (aQ .u8 xs)))] [] 0 (fun r _ _=>PVR (nmh []) r (.c (.d true (.bool (c.fn (xs,())).1)))) ?_ (entry W) W [v] rfl (.cons (.c _ _ (.d true _ _ hv)) .nil) (Tx W) hg).mono ?_
  · refine⟨0,[.c (.d true (.rows .u8 xs))],[],.cons (.one (.c (.d rfl fun _=> .inl rfl))) .nil,⟨fun l o h=>(by cases h),fun _ _=>rfl⟩,rfl,_,rfl,?_,_,_,rfl,?_⟩
    · intro b hb
      rcases List.mem_append.1 hb with h | h
      · cases h
      · rw [List.mem_singleton]at h;rw [h];exact hp
    · intro r _ _ h _ _ _;exact h
  · rintro e W' he
    cases e with
    | returned u=>
      obtain⟨c',r,h',j,g,_,_,h1,h2⟩:=he
      exact⟨by rw [ae8 h1 h2],QU g⟩
    | outgrown=>exact he.elim
    | panicked _=>exact he.elim
open Go.RowKit Go.ChangeShapes Go.WideShapes Go.ChangeAt in
theorem abC {H:Type} {enc:TypeId×Value→H} {P:Program} {t e:TypeId} (ht:P.underlying t=some (.slice e)) (he:P.underlying e=some (.int .u8)) (hc:P.cellsOf e=1) {W:World} {base:Nat} {v:Value} {d:DataW H} {p:List MemPlace}
    (hval:Value.okWide P W .any base t v) (h:DataW.Trod enc P W 0 (fun _=>true) true t v d p) (hlt:∀x∈p,x.block<W.heap.size):
    ∃xs:List Int,dZ (fun b=>b<W.heap.size) W v (.rows 1 (aQ .u8 xs))∧∀z∈xs,0≤z∧z≤255:=by
  obtain⟨a0,len,cap,rfl⟩:=okWide_slice ht hval
  obtain⟨fuel,hf⟩:=h
  rcases open_ints ht he hc hf with⟨hcs,hx⟩ | ⟨a,len',cap',zs,hcs,_,hl,hm,hz,hx,hcell,hwz⟩
  · simp [Value.cells]at hcs
    obtain⟨rfl,rfl,rfl⟩:=hcs
    exact⟨[],.none _ _ _,fun _ h=>by cases h⟩
  · simp [Value.cells]at hcs
    obtain⟨rfl,rfl,rfl⟩:=hcs
    simp only [Prod.mk.injEq]at hx
    obtain⟨rfl,rfl⟩:=hx
    simp only [if_true]at hz
    have rng:∀z∈zs,0≤z∧z≤255:=fun z hz=>by
      obtain⟨i,hi,rfl⟩:=List.getElem_of_mem hz
      have:=range_u8 hwz i
      rwa [List.getElem?_eq_getElem hi]at this
    refine⟨zs.take len,?_,fun z h=>rng z (List.mem_of_mem_take h)⟩
    by_cases h0:len=0
    · subst h0;exact .none _ _ _
    · obtain⟨b,off,spot⟩:=a
      have hspot:spot=none:=by simpa [Addr.add]using World.cell?_spot (hcell 0 (by omega))
      subst hspot
      have hbW:b<W.heap.size:=hlt (.cell b off) (MemPlace.mem_row.2 ⟨0,by omega,by simp⟩)
      have hlen:(aQ .u8 (zs.take len)).length=len:=by simp only [aQ,List.length_map,List.length_take];omega
      have hget:∀i,i<len→(aQ .u8 (zs.take len)).getD i []=[.int .u8 (zs.getD i 0)]:=fun i hi=>by
        simp only [aQ,List.getD,List.getElem?_map,List.getElem?_take_of_lt hi,List.getElem?_eq_getElem (show i<zs.length by omega)]
        rfl
      refine .rows b off cap 1 len _ (fun i j=> .int .u8 (zs.getD i 0)) hbW hlen.symm hl (fun i j hi hj=> ?_) (fun i hi=> ?_) (fun i j hi hj=> ?_)
      · rw [hlen]at hi
        have:=hcell i (by omega)
        rw [add_plain]at this
        rw [show off+i*1+j=off+i by omega]
        exact this
      · rw [hlen]at hi;rw [hget i hi];rfl
      · rw [hlen]at hi
        have hj0:j=0:=by omega
        subst hj0
        unfold gd;rw [hget i hi];exact .int _ _
end Go.TX
namespace Go.TX.Seat
open Go Go.AE Go.TX Go.TX.F Go.Proofs
set_option maxRecDepth 100000
theorem aqV:∀t n,E.ieq t=some n→∀(xs ys:List Int),xs.length=n→ys.length=n→∀w,
    (Op.equal t (.agg (xs.map (Value.int .i64)).toArray) (.agg (ys.map (Value.int .i64)).toArray)).run E.P w= .ok (xs==ys) w∧
    (eqGuard .eql t (.tmp 0) (.tmp 0) (.agg (xs.map (Value.int .i64)).toArray) (.agg (ys.map (Value.int .i64)).toArray)).run E.P w= .ok () w:=by
  intro t n h
  obtain⟨c,hc,rfl⟩:∃c,ieq t=some c∧c.size=n:=by
    have h':(ieq t).map (fun c=>c.size)=some n:=h
    cases hi:ieq t with
    | none=>rw [hi]at h';cases h'
    | some c=>rw [hi]at h';cases h';exact⟨c,rfl,rfl⟩
  unfold ieq at hc
  split at hc
  all_goals first | (cases hc;exact al2 (by kernel_rfl) (by kernel_rfl) (by kernel_rfl) (by kernel_rfl) (by kernel_rfl)) | cases hc
theorem hE:aI E:=⟨aqJ,aqV⟩
theorem aqW:∀t c,X.ieq t=some c→(c= .ins∧E.ieq t=some 4)∨(c= .iop∧E.ieq t=some 5):=by
  intro t c h
  have h:ieq t=some c:=h
  have e:E.ieq t=(ieq t).map fun c=>c.size:=rfl
  rw [e,h]
  unfold ieq at h
  split at h
  all_goals first | (cases h;first | exact Or.inl ⟨rfl,rfl⟩ | exact Or.inr ⟨rfl,rfl⟩) | cases h
theorem xok:XOK X E:=⟨rfl,fun g c h=>(by cases h),aqW⟩
theorem hm:E.P.follows .mixedOrders=true:=by kernel_rfl
theorem hlN:∀p∈([]:List (FuncId×Sigma (Ct ak))),dH E p.1 (dF p.2.2):=fun _ h=>by cases h
theorem hlC {f:FuncId} {s:Sig} {c:Ct ak s} {l:List (FuncId×Sigma (Ct ak))} (h:dH E f (dF c)) (r:∀p∈l,dH E p.1 (dF p.2.2)):∀p∈(f,⟨s,c⟩)::l,dH E p.1 (dF p.2.2):=fun p hp=>by
  rcases List.mem_cons.1 hp with rfl | hp
  · exact h
  · exact r p hp
theorem mk {lk:aJ} {f:FuncId} {fn:Func} (hf:E.P.funcs[f]? =some fn) (hb:fn.body.isSome=true) (hn:(fn.name== "runtime.NumGoroutine")=false) {l:List (FuncId×Sigma (Ct ak))} (hl:∀p∈l,dH E p.1 (dF p.2.2)) {ord:List (Nat×List fK)} {s:Sig} {an:Ann}
    {F:je s.inp→(je s.out→Prop)→Prop} (h:Ru X E (std 0) ord an s fn l F):Fn E f F (cn F):=ap7 hE xok hm hf hb (fun _=>enters_of hf hn) hl h
theorem abD {E:Tab} {f:FuncId} {c:Ct ak {args:=[.c (.int .u64)],objs:=[],res:=[.c (.int .i64)],eu:=[]}} {g:Int→Int} (hent:Enters E.P f) (hg:(fun x:Int=>(c.fn (x,())).1)=g)
    (h:∀(x:Int) (w:World),c.pre (x,())=true→Go.Calls E.P f #[.int .u64 x] w fun e w'=>e= .returned (.int .i64 (g x))∧w'=w):dH E f (dF c) where
  enters:=hent
  calls:=by
    rintro args hh n K ⟨m,qs,hs,hargs,HR,hlen,cr,hcall,aeH,v,kT,hvk,hK⟩ c1 w vs hcn sS Hh Gl
    have key:∀f0 (x:Int),qs=[.c (.d f0 (.int .u64 x))]→tX (std m) hs {args:=[.c (.int .u64)],objs:=[],res:=[.c (.int .i64)],eu:=[]} c qs=some {ck:=[c.pre (x,())],ts:=[.i],y:=c.fn (x,()),touched:=[],pure:=true,k:=fun y=>some (.c (.d true (.int .i64 y.1)),hs)}:=by
      intro f0 x e;subst e;rfl
    have hq:∃f0 x,qs=[.c (.d f0 (.int .u64 x))]:=by
      unfold tX at hcall
      cases qs with
      | nil=>simp [oI]at hcall
      | cons q r=>
        cases r with
        | cons q2 r2=>
          exfalso
          simp only [oI]at hcall
          cases hx:Jz (std m) hs (.c (.int .u64)) q (es0 (std m) 0 [])with
          | none=>rw [hx]at hcall;simp at hcall
          | some s=>rw [hx]at hcall;simp [oI]at hcall
        | nil=>
          simp only [oI]at hcall
          cases q with
          | c y=>
            simp only [Jz,extC]at hcall
            cases y with
            | d f0 y=>
              cases y with
              | int k x=>
                by_cases hk:IntKind.u64=k
                · subst hk;exact⟨f0,x,rfl⟩
                · simp [hk]at hcall
              | _=>simp at hcall
            | _=>simp at hcall
          | _=>simp [Jz]at hcall
    obtain⟨f0,x,rfl⟩:=hq
    rw [key f0 x rfl]at hcall
    simp only [Option.some.injEq]at hcall
    subst hcall
    simp only [Option.some.injEq,Prod.mk.injEq]at hvk
    obtain⟨rfl,rfl⟩:=hvk
    have hpre:=aeH _ (List.mem_singleton.2 rfl)
    have hv:vs=[.int .u64 x]:=by
      cases hargs with
      | cons h1 h2=>
        cases h2
        cases sS with
        | cons h3 h4=>
          cases h4
          cases h1 with
          | one h1=>
            cases h1 with
            | c h1=>
              cases h1 with
              | d h5 _=>
                subst h5
                cases h3 with
                | c _ _ h6=>cases h6 with
                  | d _ _ _ h7=>cases h7;rfl
            | agg h1=>cases h1
    subst hv
    refine(h x w hpre).mono ?_
    rintro e w' ⟨rfl,rfl⟩
    refine⟨c1,.c (.d true (.int .i64 (g x))),hh,0,.refl _ _ _,Hh,hcn,.c _ _ (.d _ _ _ (.int _ _)),hK _ _ _ ?_ HR (.refl _ _ _) hlen⟩
    rw [←hg]
    exact .one (.c (.d rfl fun _=> .inl rfl))
end Go.TX.Seat
namespace Go.TX.F
open Go Go.AE Go.TX Go.TX.Seat Go.Proofs
set_option maxRecDepth 100000
noncomputable def rM:Ct ak Bq:=cn (F5 (std 0))
theorem Tz:Fn E 59 (F5 (std 0)) rM:=mk Tryz.func59 rfl (by kernel_rfl) hlN (ajV (std 0))
def abE:=fun b hb hl=>(Tz.cs (aaN b hb hl)).1
def abF:=fun b hb hl=>(Tz.cs (aaN b hb hl)).2
noncomputable def aD:Ct ak cu:=cn (F6 (std 0))
theorem mq:Fn E 61 (F6 (std 0)) aD:=mk Tryz.func61 rfl (by kernel_rfl) hlN (ajW (std 0))
def fP:=fun n b p hb h1 h2=>(mq.cs (aaO n b p hb h1 h2)).1
def fQ:=fun n b p hb h1 h2=>(mq.cs (aaO n b p hb h1 h2)).2
noncomputable def aC:Ct ak bS:=cn (F7 (std 0))
theorem lQ:Fn E 89 (F7 (std 0)) aC:=mk Tryz.func89 rfl (by kernel_rfl) hlN (ajX (std 0))
def fT:=fun a b c=>(lQ.cs (Z5 a b c)).1
def fU:=fun a b c=>(lQ.cs (Z5 a b c)).2
noncomputable def iD:Ct ak uj:=cn (F8 (std 0) aC.pre aC.fn)
theorem ME:Fn E 62 (F8 (std 0) aC.pre aC.fn) iD:=mk Tryz.func62 rfl (by kernel_rfl) (hlC lQ.ok hlN) (ajY (std 0) aC)
def MF:=fun a=>(ME.cs (Z7 fT fU a)).1
def MG:=fun a=>(ME.cs (Z7 fT fU a)).2
noncomputable def pK:Ct ak Br:=cn (F9 (std 0) aD.pre aD.fn)
theorem TA:Fn E 63 (F9 (std 0) aD.pre aD.fn) pK:=mk Tryz.func63 rfl (by kernel_rfl) (hlC mq.ok hlN) (ajZ (std 0) aD)
def abG:=fun b p hb h1 h2=>(TA.cs (aaQ fP fQ b p hb h1 h2)).1
def abH:=fun b p hb h1 h2=>(TA.cs (aaQ fP fQ b p hb h1 h2)).2
noncomputable def iV:Ct ak um:=cn (Ga (std 0) aD.pre aD.fn)
theorem MH:Fn E 158 (Ga (std 0) aD.pre aD.fn) iV:=mk Tryz.func158 rfl (by kernel_rfl) (hlC mq.ok hlN) (aj0 (std 0) aD)
def MI:=fun n b p hb h1 h2=>(MH.cs (aaP fP fQ n b p hb h1 h2)).1
def MJ:=fun n b p hb h1 h2=>(MH.cs (aaP fP fQ n b p hb h1 h2)).2
noncomputable def pI:Ct ak Bu:=cn (Gb (std 0) aC.pre aC.fn)
theorem TB:Fn E 76 (Gb (std 0) aC.pre aC.fn) pI:=mk Tryz.func76 rfl (by kernel_rfl) (hlC lQ.ok hlN) (aj1 (std 0) aC)
def abI:=fun m hm=>(TB.cs (aae fT fU m hm)).1
def abJ:=fun m hm=>(TB.cs (aae fT fU m hm)).2
noncomputable def dU:Ct ak mV:=cn (Gc (std 0))
theorem Js:Fn E 77 (Gc (std 0)) dU:=mk Tryz.func77 rfl (by kernel_rfl) hlN (aj2 (std 0))
def Dm:=fun a b ha=>(Js.cs (aad a b ha)).1
def Dn:=fun a b ha=>(Js.cs (aad a b ha)).2
noncomputable def aX:Ct ak gB:=cn (Gd (std 0) pI.pre pI.fn dU.pre dU.fn)
theorem wS:Fn E 19 (Gd (std 0) pI.pre pI.fn dU.pre dU.fn) aX:=mk Tryz.func19 rfl (by kernel_rfl) (hlC TB.ok (hlC Js.ok hlN)) (aj3 (std 0) pI dU)
def ni:=fun a ha=>(wS.cs (aaf abI abJ Dm Dn a ha)).1
def nu:=fun a ha=>(wS.cs (aaf abI abJ Dm Dn a ha)).2
noncomputable def bT:Ct ak jQ:=cn (Gh (std 0))
theorem Dp:Fn E 170 (Gh (std 0)) bT:=mk Tryz.func170 rfl (by kernel_rfl) hlN (aj4 (std 0))
def wT:=fun a=>(Dp.cs (aac a)).1
def wU:=fun a=>(Dp.cs (aac a)).2
noncomputable def iy:Ct ak uo:=cn (Gi (std 0) dU.pre dU.fn bT.pre bT.fn)
theorem MK:Fn E 174 (Gi (std 0) dU.pre dU.fn bT.pre bT.fn) iy:=mk Tryz.func174 rfl (by kernel_rfl) (hlC Js.ok (hlC Dp.ok hlN)) (aj5 (std 0) dU bT)
def ML:=fun l m hl hn hm hma=>(MK.cs (aaD Dm Dn wT wU l m hl hn hm hma)).1
def MN:=fun l m hl hn hm hma=>(MK.cs (aaD Dm Dn wT wU l m hl hn hm hma)).2
noncomputable def bE:Ct ak jf:=cn (Gj (std 0))
theorem zw:Fn E 71 (Gj (std 0)) bE:=mk Tryz.func71 rfl (by kernel_rfl) hlN (aj6 (std 0))
def rT:=fun a ha=>(zw.cs (aaq a ha)).1
def rU:=fun a ha=>(zw.cs (aaq a ha)).2
noncomputable def iA:Ct ak uw:=cn (Gm (std 0) bE.pre bE.fn)
theorem MO:Fn E 175 (Gm (std 0) bE.pre bE.fn) iA:=mk Tryz.func175 rfl (by kernel_rfl) (hlC zw.ok hlN) (aj7 (std 0) bE)
def MQ:=fun a ha=>(MO.cs (aar rT rU a ha)).1
def MR:=fun a ha=>(MO.cs (aar rT rU a ha)).2
noncomputable def iC:Ct ak uz:=cn (Gn (std 0) aX.pre aX.fn iy.pre iy.fn iA.pre iA.fn)
theorem MS:Fn E 128 (Gn (std 0) aX.pre aX.fn iy.pre iy.fn iA.pre iA.fn) iC:=mk Tryz.func128 rfl (by kernel_rfl) (hlC wS.ok (hlC MK.ok (hlC MO.ok hlN))) (aj8 (std 0) aX iy iA)
def MU:=fun a b ha hb=>(MS.cs (aaH ni nu ML MN MQ MR a b ha hb)).1
def MV:=fun a b ha hb=>(MS.cs (aaH ni nu ML MN MQ MR a b ha hb)).2
noncomputable def bU:Ct ak jR:=cn (Gp (std 0) aC.pre aC.fn)
theorem Dq:Fn E 129 (Gp (std 0) aC.pre aC.fn) bU:=mk Tryz.func129 rfl (by kernel_rfl) (hlC lQ.ok hlN) (aj9 (std 0) aC)
def wV:=fun a=>(Dq.cs (Z8 fT fU a)).1
def wW:=fun a=>(Dq.cs (Z8 fT fU a)).2
noncomputable def pJ:Ct ak Bv:=cn (Gq (std 0))
theorem TD:Fn E 221 (Gq (std 0)) pJ:=mk Tryz.func221 rfl (by kernel_rfl) hlN (akb (std 0))
def abK:=fun a b ha hb sa sb=>(TD.cs (aaF a b ha hb sa sb)).1
def abL:=fun a b ha hb sa sb=>(TD.cs (aaF a b ha hb sa sb)).2
noncomputable def iB:Ct ak uD:=cn (Gr (std 0) aX.pre aX.fn bT.pre bT.fn iy.pre iy.fn pJ.pre pJ.fn iA.pre iA.fn)
theorem MW:Fn E 200 (Gr (std 0) aX.pre aX.fn bT.pre bT.fn iy.pre iy.fn pJ.pre pJ.fn iA.pre iA.fn) iB:=mk Tryz.func200 rfl (by kernel_rfl) (hlC wS.ok (hlC Dp.ok (hlC MK.ok (hlC TD.ok (hlC MO.ok hlN))))) (akc (std 0) aX bT iy pJ iA)
def MX:=fun a b ha hb=>(MW.cs (aaI ni nu wT wU ML MN abK abL MQ MR a b ha hb)).1
def MZ:=fun a b ha hb=>(MW.cs (aaI ni nu wT wU ML MN abK abL MQ MR a b ha hb)).2
noncomputable def rF:Ct ak Bw:=cn (Gs (std 0) aD.pre aD.fn bU.pre bU.fn iB.pre iB.fn iC.pre iC.fn iD.pre iD.fn pK.pre pK.fn)
theorem TF:Fn E 173 (Gs (std 0) aD.pre aD.fn bU.pre bU.fn iB.pre iB.fn iC.pre iC.fn iD.pre iD.fn pK.pre pK.fn) rF:=mk Tryz.func173 rfl (by kernel_rfl) (hlC mq.ok (hlC Dq.ok (hlC MW.ok (hlC MS.ok (hlC ME.ok (hlC TA.ok hlN)))))) (akd (std 0) aD bU iB iC iD pK)
def abM:=fun n b p hb hn h1 h2=>(TF.cs (aaR fP fQ wV wW MX MZ MU MV MF MG abG abH n b p hb hn h1 h2)).1
def abN:=fun n b p hb hn h1 h2=>(TF.cs (aaR fP fQ wV wW MX MZ MU MV MF MG abG abH n b p hb hn h1 h2)).2
noncomputable def bV:Ct ak jS:=cn (Gt (std 0))
theorem Dr:Fn E 156 (Gt (std 0)) bV:=mk Tryz.func156 rfl (by kernel_rfl) hlN (ake (std 0))
def wX:=fun a=>(Dr.cs (Z6 a)).1
def wY:=fun a=>(Dr.cs (Z6 a)).2
noncomputable def pV:Ct ak Bz:=cn (Gu (std 0) aX.pre aX.fn bT.pre bT.fn bE.pre bE.fn bV.pre bV.fn)
theorem TG:Fn E 127 (Gu (std 0) aX.pre aX.fn bT.pre bT.fn bE.pre bE.fn bV.pre bV.fn) pV:=mk Tryz.func127 rfl (by kernel_rfl) (hlC wS.ok (hlC Dp.ok (hlC zw.ok (hlC Dr.ok hlN)))) (akf (std 0) aX bT bE bV)
def abO:=fun a n ha=>(TG.cs (aaJ ni nu wT wU rT rU wX wY a n ha)).1
def abP:=fun a n ha=>(TG.cs (aaJ ni nu wT wU rT rU wX wY a n ha)).2
noncomputable def rG:Ct ak BA:=cn (Gw (std 0) bU.pre bU.fn)
theorem TH:Fn E 64 (Gw (std 0) bU.pre bU.fn) rG:=mk Tryz.func64 rfl (by kernel_rfl) (hlC Dq.ok hlN) (akg (std 0) bU)
def abQ:=(TH.cs (aaS wV wW)).1
def abR:=(TH.cs (aaS wV wW)).2
noncomputable def pW:Ct ak BD:=cn (Gx (std 0) aX.pre aX.fn)
theorem TI:Fn E 73 (Gx (std 0) aX.pre aX.fn) pW:=mk Tryz.func73 rfl (by kernel_rfl) (hlC wS.ok hlN) (akh (std 0) aX)
def abS:=fun a ha=>(TI.cs (aap ni nu a ha)).1
def abT:=fun a ha=>(TI.cs (aap ni nu a ha)).2
noncomputable def dV:Ct ak mW:=cn (Gy (std 0) dU.pre dU.fn)
theorem Jt:Fn E 147 (Gy (std 0) dU.pre dU.fn) dV:=mk Tryz.func147 rfl (by kernel_rfl) (hlC Js.ok hlN) (aki (std 0) dU)
def Dt:=fun a b ha=>(Jt.cs (aah Dm Dn a b ha)).1
def Du:=fun a b ha=>(Jt.cs (aah Dm Dn a b ha)).2
noncomputable def pO:Ct ak BF:=cn (Gz (std 0) aC.pre aC.fn)
theorem TJ:Fn E 192 (Gz (std 0) aC.pre aC.fn) pO:=mk Tryz.func192 rfl (by kernel_rfl) (hlC lQ.ok hlN) (akj (std 0) aC)
def abU:=fun k=>(TJ.cs (aa1 fT fU k)).1
def abV:=fun k=>(TJ.cs (aa1 fT fU k)).2
noncomputable def iE:Ct ak uE:=cn (GA (std 0) pO.pre pO.fn)
theorem M0:Fn E 157 (GA (std 0) pO.pre pO.fn) iE:=mk Tryz.func157 rfl (by kernel_rfl) (hlC TJ.ok hlN) (akk (std 0) pO)
def M4:=fun ops x n h1=>(M0.cs (aa2 abU abV ops x n h1)).1
def M5:=fun ops x n h1=>(M0.cs (aa2 abU abV ops x n h1)).2
noncomputable def pR:Ct ak BG:=cn (GD (std 0) bV.pre bV.fn aC.pre aC.fn iE.pre iE.fn)
theorem TK:Fn E 90 (GD (std 0) bV.pre bV.fn aC.pre aC.fn iE.pre iE.fn) pR:=mk Tryz.func90 rfl (by kernel_rfl) (hlC Dr.ok (hlC lQ.ok (hlC M0.ok hlN))) (akl (std 0) bV aC iE)
def abW:=fun ops i len h0 h1 h3=>(TK.cs (aa3 wX wY fT fU M4 M5 ops i len h0 h1 h3)).1
def abX:=fun ops i len h0 h1 h3=>(TK.cs (aa3 wX wY fT fU M4 M5 ops i len h0 h1 h3)).2
noncomputable def pQ:Ct ak BH:=cn (GH (std 0) bV.pre bV.fn iE.pre iE.fn)
theorem TL:Fn E 91 (GH (std 0) bV.pre bV.fn iE.pre iE.fn) pQ:=mk Tryz.func91 rfl (by kernel_rfl) (hlC Dr.ok (hlC M0.ok hlN)) (akm (std 0) bV iE)
def abY:=fun b=>(TL.cs (aa4 wX wY M4 M5 b)).1
def abZ:=fun b=>(TL.cs (aa4 wX wY M4 M5 b)).2
noncomputable def bF:Ct ak jg:=cn (GI (std 0) aC.pre aC.fn pQ.pre pQ.fn pR.pre pR.fn)
theorem zy:Fn E 30 (GI (std 0) aC.pre aC.fn pQ.pre pQ.fn pR.pre pR.fn) bF:=mk Tryz.func30 rfl (by kernel_rfl) (hlC lQ.ok (hlC TL.ok (hlC TK.ok hlN))) (akn (std 0) aC pQ pR)
def rV:=fun b h2=>(zy.cs (aa5 fT fU abY abZ abW abX b h2)).1
def rW:=fun b h2=>(zy.cs (aa5 fT fU abY abZ abW abX b h2)).2
noncomputable def pU:Ct ak BI:=cn (GJ (std 0))
theorem TM:Fn E 201 (GJ (std 0)) pU:=mk Tryz.func201 rfl (by kernel_rfl) hlN (ako (std 0))
def ab0:=fun a=>(TM.cs (aai a)).1
def ab1:=fun a=>(TM.cs (aai a)).2
noncomputable def iF:Ct ak uF:=cn (GK (std 0))
theorem M6:Fn E 202 (GK (std 0)) iF:=mk Tryz.func202 rfl (by kernel_rfl) hlN (akp (std 0))
def M7:=fun a n ha=>(M6.cs (aag a n ha)).1
def M8:=fun a n ha=>(M6.cs (aag a n ha)).2
noncomputable def iG:Ct ak uG:=cn (GL (std 0) aC.pre aC.fn aX.pre aX.fn iF.pre iF.fn pU.pre pU.fn)
theorem M9:Fn E 176 (GL (std 0) aC.pre aC.fn aX.pre aX.fn iF.pre iF.fn pU.pre pU.fn) iG:=mk Tryz.func176 rfl (by kernel_rfl) (hlC lQ.ok (hlC wS.ok (hlC M6.ok (hlC TM.ok hlN)))) (akq (std 0) aC aX iF pU)
def Na:=fun a n ha=>(M9.cs (aaj fT fU ni nu M7 M8 ab0 ab1 a n ha)).1
def Nb:=fun a n ha=>(M9.cs (aaj fT fU ni nu M7 M8 ab0 ab1 a n ha)).2
noncomputable def iH:Ct ak uH:=cn (GU (std 0) dV.pre dV.fn)
theorem Nc:Fn E 177 (GU (std 0) dV.pre dV.fn) iH:=mk Tryz.func177 rfl (by kernel_rfl) (hlC Jt.ok hlN) (akr (std 0) dV)
def Ng:=fun a b ha=>(Nc.cs (aak Dt Du a b ha)).1
def Nh:=fun a b ha=>(Nc.cs (aak Dt Du a b ha)).2
noncomputable def iW:Ct ak uI:=cn (GV (std 0) iG.pre iG.fn iH.pre iH.fn)
theorem Ni:Fn E 130 (GV (std 0) iG.pre iG.fn iH.pre iH.fn) iW:=mk Tryz.func130 rfl (by kernel_rfl) (hlC M9.ok (hlC Nc.ok hlN)) (aks (std 0) iG iH)
def Nj:=fun a ha=>(Ni.cs (aam Na Nb Ng Nh a ha)).1
def Nk:=fun a ha=>(Ni.cs (aam Na Nb Ng Nh a ha)).2
noncomputable def iI:Ct ak uJ:=cn (GX (std 0) bE.pre bE.fn)
theorem Nl:Fn E 178 (GX (std 0) bE.pre bE.fn) iI:=mk Tryz.func178 rfl (by kernel_rfl) (hlC zw.ok hlN) (akt (std 0) bE)
def Nn:=fun a ha=>(Nl.cs (aas rT rU a ha)).1
def Np:=fun a ha=>(Nl.cs (aas rT rU a ha)).2
noncomputable def iX:Ct ak uK:=cn (GY (std 0) iI.pre iI.fn)
theorem Nq:Fn E 131 (GY (std 0) iI.pre iI.fn) iX:=mk Tryz.func131 rfl (by kernel_rfl) (hlC Nl.ok hlN) (aku (std 0) iI)
def Nr:=fun a ha=>(Nq.cs (aat Nn Np a ha)).1
def Ns:=fun a ha=>(Nq.cs (aat Nn Np a ha)).2
noncomputable def iK:Ct ak uL:=cn (GZ (std 0) iG.pre iG.fn iH.pre iH.fn iI.pre iI.fn)
theorem Nt:Fn E 132 (GZ (std 0) iG.pre iG.fn iH.pre iH.fn iI.pre iI.fn) iK:=mk Tryz.func132 rfl (by kernel_rfl) (hlC M9.ok (hlC Nc.ok (hlC Nl.ok hlN))) (akv (std 0) iG iH iI)
def Nu:=fun a t ha ht hok=>(Nt.cs (aav Na Nb Ng Nh Nn Np a t ha ht hok)).1
def Nv:=fun a t ha ht hok=>(Nt.cs (aav Na Nb Ng Nh Nn Np a t ha ht hok)).2
noncomputable def pY:Ct ak BJ:=cn (G5 (std 0) iB.pre iB.fn iC.pre iC.fn pV.pre pV.fn)
theorem TN:Fn E 179 (G5 (std 0) iB.pre iB.fn iC.pre iC.fn pV.pre pV.fn) pY:=mk Tryz.func179 rfl (by kernel_rfl) (hlC MW.ok (hlC MS.ok (hlC TG.ok hlN))) (akw (std 0) iB iC pV)
def ab2:=fun op x y hx hy=>(TN.cs (aay MX MZ MU MV abO abP op x y hx hy)).1
def ab3:=fun op x y hx hy=>(TN.cs (aay MX MZ MU MV abO abP op x y hx hy)).2
end Go.TX.F
namespace Go.TX.F
open Go Go.AE Go.TX Go.TX.Seat Go.Proofs
set_option maxRecDepth 100000
noncomputable def iJ:Ct ak uM:=cn (G6 (std 0) bT.pre bT.fn bV.pre bV.fn)
theorem Nw:Fn E 115 (G6 (std 0) bT.pre bT.fn bV.pre bV.fn) iJ:=mk Tryz.func115 rfl (by kernel_rfl) (hlC Dp.ok (hlC Dr.ok hlN)) (akx (std 0) bT bV)
def Ny:=fun op a b=>(Nw.cs (aao wX wY wT wU op a b)).1
def Nz:=fun op a b=>(Nw.cs (aao wX wY wT wU op a b)).2
noncomputable def pX:Ct ak BK:=cn (G7 (std 0) bE.pre bE.fn)
theorem TP:Fn E 203 (G7 (std 0) bE.pre bE.fn) pX:=mk Tryz.func203 rfl (by kernel_rfl) (hlC zw.ok hlN) (aky (std 0) bE)
def ab4:=fun op n y hy=>(TP.cs (aaw rT rU op n y hy)).1
def ab5:=fun op n y hy=>(TP.cs (aaw rT rU op n y hy)).2
noncomputable def qb:Ct ak BL:=cn (G8 (std 0) dV.pre dV.fn bE.pre bE.fn iJ.pre iJ.fn iD.pre iD.fn pW.pre pW.fn pX.pre pX.fn)
theorem TQ:Fn E 180 (G8 (std 0) dV.pre dV.fn bE.pre bE.fn iJ.pre iJ.fn iD.pre iD.fn pW.pre pW.fn pX.pre pX.fn) qb:=mk Tryz.func180 rfl (by kernel_rfl) (hlC Jt.ok (hlC zw.ok (hlC Nw.ok (hlC ME.ok (hlC TI.ok (hlC TP.ok hlN)))))) (akz (std 0) dV bE iJ iD pW pX)
def ab6:=fun op x y hx hy=>(TQ.cs (aax Dt Du rT rU Ny Nz MF MG abS abT ab4 ab5 op x y hx hy)).1
def ab7:=fun op x y hx hy=>(TQ.cs (aax Dt Du rT rU Ny Nz MF MG abS abT ab4 ab5 op x y hx hy)).2
noncomputable def rD:Ct ak BM:=cn (G9 (std 0) bU.pre bU.fn dV.pre dV.fn pY.pre pY.fn qb.pre qb.fn iK.pre iK.fn)
theorem TR:Fn E 134 (G9 (std 0) bU.pre bU.fn dV.pre dV.fn pY.pre pY.fn qb.pre qb.fn iK.pre iK.fn) rD:=mk Tryz.func134 rfl (by kernel_rfl) (hlC Dq.ok (hlC Jt.ok (hlC TN.ok (hlC TQ.ok (hlC Nt.ok hlN))))) (akA (std 0) bU dV pY qb iK)
def ab8:=fun op x y t hop hx hy ht hok=>(TR.cs (aaz wV wW Dt Du ab2 ab3 ab6 ab7 Nu Nv op x y t hop hx hy ht hok)).1
def ab9:=fun op x y t hop hx hy ht hok=>(TR.cs (aaz wV wW Dt Du ab2 ab3 ab6 ab7 Nu Nv op x y t hop hx hy ht hok)).2
noncomputable def dW:Ct ak mX:=cn (Hg (std 0))
theorem Ju:Fn E 113 (Hg (std 0)) dW:=mk Tryz.func113 rfl (by kernel_rfl) hlN (akB (std 0))
def Dv:=fun b hb=>(Ju.cs (abl b hb)).1
def Dw:=fun b hb=>(Ju.cs (abl b hb)).2
noncomputable def iL:Ct ak uN:=cn (Hl (std 0) aC.pre aC.fn)
theorem NA:Fn E 125 (Hl (std 0) aC.pre aC.fn) iL:=mk Tryz.func125 rfl (by kernel_rfl) (hlC lQ.ok hlN) (akC (std 0) aC)
def NC:=fun o al hx hy=>(NA.cs (abo fT fU o al hx hy)).1
def ND:=fun o al hx hy=>(NA.cs (abo fT fU o al hx hy)).2
noncomputable def iO:Ct ak uO:=cn (Ho (std 0) bF.pre bF.fn iL.pre iL.fn dW.pre dW.fn)
theorem NG:Fn E 54 (Ho (std 0) bF.pre bF.fn iL.pre iL.fn dW.pre dW.fn) iO:=mk Tryz.func54 rfl (by kernel_rfl) (hlC zy.ok (hlC NA.ok (hlC Ju.ok hlN))) (akD (std 0) bF iL dW)
def NH:=fun b hb=>(NG.cs (abw rV rW NC ND Dv Dw b hb)).1
def NI:=fun b hb=>(NG.cs (abw rV rW NC ND Dv Dw b hb)).2
noncomputable def iM:Ct ak uP:=cn (Ht (std 0))
theorem TS:Fn E 114 (Ht (std 0)) iM:=mk Tryz.func114 rfl (by kernel_rfl) hlN (akE (std 0))
def NJ:=fun ops k=>(TS.cs (alZ ops k)).1
noncomputable def qc:Ct ak BN:=cn (Hu (std 0))
theorem TT:Fn E 171 (Hu (std 0)) qc:=mk Tryz.func171 rfl (by kernel_rfl) hlN (akF (std 0))
def acd:=fun b k=>(TT.cs (abm b k)).1
def ace:=fun b k=>(TT.cs (abm b k)).2
noncomputable def qd:Ct ak BO:=cn (Hw (std 0) qc.pre qc.fn iM.pre iM.fn)
theorem TU:Fn E 116 (Hw (std 0) qc.pre qc.fn iM.pre iM.fn) qd:=mk Tryz.func116 rfl (by kernel_rfl) (hlC TT.ok (hlC TS.ok hlN)) (akG (std 0) qc iM)
def acf:=fun b=>(TU.cs (abn acd ace NJ b)).1
def acg:=fun b=>(TU.cs (abn acd ace NJ b)).2
noncomputable def qj:Ct ak BP:=cn (HV (std 0) bF.pre bF.fn iJ.pre iJ.fn qd.pre qd.fn iM.pre iM.fn dW.pre dW.fn)
theorem TW:Fn E 42 (HV (std 0) bF.pre bF.fn iJ.pre iJ.fn qd.pre qd.fn iM.pre iM.fn dW.pre dW.fn) qj:=mk Tryz.func42 rfl (by kernel_rfl) (hlC zy.ok (hlC Nw.ok (hlC TU.ok (hlC TS.ok (hlC Ju.ok hlN))))) (akH (std 0) bF iJ qd iM dW)
def ach:=fun b hb=>(TW.cs (abq rV rW Ny Nz acf acg NJ Dv Dw b hb)).1
def aci:=fun b hb=>(TW.cs (abq rV rW Ny Nz acf acg NJ Dv Dw b hb)).2
noncomputable def qg:Ct ak BQ:=cn (HY (std 0))
theorem acj:Fn E 118 (HY (std 0)) qg:=mk Tryz.func118 rfl (by kernel_rfl) hlN (akI (std 0))
def acn:=fun ops k h0 h1 h2=>(acj.cs (al0 ops k h0 h1 h2)).1
noncomputable def iN:Ct ak uQ:=cn (HZ (std 0) iL.pre iL.fn)
theorem NK:Fn E 119 (HZ (std 0) iL.pre iL.fn) iN:=mk Tryz.func119 rfl (by kernel_rfl) (hlC NA.ok hlN) (akJ (std 0) iL)
def NP:=fun b kp ok hk=>(NK.cs (abt NC ND b kp ok hk)).1
def NQ:=fun b kp ok hk=>(NK.cs (abt NC ND b kp ok hk)).2
noncomputable def qm:Ct ak BR:=cn (H6 (std 0) bF.pre bF.fn iN.pre iN.fn qg.pre qg.fn)
theorem T9:Fn E 45 (H6 (std 0) bF.pre bF.fn iN.pre iN.fn qg.pre qg.fn) qm:=mk Tryz.func45 rfl (by kernel_rfl) (hlC zy.ok (hlC NK.ok (hlC acj.ok hlN))) (akK (std 0) bF iN qg)
def aco:=fun b hb=>(T9.cs (abv rV rW NP NQ acn b hb)).1
def acp:=fun b hb=>(T9.cs (abv rV rW NP NQ acn b hb)).2
noncomputable def qh:Ct ak BS:=cn (H7 (std 0) bF.pre bF.fn aC.pre aC.fn)
theorem Ua:Fn E 50 (H7 (std 0) bF.pre bF.fn aC.pre aC.fn) qh:=mk Tryz.func50 rfl (by kernel_rfl) (hlC zy.ok (hlC lQ.ok hlN)) (akL (std 0) bF aC)
def acr:=fun b hb=>(Ua.cs (abr rV rW fT fU b hb)).1
def acs:=fun b hb=>(Ua.cs (abr rV rW fT fU b hb)).2
noncomputable def ql:Ct ak BU:=cn (H8 (std 0) bF.pre bF.fn qh.pre qh.fn iN.pre iN.fn)
theorem Ub:Fn E 49 (H8 (std 0) bF.pre bF.fn qh.pre qh.fn iN.pre iN.fn) ql:=mk Tryz.func49 rfl (by kernel_rfl) (hlC zy.ok (hlC Ua.ok (hlC NK.ok hlN))) (akM (std 0) bF qh iN)
def acu:=fun b hb=>(Ub.cs (abu rV rW acr acs NP NQ b hb)).1
def acv:=fun b hb=>(Ub.cs (abu rV rW acr acs NP NQ b hb)).2
noncomputable def qD:Ct ak BX:=cn (Mc (std 0) qj.pre qj.fn iO.pre iO.fn ql.pre ql.fn qm.pre qm.fn)
theorem Uc:Fn E 57 (Mc (std 0) qj.pre qj.fn iO.pre iO.fn ql.pre ql.fn qm.pre qm.fn) qD:=mk Tryz.func57 rfl (by kernel_rfl) (hlC TW.ok (hlC NG.ok (hlC Ub.ok (hlC T9.ok hlN)))) (akN (std 0) qj iO ql qm)
def acw:=fun b hb=>(Uc.cs (abp ach aci NH NI acu acv aco acp b hb)).1
def acy:=fun b hb=>(Uc.cs (abp ach aci NH NI acu acv aco acp b hb)).2
noncomputable def qp:Ct ak BZ:=cn (H9 (std 0) aD.pre aD.fn)
theorem Ud:Fn E 204 (H9 (std 0) aD.pre aD.fn) qp:=mk Tryz.func204 rfl (by kernel_rfl) (hlC mq.ok hlN) (akO (std 0) aD)
def acz:=fun b p hb h1 h2=>(Ud.cs (abh fP fQ b p hb h1 h2)).1
def acA:=fun b p hb h1 h2=>(Ud.cs (abh fP fQ b p hb h1 h2)).2
noncomputable def qo:Ct ak Ca:=cn (Ia (std 0))
theorem acB:Fn E 222 (Ia (std 0)) qo:=mk Tryz.func222 rfl (by kernel_rfl) hlN (akP (std 0))
def al3:=fun i=>(acB.cs (alS i)).1
noncomputable def iQ:Ct ak uR:=cn (Ib (std 0) aC.pre aC.fn qo.pre qo.fn)
theorem Ue:Fn E 206 (Ib (std 0) aC.pre aC.fn qo.pre qo.fn) iQ:=mk Tryz.func206 rfl (by kernel_rfl) (hlC lQ.ok (hlC acB.ok hlN)) (akQ (std 0) aC qo)
def acC:=fun i=>(Ue.cs (alT fT fU al3 i)).1
noncomputable def iP:Ct ak uS:=cn (Ic (std 0))
theorem Uf:Fn E 207 (Ic (std 0)) iP:=mk Tryz.func207 rfl (by kernel_rfl) hlN (akR (std 0))
def acD:=fun i=>(Uf.cs (alU i)).1
noncomputable def iR:Ct ak uT:=cn (Ie (std 0) iP.pre iP.fn iQ.pre iQ.fn)
theorem Ug:Fn E 205 (Ie (std 0) iP.pre iP.fn iQ.pre iQ.fn) iR:=mk Tryz.func205 rfl (by kernel_rfl) (hlC Uf.ok (hlC Ue.ok hlN)) (akS (std 0) iP iQ)
def Uh:=fun i=>(Ug.cs (alV acD acC i)).1
noncomputable def qw:Ct ak Cc:=cn (Ig (std 0) qp.pre qp.fn aD.pre aD.fn iR.pre iR.fn)
theorem Ui:Fn E 182 (Ig (std 0) qp.pre qp.fn aD.pre aD.fn iR.pre iR.fn) qw:=mk Tryz.func182 rfl (by kernel_rfl) (hlC Ud.ok (hlC mq.ok (hlC Ug.ok hlN))) (akT (std 0) qp aD iR)
def acE:=fun b p hb h1 h2=>(Ui.cs (abj acz acA fP fQ Uh b p hb h1 h2)).1
def acF:=fun b p hb h1 h2=>(Ui.cs (abj acz acA fP fQ Uh b p hb h1 h2)).2
noncomputable def qE:Ct ak Ce:=cn (Ih (std 0) qw.pre qw.fn aD.pre aD.fn)
theorem Uj:Fn E 139 (Ih (std 0) qw.pre qw.fn aD.pre aD.fn) qE:=mk Tryz.func139 rfl (by kernel_rfl) (hlC Ui.ok (hlC mq.ok hlN)) (akU (std 0) qw aD)
def acG:=fun b p hb h1 h2=>(Uj.cs (abk acE acF fP fQ b p hb h1 h2)).1
def acH:=fun b p hb h1 h2=>(Uj.cs (abk acE acF fP fQ b p hb h1 h2)).2
noncomputable def qA:Ct ak Cg:=cn (Ii (std 0) iP.pre iP.fn iQ.pre iQ.fn aC.pre aC.fn iR.pre iR.fn)
theorem acI:Fn E 183 (Ii (std 0) iP.pre iP.fn iQ.pre iQ.fn aC.pre aC.fn iR.pre iR.fn) qA:=mk Tryz.func183 rfl (by kernel_rfl) (hlC Uf.ok (hlC Ue.ok (hlC lQ.ok (hlC Ug.ok hlN)))) (akV (std 0) iP iQ aC iR)
def acJ:=fun pc l hl=>(acI.cs (alW acD acC fT fU Uh pc l hl)).1
noncomputable def bG:Ct ak jh:=cn (Ij (std 0))
theorem zB:Fn E 208 (Ij (std 0)) bG:=mk Tryz.func208 rfl (by kernel_rfl) hlN (akW (std 0))
def rX:=fun a1 a2 a3 a4 a5 a6 o ops hl=>(zB.cs (aa7 a1 a2 a3 a4 a5 a6 o ops hl)).1
def rY:=fun a1 a2 a3 a4 a5 a6 o ops hl=>(zB.cs (aa7 a1 a2 a3 a4 a5 a6 o ops hl)).2
noncomputable def iU:Ct ak uU:=cn (Ik (std 0) bG.pre bG.fn)
theorem NR:Fn E 209 (Ik (std 0) bG.pre bG.fn) iU:=mk Tryz.func209 rfl (by kernel_rfl) (hlC zB.ok hlN) (akX (std 0) bG)
def NS:=fun a1 a2 a3 a4 a5 a6 k x ops hl=>(NR.cs (aa9 rX rY a1 a2 a3 a4 a5 a6 k x ops hl)).1
def NT:=fun a1 a2 a3 a4 a5 a6 k x ops hl=>(NR.cs (aa9 rX rY a1 a2 a3 a4 a5 a6 k x ops hl)).2
noncomputable def bW:Ct ak jT:=cn (Il (std 0) bG.pre bG.fn)
theorem Dx:Fn E 210 (Il (std 0) bG.pre bG.fn) bW:=mk Tryz.func210 rfl (by kernel_rfl) (hlC zB.ok hlN) (akY (std 0) bG)
def wZ:=fun a1 a2 a3 a4 a5 a6 k ops hl=>(Dx.cs (aa8 rX rY a1 a2 a3 a4 a5 a6 k ops hl)).1
def w9:=fun a1 a2 a3 a4 a5 a6 k ops hl=>(Dx.cs (aa8 rX rY a1 a2 a3 a4 a5 a6 k ops hl)).2
noncomputable def iT:Ct ak uV:=cn (Im (std 0) bW.pre bW.fn bG.pre bG.fn)
theorem NU:Fn E 211 (Im (std 0) bW.pre bW.fn bG.pre bG.fn) iT:=mk Tryz.func211 rfl (by kernel_rfl) (hlC Dx.ok (hlC zB.ok hlN)) (akZ (std 0) bW bG)
def NV:=fun a1 a2 a3 a4 a5 a6 k a o ops hl=>(NU.cs (abb wZ w9 rX rY a1 a2 a3 a4 a5 a6 k a o ops hl)).1
def NW:=fun a1 a2 a3 a4 a5 a6 k a o ops hl=>(NU.cs (abb wZ w9 rX rY a1 a2 a3 a4 a5 a6 k a o ops hl)).2
noncomputable def qz:Ct ak Ch:=cn (Io (std 0))
theorem acK:Fn E 212 (Io (std 0)) qz:=mk Tryz.func212 rfl (by kernel_rfl) hlN (ak0 (std 0))
def acL:=fun k hk=>(acK.cs (alX k hk)).1
noncomputable def qy:Ct ak Ci:=cn (Ip (std 0) bW.pre bW.fn bG.pre bG.fn iT.pre iT.fn iU.pre iU.fn)
theorem Uk:Fn E 213 (Ip (std 0) bW.pre bW.fn bG.pre bG.fn iT.pre iT.fn iU.pre iU.fn) qy:=mk Tryz.func213 rfl (by kernel_rfl) (hlC Dx.ok (hlC zB.ok (hlC NU.ok (hlC NR.ok hlN)))) (ak1 (std 0) bW bG iT iU)
def acM:=fun a1 a2 a3 a4 a5 a6 i k ops hl=>(Uk.cs (abd wZ w9 rX rY NV NW NS NT a1 a2 a3 a4 a5 a6 i k ops hl)).1
def acN:=fun a1 a2 a3 a4 a5 a6 i k ops hl=>(Uk.cs (abd wZ w9 rX rY NV NW NS NT a1 a2 a3 a4 a5 a6 i k ops hl)).2
noncomputable def qx:Ct ak Cj:=cn (Iq (std 0) bW.pre bW.fn)
theorem Ul:Fn E 214 (Iq (std 0) bW.pre bW.fn) qx:=mk Tryz.func214 rfl (by kernel_rfl) (hlC Dx.ok hlN) (ak2 (std 0) bW)
def acO:=fun a1 a2 a3 a4 a5 a6 i ops hl=>(Ul.cs (abe wZ w9 a1 a2 a3 a4 a5 a6 i ops hl)).1
def acP:=fun a1 a2 a3 a4 a5 a6 i ops hl=>(Ul.cs (abe wZ w9 a1 a2 a3 a4 a5 a6 i ops hl)).2
noncomputable def qB:Ct ak Ck:=cn (Ir (std 0) bW.pre bW.fn qx.pre qx.fn bG.pre bG.fn qy.pre qy.fn iT.pre iT.fn iU.pre iU.fn qz.pre qz.fn)
theorem Um:Fn E 184 (Ir (std 0) bW.pre bW.fn qx.pre qx.fn bG.pre bG.fn qy.pre qy.fn iT.pre iT.fn iU.pre iU.fn qz.pre qz.fn) qB:=mk Tryz.func184 rfl (by kernel_rfl) (hlC Dx.ok (hlC Ul.ok (hlC zB.ok (hlC Uk.ok (hlC NU.ok (hlC NR.ok (hlC acK.ok hlN))))))) (ak3 (std 0) bW qx bG qy iT iU qz)
def acQ:=fun a1 a2 a3 a4 a5 a6 i k ops hk hl=>(Um.cs (abf wZ w9 acO acP rX rY acM acN NV NW NS NT acL a1 a2 a3 a4 a5 a6 i k ops hk hl)).1
def acR:=fun a1 a2 a3 a4 a5 a6 i k ops hk hl=>(Um.cs (abf wZ w9 acO acP rX rY acM acN NV NW NS NT acL a1 a2 a3 a4 a5 a6 i k ops hk hl)).2
end Go.TX.F
namespace Go.TX.F
open Go Go.AE Go.TX Go.TX.Seat Go.Proofs
set_option maxRecDepth 100000
noncomputable def qC:Ct ak Cm:=cn (Iu (std 0) qA.pre qA.fn qB.pre qB.fn)
theorem Un:Fn E 140 (Iu (std 0) qA.pre qA.fn qB.pre qB.fn) qC:=mk Tryz.func140 rfl (by kernel_rfl) (hlC acI.ok (hlC Um.ok hlN)) (ak4 (std 0) qA qB)
def acS:=fun pc l hl hk=>(Un.cs (abg acJ acQ acR pc l hl hk)).1
def acT:=fun pc l hl hk=>(Un.cs (abg acJ acQ acR pc l hl hk)).2
noncomputable def qL:Ct ak Cn:=cn (Iw (std 0) qC.pre qC.fn qD.pre qD.fn iO.pre iO.fn aD.pre aD.fn qE.pre qE.fn)
theorem Uo:Fn E 66 (Iw (std 0) qC.pre qC.fn qD.pre qD.fn iO.pre iO.fn aD.pre aD.fn qE.pre qE.fn) qL:=mk Tryz.func66 rfl (by kernel_rfl) (hlC Un.ok (hlC Uc.ok (hlC NG.ok (hlC mq.ok (hlC Uj.ok hlN))))) (ak5 (std 0) qC qD iO aD qE)
def acU:=fun b p hb h1 h2=>(Uo.cs (abx acS acT acw acy NH NI fP fQ acG acH b p hb h1 h2)).1
def acV:=fun b p hb h1 h2=>(Uo.cs (abx acS acT acw acy NH NI fP fQ acG acH b p hb h1 h2)).2
noncomputable def vk:Ct ak L6:=cn (Y3 (std 0))
theorem ae9:Fn E 148 (Y3 (std 0)) vk:=mk Tryz.func148 rfl (by kernel_rfl) hlN (aqK (std 0))
def afa:=fun a=>(ae9.cs (aph a)).1
def afb:=fun a=>(ae9.cs (aph a)).2
noncomputable def lS:Ct ak Ef:=cn (Y4 (std 0) vk.pre vk.fn)
theorem acW:Fn E 80 (Y4 (std 0) vk.pre vk.fn) lS:=mk Tryz.func80 rfl (by kernel_rfl) (hlC ae9.ok hlN) (aqL (std 0) vk)
def XM:=fun a b=>(acW.cs (apj afa afb a b)).1
def XO:=fun a b=>(acW.cs (apj afa afb a b)).2
noncomputable def vo:Ct ak L8:=cn (Y7 (std 0))
theorem afc:Fn E 81 (Y7 (std 0)) vo:=mk Tryz.func81 rfl (by kernel_rfl) hlN (aqM (std 0))
def afd:=fun a b=>(afc.cs (apl a b)).1
def afe:=fun a b=>(afc.cs (apl a b)).2
noncomputable def xY:Ct ak J6:=cn (Pn (std 0) lS.pre lS.fn)
theorem acX:Fn E 149 (Pn (std 0) lS.pre lS.fn) xY:=mk Tryz.func149 rfl (by kernel_rfl) (hlC acW.ok hlN) (aon (std 0) lS)
def agA:=fun a b ha=>(acX.cs (afG XM XO a b ha)).1
def agB:=fun a b ha=>(acX.cs (afG XM XO a b ha)).2
noncomputable def eD:Ct ak nZ:=cn (Po (std 0) vo.pre vo.fn lS.pre lS.fn xY.pre xY.fn)
theorem KS:Fn E 82 (Po (std 0) vo.pre vo.fn lS.pre lS.fn xY.pre xY.fn) eD:=mk Tryz.func82 rfl (by kernel_rfl) (hlC afc.ok (hlC acW.ok (hlC acX.ok hlN))) (aoo (std 0) vo lS xY)
def D6:=fun a b ha=>(KS.cs (afH XM XO agA agB afd afe a b ha)).1
def D7:=fun a b ha=>(KS.cs (afH XM XO agA agB afd afe a b ha)).2
noncomputable def aF:Ct ak dB:=cn (Pp (std 0))
theorem nG:Fn E 121 (Pp (std 0)) aF:=mk Tryz.func121 rfl (by kernel_rfl) hlN (aop (std 0))
def gL:=fun a b c=>(nG.cs (afC a b c)).1
def gM:=fun a b c=>(nG.cs (afC a b c)).2
noncomputable def lT:Ct ak Eh:=cn (Y8 (std 0) vk.pre vk.fn)
theorem acY:Fn E 185 (Y8 (std 0) vk.pre vk.fn) lT:=mk Tryz.func185 rfl (by kernel_rfl) (hlC ae9.ok hlN) (aqN (std 0) vk)
def aff:=fun a b=>(acY.cs (apk afa afb a b)).1
def afg:=fun a b=>(acY.cs (apk afa afb a b)).2
noncomputable def qI:Ct ak Cq:=cn (Iy (std 0) lT.pre lT.fn)
theorem Uq:Fn E 141 (Iy (std 0) lT.pre lT.fn) qI:=mk Tryz.func141 rfl (by kernel_rfl) (hlC acY.ok hlN) (ak6 (std 0) lT)
def acZ:=fun a ha=>(Uq.cs (ZJ aff afg a ha)).1
def ac0:=fun a ha=>(Uq.cs (ZJ aff afg a ha)).2
noncomputable def xZ:Ct ak J7:=cn (Pq (std 0))
theorem ac1:Fn E 187 (Pq (std 0)) xZ:=mk Tryz.func187 rfl (by kernel_rfl) hlN (aoq (std 0))
def agC:=fun a n=>(ac1.cs (afI a n)).1
def agD:=fun a n=>(ac1.cs (afI a n)).2
noncomputable def qF:Ct ak Cr:=cn (Iz (std 0) xZ.pre xZ.fn)
theorem Ur:Fn E 215 (Iz (std 0) xZ.pre xZ.fn) qF:=mk Tryz.func215 rfl (by kernel_rfl) (hlC ac1.ok hlN) (ak7 (std 0) xZ)
def ac2:=fun a n ha=>(Ur.cs (ZK agC agD a n ha)).1
def ac3:=fun a n ha=>(Ur.cs (ZK agC agD a n ha)).2
noncomputable def qG:Ct ak Cu:=cn (IB (std 0) qF.pre qF.fn)
theorem Us:Fn E 186 (IB (std 0) qF.pre qF.fn) qG:=mk Tryz.func186 rfl (by kernel_rfl) (hlC Ur.ok hlN) (ak8 (std 0) qF)
def ac4:=fun a n ha=>(Us.cs (ZL ac2 ac3 a n ha)).1
def ac5:=fun a n ha=>(Us.cs (ZL ac2 ac3 a n ha)).2
noncomputable def kP:Ct ak Ad:=cn (Pv (std 0) qG.pre qG.fn)
theorem VR:Fn E 142 (Pv (std 0) qG.pre qG.fn) kP:=mk Tryz.func142 rfl (by kernel_rfl) (hlC Us.ok hlN) (aor (std 0) qG)
def VT:=fun a n ha=>(VR.cs (afJ ac4 ac5 a n ha)).1
def VU:=fun a n ha=>(VR.cs (afJ ac4 ac5 a n ha)).2
noncomputable def yc:Ct ak J8:=cn (Pw (std 0))
theorem ac6:Fn E 144 (Pw (std 0)) yc:=mk Tryz.func144 rfl (by kernel_rfl) hlN (aos (std 0))
def agE:=fun m=>(ac6.cs (afK m)).1
def agF:=fun m=>(ac6.cs (afK m)).2
noncomputable def qH:Ct ak Cv:=cn (IC (std 0) yc.pre yc.fn)
theorem Ut:Fn E 188 (IC (std 0) yc.pre yc.fn) qH:=mk Tryz.func188 rfl (by kernel_rfl) (hlC ac6.ok hlN) (ak9 (std 0) yc)
def ac7:=fun a ha=>(Ut.cs (ZM (G:=(fun m:aj=>0<m.atoms.length∧m.atoms.getD 0 default<0)) agE agF a ha)).1
def ac8:=fun a ha=>(Ut.cs (ZM (G:=(fun m:aj=>0<m.atoms.length∧m.atoms.getD 0 default<0)) agE agF a ha)).2
noncomputable def qJ:Ct ak Cw:=cn (IE (std 0) qH.pre qH.fn)
theorem Uu:Fn E 143 (IE (std 0) qH.pre qH.fn) qJ:=mk Tryz.func143 rfl (by kernel_rfl) (hlC Ut.ok hlN) (ala (std 0) qH)
def ac9:=fun a ha=>(Uu.cs (ZN (G:=(fun m:aj=>0<m.atoms.length∧m.atoms.getD 0 default<0)) ac7 ac8 a ha)).1
def ada:=fun a ha=>(Uu.cs (ZN (G:=(fun m:aj=>0<m.atoms.length∧m.atoms.getD 0 default<0)) ac7 ac8 a ha)).2
noncomputable def bB:Ct ak jl:=cn (Px (std 0) aF.pre aF.fn kP.pre kP.fn qI.pre qI.fn eD.pre eD.fn qJ.pre qJ.fn)
theorem AL:Fn E 67 (Px (std 0) aF.pre aF.fn kP.pre kP.fn qI.pre qI.fn eD.pre eD.fn qJ.pre qJ.fn) bB:=mk Tryz.func67 rfl (by kernel_rfl) (hlC nG.ok (hlC VR.ok (hlC Uq.ok (hlC KS.ok (hlC Uu.ok hlN))))) (aot (std 0) aF kP qI eD qJ)
def oO:=fun a ha=>(AL.cs (afL gL gM VT VU acZ ac0 D6 D7 ac9 ada a ha)).1
def oP:=fun a ha=>(AL.cs (afL gL gM VT VU acZ ac0 D6 D7 ac9 ada a ha)).2
noncomputable def kR:Ct ak Ae:=cn (Py (std 0) bB.pre bB.fn)
theorem VW:Fn E 22 (Py (std 0) bB.pre bB.fn) kR:=mk Tryz.func22 rfl (by kernel_rfl) (hlC AL.ok hlN) (aou (std 0) bB)
def VX:=fun a ha=>(VW.cs (afS oO oP a ha)).1
def VY:=fun a ha=>(VW.cs (afS oO oP a ha)).2
noncomputable def gH:Ct ak vK:=cn (Pz (std 0) vo.pre vo.fn lS.pre lS.fn eD.pre eD.fn)
theorem QV:Fn E 24 (Pz (std 0) vo.pre vo.fn lS.pre lS.fn eD.pre eD.fn) gH:=mk Tryz.func24 rfl (by kernel_rfl) (hlC afc.ok (hlC acW.ok (hlC KS.ok hlN))) (aov (std 0) vo lS eD)
def KT:=fun a b ha=>(QV.cs (afM afd afe XM XO D6 D7 a b ha)).1
def KU:=fun a b ha=>(QV.cs (afM afd afe XM XO D6 D7 a b ha)).2
noncomputable def kQ:Ct ak Af:=cn (PD (std 0))
theorem VZ:Fn E 189 (PD (std 0)) kQ:=mk Tryz.func189 rfl (by kernel_rfl) hlN (aow (std 0))
def V3:=fun a ha=>(VZ.cs (afT a ha)).1
def V4:=fun a ha=>(VZ.cs (afT a ha)).2
noncomputable def gG:Ct ak vL:=cn (PE (std 0) kQ.pre kQ.fn)
theorem QW:Fn E 146 (PE (std 0) kQ.pre kQ.fn) gG:=mk Tryz.func146 rfl (by kernel_rfl) (hlC VZ.ok hlN) (aox (std 0) kQ)
def KV:=fun a ha=>(QW.cs (afU V3 V4 a ha)).1
def KW:=fun a ha=>(QW.cs (afU V3 V4 a ha)).2
noncomputable def yg:Ct ak J9:=cn (PG (std 0) gG.pre gG.fn)
theorem adb:Fn E 145 (PG (std 0) gG.pre gG.fn) yg:=mk Tryz.func145 rfl (by kernel_rfl) (hlC QW.ok hlN) (aoy (std 0) gG)
def agG:=fun a ha=>(adb.cs (ags KV KW a ha)).1
def agH:=fun a ha=>(adb.cs (ags KV KW a ha)).2
noncomputable def yh:Ct ak Ka:=cn (PI (std 0) gG.pre gG.fn yg.pre yg.fn)
theorem ade:Fn E 68 (PI (std 0) gG.pre gG.fn yg.pre yg.fn) yh:=mk Tryz.func68 rfl (by kernel_rfl) (hlC QW.ok (hlC adb.ok hlN)) (aoz (std 0) gG yg)
def agI:=fun s hs=>(ade.cs (agt KV KW agG agH s hs)).1
def agJ:=fun s hs=>(ade.cs (agt KV KW agG agH s hs)).2
noncomputable def gI:Ct ak vM:=cn (PK (std 0) gH.pre gH.fn)
theorem QX:Fn E 69 (PK (std 0) gH.pre gH.fn) gI:=mk Tryz.func69 rfl (by kernel_rfl) (hlC QV.ok hlN) (aoA (std 0) gH)
def KY:=fun a b ha=>(QX.cs (afN KT KU a b ha)).1
def KZ:=fun a b ha=>(QX.cs (afN KT KU a b ha)).2
noncomputable def bQ:Ct ak jJ:=cn (PO (std 0) aF.pre aF.fn)
theorem D8:Fn E 78 (PO (std 0) aF.pre aF.fn) bQ:=mk Tryz.func78 rfl (by kernel_rfl) (hlC nG.ok hlN) (aoB (std 0) aF)
def vQ:=fun a=>(D8.cs (afD gL gM a)).1
def vR:=fun a=>(D8.cs (afD gL gM a)).2
noncomputable def yj:Ct ak Kc:=cn (PS (std 0) bQ.pre bQ.fn)
theorem adf:Fn E 70 (PS (std 0) bQ.pre bQ.fn) yj:=mk Tryz.func70 rfl (by kernel_rfl) (hlC D8.ok hlN) (aoC (std 0) bQ)
def agK:=fun r a b=>(adf.cs (agr vQ vR r a b)).1
def agL:=fun r a b=>(adf.cs (agr vQ vR r a b)).2
noncomputable def yL:Ct ak Ke:=cn (PU (std 0) kR.pre kR.fn bB.pre bB.fn gH.pre gH.fn yh.pre yh.fn gI.pre gI.fn yj.pre yj.fn)
theorem adg:Fn E 16 (PU (std 0) kR.pre kR.fn bB.pre bB.fn gH.pre gH.fn yh.pre yh.fn gI.pre gI.fn yj.pre yj.fn) yL:=mk Tryz.func16 rfl (by kernel_rfl) (hlC VW.ok (hlC AL.ok (hlC QV.ok (hlC ade.ok (hlC QX.ok (hlC adf.ok hlN)))))) (aoD (std 0) kR bB gH yh gI yj)
def agM:=fun s n hs h0 h1=>(adg.cs (agx VX VY oO oP KT KU agI agJ KY KZ agK agL s n hs h0 h1)).1
def agN:=fun s n hs h0 h1=>(adg.cs (agx VX VY oO oP KT KU agI agJ KY KZ agK agL s n hs h0 h1)).2
end Go.TX.F
namespace Go.TX.F
open Go Go.AE Go.TX Go.TX.Seat Go.Proofs
set_option maxRecDepth 100000
noncomputable def yR:Ct ak Kg:=cn (PY (std 0) bQ.pre bQ.fn)
theorem adh:Fn E 20 (PY (std 0) bQ.pre bQ.fn) yR:=mk Tryz.func20 rfl (by kernel_rfl) (hlC D8.ok hlN) (aoE (std 0) bQ)
def agO:=(adh.cs (agd vQ vR)).1
def agP:=(adh.cs (agd vQ vR)).2
noncomputable def qK:Ct ak Cx:=cn (Da (std 0) aD.pre aD.fn dW.pre dW.fn)
theorem Uv:Fn E 151 (Da (std 0) aD.pre aD.fn dW.pre dW.fn) qK:=mk Tryz.func151 rfl (by kernel_rfl) (hlC mq.ok (hlC Ju.ok hlN)) (alb (std 0) aD dW)
def adi:=fun c b p hc hb h1 h2=>(Uv.cs (aby fP fQ Dv Dw c b p hc hb h1 h2)).1
def adk:=fun c b p hc hb h1 h2=>(Uv.cs (aby fP fQ Dv Dw c b p hc hb h1 h2)).2
noncomputable def rO:Ct ak Cy:=cn (IJ (std 0) iV.pre iV.fn aD.pre aD.fn qK.pre qK.fn qL.pre qL.fn)
theorem Uw:Fn E 98 (IJ (std 0) iV.pre iV.fn aD.pre aD.fn qK.pre qK.fn qL.pre qL.fn) rO:=mk Tryz.func98 rfl (by kernel_rfl) (hlC MH.ok (hlC mq.ok (hlC Uv.ok (hlC Uo.ok hlN)))) (alc (std 0) iV aD qK qL)
def adl:=fun n b p hb h1 h2=>(Uw.cs (abz MI MJ fP fQ adi adk acU acV n b p hb h1 h2)).1
def adn:=fun n b p hb h1 h2=>(Uw.cs (abz MI MJ fP fQ adi adk acU acV n b p hb h1 h2)).2
noncomputable def kS:Ct ak Ag:=cn (PZ (std 0) aF.pre aF.fn)
theorem V5:Fn E 164 (PZ (std 0) aF.pre aF.fn) kS:=mk Tryz.func164 rfl (by kernel_rfl) (hlC nG.ok hlN) (aoF (std 0) aF)
def V6:=fun a=>(V5.cs (afE gL gM a)).1
def V7:=fun a=>(V5.cs (afE gL gM a)).2
noncomputable def kU:Ct ak Ah:=cn (P5 (std 0) aF.pre aF.fn)
theorem V8:Fn E 165 (P5 (std 0) aF.pre aF.fn) kU:=mk Tryz.func165 rfl (by kernel_rfl) (hlC nG.ok hlN) (aoG (std 0) aF)
def V9:=fun a=>(V8.cs (afF gL gM a)).1
def Wh:=fun a=>(V8.cs (afF gL gM a)).2
noncomputable def kV:Ct ak Ai:=cn (P6 (std 0) aF.pre aF.fn kS.pre kS.fn kP.pre kP.fn bB.pre bB.fn kU.pre kU.fn)
theorem Wi:Fn E 108 (P6 (std 0) aF.pre aF.fn kS.pre kS.fn kP.pre kP.fn bB.pre bB.fn kU.pre kU.fn) kV:=mk Tryz.func108 rfl (by kernel_rfl) (hlC nG.ok (hlC V5.ok (hlC VR.ok (hlC AL.ok (hlC V8.ok hlN))))) (aoH (std 0) aF kS kP bB kU)
def Wj:=fun a n ha=>(Wi.cs (af2 gL gM V6 V7 VT VU oO oP V9 Wh a n ha)).1
def Wm:=fun a n ha=>(Wi.cs (af2 gL gM V6 V7 VT VU oO oP V9 Wh a n ha)).2
noncomputable def yu:Ct ak Kh:=cn (P7 (std 0) gI.pre gI.fn)
theorem ado:Fn E 168 (P7 (std 0) gI.pre gI.fn) yu:=mk Tryz.func168 rfl (by kernel_rfl) (hlC QX.ok hlN) (aoI (std 0) gI)
def agQ:=fun a b ha=>(ado.cs (afY KY KZ a b ha)).1
def agR:=fun a b ha=>(ado.cs (afY KY KZ a b ha)).2
noncomputable def yw:Ct ak Ki:=cn (P8 (std 0) yu.pre yu.fn)
theorem adp:Fn E 167 (P8 (std 0) yu.pre yu.fn) yw:=mk Tryz.func167 rfl (by kernel_rfl) (hlC ado.ok hlN) (aoJ (std 0) yu)
def agS:=fun a b hb=>(adp.cs (afZ agQ agR a b hb)).1
def agT:=fun a b hb=>(adp.cs (afZ agQ agR a b hb)).2
noncomputable def qM:Ct ak Cz:=cn (IK (std 0) yw.pre yw.fn)
theorem Ux:Fn E 166 (IK (std 0) yw.pre yw.fn) qM:=mk Tryz.func166 rfl (by kernel_rfl) (hlC adp.ok hlN) (ald (std 0) yw)
def adq:=fun a b ha hb=>(Ux.cs (ZP agS agT a b ha hb)).1
def adr:=fun a b ha hb=>(Ux.cs (ZP agS agT a b ha hb)).2
noncomputable def kW:Ct ak Aj:=cn (P9 (std 0) qM.pre qM.fn)
theorem Wn:Fn E 109 (P9 (std 0) qM.pre qM.fn) kW:=mk Tryz.func109 rfl (by kernel_rfl) (hlC Ux.ok hlN) (aoK (std 0) qM)
def Wo:=fun a b ha hb=>(Wn.cs (af0 adq adr a b ha hb)).1
def Wp:=fun a b ha hb=>(Wn.cs (af0 adq adr a b ha hb)).2
noncomputable def lJ:Ct ak Ak:=cn (Qa (std 0) kV.pre kV.fn kW.pre kW.fn)
theorem Wq:Fn E 38 (Qa (std 0) kV.pre kV.fn kW.pre kW.fn) lJ:=mk Tryz.func38 rfl (by kernel_rfl) (hlC Wi.ok (hlC Wn.ok hlN)) (aoL (std 0) kV kW)
def Ws:=fun a ha=>(Wq.cs (af3 Wj Wm Wo Wp a ha)).1
def Wt:=fun a ha=>(Wq.cs (af3 Wj Wm Wo Wp a ha)).2
noncomputable def kY:Ct ak Al:=cn (Qb (std 0) aF.pre aF.fn)
theorem Wu:Fn E 100 (Qb (std 0) aF.pre aF.fn) kY:=mk Tryz.func100 rfl (by kernel_rfl) (hlC nG.ok hlN) (aoM (std 0) aF)
def Wv:=fun o=>(Wu.cs (agi gL gM o)).1
def Ww:=fun o=>(Wu.cs (agi gL gM o)).2
noncomputable def yx:Ct ak Kj:=cn (Qc (std 0) aF.pre aF.fn)
theorem ads:Fn E 199 (Qc (std 0) aF.pre aF.fn) yx:=mk Tryz.func199 rfl (by kernel_rfl) (hlC nG.ok hlN) (aoN (std 0) aF)
def agU:=fun o=>(ads.cs (agj gL gM o)).1
def agV:=fun o=>(ads.cs (agj gL gM o)).2
noncomputable def kX:Ct ak Am:=cn (Qd (std 0) yx.pre yx.fn aF.pre aF.fn)
theorem Wx:Fn E 172 (Qd (std 0) yx.pre yx.fn aF.pre aF.fn) kX:=mk Tryz.func172 rfl (by kernel_rfl) (hlC ads.ok (hlC nG.ok hlN)) (aoO (std 0) yx aF)
def Wy:=fun b x n h0 h1 h2=>(Wx.cs (agl agU agV gL gM b x n h0 h1 h2)).1
def Wz:=fun b x n h0 h1 h2=>(Wx.cs (agl agU agV gL gM b x n h0 h1 h2)).2
noncomputable def yB:Ct ak Kk:=cn (Qe (std 0) kX.pre kX.fn kY.pre kY.fn bQ.pre bQ.fn aF.pre aF.fn kS.pre kS.fn kU.pre kU.fn)
theorem adt:Fn E 122 (Qe (std 0) kX.pre kX.fn kY.pre kY.fn bQ.pre bQ.fn aF.pre aF.fn kS.pre kS.fn kU.pre kU.fn) yB:=mk Tryz.func122 rfl (by kernel_rfl) (hlC Wx.ok (hlC Wu.ok (hlC D8.ok (hlC nG.ok (hlC V5.ok (hlC V8.ok hlN)))))) (aoP (std 0) kX kY bQ aF kS kU)
def agW:=fun b i h0 h1 h2 h3=>(adt.cs (agm Wy Wz Wv Ww vQ vR gL gM V6 V7 V9 Wh b i h0 h1 h2 h3)).1
def agX:=fun b i h0 h1 h2 h3=>(adt.cs (agm Wy Wz Wv Ww vQ vR gL gM V6 V7 V9 Wh b i h0 h1 h2 h3)).2
noncomputable def kZ:Ct ak Ao:=cn (Qh (std 0))
theorem WA:Fn E 106 (Qh (std 0)) kZ:=mk Tryz.func106 rfl (by kernel_rfl) hlN (aoQ (std 0))
def WB:=fun b=>(WA.cs (agn b)).1
def WE:=fun b=>(WA.cs (agn b)).2
noncomputable def yA:Ct ak Kl:=cn (Qi (std 0) kZ.pre kZ.fn kX.pre kX.fn bQ.pre bQ.fn aF.pre aF.fn)
theorem adu:Fn E 123 (Qi (std 0) kZ.pre kZ.fn kX.pre kX.fn bQ.pre bQ.fn aF.pre aF.fn) yA:=mk Tryz.func123 rfl (by kernel_rfl) (hlC WA.ok (hlC Wx.ok (hlC D8.ok (hlC nG.ok hlN)))) (aoR (std 0) kZ kX bQ aF)
def agY:=fun b h2=>(adu.cs (agp WB WE Wy Wz vQ vR gL gM b h2)).1
def agZ:=fun b h2=>(adu.cs (agp WB WE Wy Wz vQ vR gL gM b h2)).2
noncomputable def yJ:Ct ak Km:=cn (Qj (std 0) yA.pre yA.fn yB.pre yB.fn aF.pre aF.fn)
theorem adw:Fn E 51 (Qj (std 0) yA.pre yA.fn yB.pre yB.fn aF.pre aF.fn) yJ:=mk Tryz.func51 rfl (by kernel_rfl) (hlC adu.ok (hlC adt.ok (hlC nG.ok hlN))) (aoS (std 0) yA yB aF)
def ag0:=fun b h2=>(adw.cs (agq agY agZ agW agX gL gM b h2)).1
def ag1:=fun b h2=>(adw.cs (agq agY agZ agW agX gL gM b h2)).2
noncomputable def yC:Ct ak Kn:=cn (Qk (std 0))
theorem adx:Fn E 198 (Qk (std 0)) yC:=mk Tryz.func198 rfl (by kernel_rfl) hlN (aoT (std 0))
def ag2:=fun a=>(adx.cs (afX a)).1
def ag3:=fun a=>(adx.cs (afX a)).2
noncomputable def lu:Ct ak Ap:=cn (Ql (std 0) kV.pre kV.fn kW.pre kW.fn yC.pre yC.fn)
theorem WG:Fn E 162 (Ql (std 0) kV.pre kV.fn kW.pre kW.fn yC.pre yC.fn) lu:=mk Tryz.func162 rfl (by kernel_rfl) (hlC Wi.ok (hlC Wn.ok (hlC adx.ok hlN))) (aoU (std 0) kV kW yC)
def WH:=fun t a ht ha=>(WG.cs (af4 Wj Wm Wo Wp ag2 ag3 t a ht ha)).1
def WI:=fun t a ht ha=>(WG.cs (af4 Wj Wm Wo Wp ag2 ag3 t a ht ha)).2
noncomputable def lg:Ct ak Aq:=cn (Qm (std 0) aF.pre aF.fn)
theorem WJ:Fn E 163 (Qm (std 0) aF.pre aF.fn) lg:=mk Tryz.func163 rfl (by kernel_rfl) (hlC nG.ok hlN) (aoV (std 0) aF)
def WK:=fun a=>(WJ.cs (afR gL gM a)).1
def WL:=fun a=>(WJ.cs (afR gL gM a)).2
noncomputable def lC:Ct ak Ar:=cn (Qn (std 0) lg.pre lg.fn lu.pre lu.fn)
theorem WM:Fn E 105 (Qn (std 0) lg.pre lg.fn lu.pre lu.fn) lC:=mk Tryz.func105 rfl (by kernel_rfl) (hlC WJ.ok (hlC WG.ok hlN)) (aoW (std 0) lg lu)
def WO:=fun kd k t fl ht=>(WM.cs (agu WK WL WH WI kd k t fl ht)).1
def WQ:=fun kd k t fl ht=>(WM.cs (agu WK WL WH WI kd k t fl ht)).2
noncomputable def yO:Ct ak Ko:=cn (Qo (std 0) lC.pre lC.fn)
theorem ady:Fn E 99 (Qo (std 0) lC.pre lC.fn) yO:=mk Tryz.func99 rfl (by kernel_rfl) (hlC WM.ok hlN) (aoX (std 0) lC)
def ag4:=fun t fl ht hl=>(ady.cs (agv WO WQ t fl ht hl)).1
def ag5:=fun t fl ht hl=>(ady.cs (agv WO WQ t fl ht hl)).2
end Go.TX.F
namespace Go.TX.F
open Go Go.AE Go.TX Go.TX.Seat Go.Proofs
set_option maxRecDepth 100000
noncomputable def yK:Ct ak Kq:=cn (Qp (std 0) aF.pre aF.fn)
theorem adz:Fn E 101 (Qp (std 0) aF.pre aF.fn) yK:=mk Tryz.func101 rfl (by kernel_rfl) (hlC nG.ok hlN) (aoY (std 0) aF)
def ag6:=fun o=>(adz.cs (agk gL gM o)).1
def ag7:=fun o=>(adz.cs (agk gL gM o)).2
noncomputable def yP:Ct ak Kr:=cn (Qq (std 0))
theorem adA:Fn E 102 (Qq (std 0)) yP:=mk Tryz.func102 rfl (by kernel_rfl) hlN (aoZ (std 0))
def ag8:=fun a h0 h1=>(adA.cs (agw a h0 h1)).1
def ag9:=fun a h0 h1=>(adA.cs (agw a h0 h1)).2
noncomputable def gK:Ct ak vN:=cn (Qr (std 0) aF.pre aF.fn)
theorem QY:Fn E 103 (Qr (std 0) aF.pre aF.fn) gK:=mk Tryz.func103 rfl (by kernel_rfl) (hlC nG.ok hlN) (ao0 (std 0) aF)
def K4:=fun a=>(QY.cs (afQ gL gM a)).1
def K6:=fun a=>(QY.cs (afQ gL gM a)).2
noncomputable def gJ:Ct ak vO:=cn (Qs (std 0))
theorem QZ:Fn E 169 (Qs (std 0)) gJ:=mk Tryz.func169 rfl (by kernel_rfl) hlN (ao1 (std 0))
def K7:=fun a=>(QZ.cs (afO a)).1
def K8:=fun a=>(QZ.cs (afO a)).2
noncomputable def yF:Ct ak Kt:=cn (Qt (std 0) bQ.pre bQ.fn gJ.pre gJ.fn)
theorem adB:Fn E 112 (Qt (std 0) bQ.pre bQ.fn gJ.pre gJ.fn) yF:=mk Tryz.func112 rfl (by kernel_rfl) (hlC D8.ok (hlC QZ.ok hlN)) (ao2 (std 0) bQ gJ)
def aha:=fun op a b=>(adB.cs (afP vQ vR K7 K8 op a b)).1
def ahb:=fun op a b=>(adB.cs (afP vQ vR K7 K8 op a b)).2
noncomputable def lD:Ct ak Au:=cn (Qu (std 0) eD.pre eD.fn)
theorem WR:Fn E 224 (Qu (std 0) eD.pre eD.fn) lD:=mk Tryz.func224 rfl (by kernel_rfl) (hlC KS.ok hlN) (ao3 (std 0) eD)
def adC:=fun a b ha=>(WR.cs (afW D6 D7 a b ha)).1
def adD:=fun a b ha=>(WR.cs (afW D6 D7 a b ha)).2
noncomputable def qP:Ct ak CB:=cn (IU (std 0) lD.pre lD.fn)
theorem Uy:Fn E 240 (IU (std 0) lD.pre lD.fn) qP:=mk Tryz.func240 rfl (by kernel_rfl) (hlC WR.ok hlN) (ale (std 0) lD)
def adE:=fun a b d hd h1 h2 h3=>(Uy.cs (ZT adC adD a b d hd h1 h2 h3)).1
def adF:=fun a b d hd h1 h2 h3=>(Uy.cs (ZT adC adD a b d hd h1 h2 h3)).2
noncomputable def qN:Ct ak CF:=cn (IV (std 0))
theorem Uz:Fn E 249 (IV (std 0)) qN:=mk Tryz.func249 rfl (by kernel_rfl) hlN (alf (std 0))
def adG:=fun a b n d hl h1 h2 h3 h4=>(Uz.cs (ZQ a b n d hl h1 h2 h3 h4)).1
def adH:=fun a b n d hl h1 h2 h3 h4=>(Uz.cs (ZQ a b n d hl h1 h2 h3 h4)).2
noncomputable def qO:Ct ak CG:=cn (IW (std 0) qN.pre qN.fn)
theorem UA:Fn E 247 (IW (std 0) qN.pre qN.fn) qO:=mk Tryz.func247 rfl (by kernel_rfl) (hlC Uz.ok hlN) (alg (std 0) qN)
def al4:=fun a m b d hl h1 h2 h3 h4=>(UA.cs (ZR adG adH a m b d hl h1 h2 h3 h4)).1
def al5:=fun a m b d hl h1 h2 h3 h4=>(UA.cs (ZR adG adH a m b d hl h1 h2 h3 h4)).2
noncomputable def cK:Nat→Ct ak og
  | 0=>never og
  | k+1=>cn (IX (std 0) lD.pre lD.fn qO.pre qO.fn (cK k).pre (cK k).fn)
theorem kK:∀k:Nat,dH E 241 (dF (cK k))∧∀(a m b:Int) (d:List aj),Dh a m b d→b-a<k→(cK k).pre (a,m,b,d,())=true∧Mrg d ((cK k).fn (a,m,b,d,())).1 a b
  | 0=>⟨lN (enters_of Tryz.func241 (by kernel_rfl) rfl),fun a m b d h1 h2=>(by have g1:=h1.h2;have g2:=h1.h3;omega)⟩
  | k+1=>by
    have ih:=kK k
    have t:Fn E 241 (IX (std 0) lD.pre lD.fn qO.pre qO.fn (cK k).pre (cK k).fn) (cK (k+1)):=mk Tryz.func241 rfl (by kernel_rfl) (hlC WR.ok (hlC UA.ok (hlC ih.1 hlN))) (alh (std 0) lD qO (cK k))
    exact⟨t.ok,fun a m b d h1 h2=>t.cs (alL adC adD al4 al5 (k:Int) (fun a m b d h1 h2=>(ih.2 a m b d h1 h2).1) (fun a m b d h1 h2=>(ih.2 a m b d h1 h2).2) a m b d h1 (by omega))⟩
noncomputable def lF:Ct ak og:=cK 1000000000
theorem al6:dH E 241 (dF lF):=(kK 1000000000).1
theorem ahc {a m b:Int} {d:List aj} (h:Dh a m b d):b-a< ((1000000000:Nat):Int):=by have g0:=h.sh.1;have g1:=h.h1;have g2:=h.h4;omega
def adI:=fun a m b d h=>((kK 1000000000).2 a m b d h (ahc h)).1
def adJ:=fun a m b d h=>((kK 1000000000).2 a m b d h (ahc h)).2
noncomputable def qQ:Ct ak CJ:=cn (I4 (std 0) qP.pre qP.fn lF.pre lF.fn)
theorem UC:Fn E 229 (I4 (std 0) qP.pre qP.fn lF.pre lF.fn) qQ:=mk Tryz.func229 rfl (by kernel_rfl) (hlC Uy.ok (hlC al6 hlN)) (ali (std 0) qP lF)
def adK:=fun n d hd hn=>(UC.cs (ZU adE adF adI adJ n d hd hn)).1
def adL:=fun n d hd hn=>(UC.cs (ZU adE adF adI adJ n d hd hn)).2
noncomputable def qR:Ct ak CK:=cn (I5 (std 0) qQ.pre qQ.fn)
theorem UD:Fn E 223 (I5 (std 0) qQ.pre qQ.fn) qR:=mk Tryz.func223 rfl (by kernel_rfl) (hlC UC.ok hlN) (alj (std 0) qQ)
def adM:=fun d hd=>(UD.cs (ZV adK adL d hd)).1
def adN:=fun d hd=>(UD.cs (ZV adK adL d hd)).2
noncomputable def lG:Ct ak Av:=cn (Qx (std 0) eD.pre eD.fn bB.pre bB.fn gJ.pre gJ.fn kQ.pre kQ.fn qR.pre qR.fn)
theorem WS:Fn E 217 (Qx (std 0) eD.pre eD.fn bB.pre bB.fn gJ.pre gJ.fn kQ.pre kQ.fn qR.pre qR.fn) lG:=mk Tryz.func217 rfl (by kernel_rfl) (hlC KS.ok (hlC AL.ok (hlC QZ.ok (hlC VZ.ok (hlC UD.ok hlN))))) (ao4 (std 0) eD bB gJ kQ qR)
def WT:=fun l hl hc=>(WS.cs (af5 D6 D7 oO oP K7 K8 V3 V4 adM adN l hl hc)).1
def WU:=fun l hl hc=>(WS.cs (af5 D6 D7 oO oP K7 K8 V3 V4 adM adN l hl hc)).2
noncomputable def qU:Ct ak CO:=cn (I6 (std 0))
theorem UE:Fn E 225 (I6 (std 0)) qU:=mk Tryz.func225 rfl (by kernel_rfl) hlN (alk (std 0))
def adO:=fun n h1 h2=>(UE.cs (ZW n h1 h2)).1
def adP:=fun n h1 h2=>(UE.cs (ZW n h1 h2)).2
noncomputable def yD:Ct ak Ku:=cn (Qy (std 0) qU.pre qU.fn)
theorem adQ:Fn E 218 (Qy (std 0) qU.pre qU.fn) yD:=mk Tryz.func218 rfl (by kernel_rfl) (hlC UE.ok hlN) (ao5 (std 0) qU)
def ahd:=fun a b ha hb=>(adQ.cs (af6 adO adP a b ha hb)).1
def ahe:=fun a b ha hb=>(adQ.cs (af6 adO adP a b ha hb)).2
noncomputable def yG:Ct ak Kv:=cn (Qz (std 0) bB.pre bB.fn lG.pre lG.fn yD.pre yD.fn)
theorem adR:Fn E 195 (Qz (std 0) bB.pre bB.fn lG.pre lG.fn yD.pre yD.fn) yG:=mk Tryz.func195 rfl (by kernel_rfl) (hlC AL.ok (hlC WS.ok (hlC adQ.ok hlN))) (ao6 (std 0) bB lG yD)
def ahf:=fun a b ha hb=>(adR.cs (af8 oO oP WT WU ahd ahe a b ha hb)).1
def ahg:=fun a b ha hb=>(adR.cs (af8 oO oP WT WU ahd ahe a b ha hb)).2
noncomputable def qV:Ct ak CP:=cn (I7 (std 0))
theorem UF:Fn E 226 (I7 (std 0)) qV:=mk Tryz.func226 rfl (by kernel_rfl) hlN (alm (std 0))
def adS:=fun n h1 h2=>(UF.cs (ZX n h1 h2)).1
def adT:=fun n h1 h2=>(UF.cs (ZX n h1 h2)).2
noncomputable def yE:Ct ak Kw:=cn (QA (std 0) qV.pre qV.fn)
theorem adU:Fn E 219 (QA (std 0) qV.pre qV.fn) yE:=mk Tryz.func219 rfl (by kernel_rfl) (hlC UF.ok hlN) (ao7 (std 0) qV)
def ahh:=fun a b ha hb=>(adU.cs (af7 adS adT a b ha hb)).1
def ahi:=fun a b ha hb=>(adU.cs (af7 adS adT a b ha hb)).2
noncomputable def qW:Ct ak CQ:=cn (I8 (std 0) lT.pre lT.fn)
theorem UG:Fn E 230 (I8 (std 0) lT.pre lT.fn) qW:=mk Tryz.func230 rfl (by kernel_rfl) (hlC acY.ok hlN) (aln (std 0) lT)
def adV:=fun a b d hd h1 h2=>(UG.cs (aaV aff afg a b d hd h1 h2)).1
def adW:=fun a b d hd h1 h2=>(UG.cs (aaV aff afg a b d hd h1 h2)).2
noncomputable def qX:Ct ak FV:=never FV
theorem al7:dH E 231 (dF qX):=lN (enters_of Tryz.func231 (by kernel_rfl) rfl)
noncomputable def qY:Ct ak FW:=never FW
theorem al8:dH E 232 (dF qY):=lN (enters_of Tryz.func232 (by kernel_rfl) rfl)
noncomputable def qZ:Ct ak FX:=never FX
theorem al9:dH E 233 (dF qZ):=lN (enters_of Tryz.func233 (by kernel_rfl) rfl)
noncomputable def q8:Ct ak FY:=never FY
theorem ama:dH E 234 (dF q8):=lN (enters_of Tryz.func234 (by kernel_rfl) rfl)
noncomputable def q9:Ct ak FZ:=never FZ
theorem amb:dH E 235 (dF q9):=lN (enters_of Tryz.func235 (by kernel_rfl) rfl)
noncomputable def ru:Ct ak F3:=never F3
theorem amc:dH E 236 (dF ru):=lN (enters_of Tryz.func236 (by kernel_rfl) rfl)
noncomputable def rz:Ct ak F4:=never F4
theorem amd:dH E 237 (dF rz):=lN (enters_of Tryz.func237 (by kernel_rfl) rfl)
noncomputable def bH:Ct ak oh:=never oh
theorem nA:dH E 227 (dF bH):=lN (enters_of Tryz.func227 (by kernel_rfl) rfl)
noncomputable def lH:Ct ak oh:=cn (I9 (std 0) lT.pre lT.fn qW.pre qW.fn qX.pre qX.fn qY.pre qY.fn qZ.pre qZ.fn q8.pre q8.fn q9.pre q9.fn ru.pre ru.fn rz.pre rz.fn bH.pre bH.fn)
theorem UH:Fn E 227 (I9 (std 0) lT.pre lT.fn qW.pre qW.fn qX.pre qX.fn qY.pre qY.fn qZ.pre qZ.fn q8.pre q8.fn q9.pre q9.fn ru.pre ru.fn rz.pre rz.fn bH.pre bH.fn) lH:=mk Tryz.func227 rfl (by kernel_rfl) (hlC acY.ok (hlC UG.ok (hlC al7 (hlC al8 (hlC al9 (hlC ama (hlC amb (hlC amc (hlC amd (hlC nA hlN)))))))))) (alo (std 0) lT qW qX qY qZ q8 q9 ru rz bH)
def adX:=fun a b k d hd h1 h2=>(UH.cs (aaW adV adW _ _ _ _ _ _ _ _ _ _ _ _ _ _ _ _ a b k d hd h1 h2)).1
def adY:=fun a b k d hd h1 h2=>(UH.cs (aaW adV adW _ _ _ _ _ _ _ _ _ _ _ _ _ _ _ _ a b k d hd h1 h2)).2
end Go.TX.F
namespace Go.TX.F
open Go Go.AE Go.TX Go.TX.Seat Go.Proofs
set_option maxRecDepth 100000
noncomputable def wP:Ct ak Vt:={pre:=fun x=>decide ((0:Int)≤x.1)&&decide ((x.1:Int)≤18446744073709551615),fn:=fun x=>((Lib.bitLen (x.1:Int).toNat:Int),())}
theorem ahj (n:Int) (h1:0≤n) (h2:n≤18446744073709551615):wP.pre (n,())=true:=by
  show(decide _&&decide _)=true;simp only [Bool.and_eq_true,decide_eq_true_eq];exact⟨h1,h2⟩
theorem apw:dH E 228 (dF wP):=
  abD (enters_of Tryz.func228 (by kernel_rfl) rfl) rfl fun x w h=>by
      have h':(decide ((0:Int)≤x)&&decide (x≤18446744073709551615))=true:=h
      simp only [Bool.and_eq_true,decide_eq_true_eq]at h'
      exact bits_Len x w h'.1 h'.2
noncomputable def rA:Ct ak CS:=cn (Ja (std 0) lH.pre lH.fn wP.pre wP.fn)
theorem UJ:Fn E 220 (Ja (std 0) lH.pre lH.fn wP.pre wP.fn) rA:=mk Tryz.func220 rfl (by kernel_rfl) (hlC UH.ok (hlC apw hlN)) (alp (std 0) lH wP)
def adZ:=fun a ha=>(UJ.cs (aaX adX adY ahj a ha)).1
def ad1:=fun a ha=>(UJ.cs (aaX adX adY ahj a ha)).2
noncomputable def lI:Ct ak Aw:=cn (QB (std 0) bB.pre bB.fn gJ.pre gJ.fn lG.pre lG.fn yE.pre yE.fn rA.pre rA.fn)
theorem WW:Fn E 197 (QB (std 0) bB.pre bB.fn gJ.pre gJ.fn lG.pre lG.fn yE.pre yE.fn rA.pre rA.fn) lI:=mk Tryz.func197 rfl (by kernel_rfl) (hlC AL.ok (hlC QZ.ok (hlC WS.ok (hlC adU.ok (hlC UJ.ok hlN))))) (ao8 (std 0) bB gJ lG yE rA)
def WX:=fun a b ha hb=>(WW.cs (af9 oO oP K7 K8 WT WU ahh ahi adZ ad1 a b ha hb)).1
def WY:=fun a b ha hb=>(WW.cs (af9 oO oP K7 K8 WT WU ahh ahi adZ ad1 a b ha hb)).2
noncomputable def yH:Ct ak Ky:=cn (QC (std 0) bB.pre bB.fn gK.pre gK.fn bQ.pre bQ.fn lI.pre lI.fn)
theorem ad2:Fn E 196 (QC (std 0) bB.pre bB.fn gK.pre gK.fn bQ.pre bQ.fn lI.pre lI.fn) yH:=mk Tryz.func196 rfl (by kernel_rfl) (hlC AL.ok (hlC QY.ok (hlC D8.ok (hlC WW.ok hlN)))) (ao9 (std 0) bB gK bQ lI)
def ahk:=fun a n ha=>(ad2.cs (aga oO oP K4 K6 vQ vR WX WY a n ha)).1
def ahl:=fun a n ha=>(ad2.cs (aga oO oP K4 K6 vQ vR WX WY a n ha)).2
noncomputable def yI:Ct ak Kz:=cn (QF (std 0) gI.pre gI.fn gK.pre gK.fn yF.pre yF.fn yG.pre yG.fn lI.pre lI.fn yH.pre yH.fn kR.pre kR.fn)
theorem ad3:Fn E 161 (QF (std 0) gI.pre gI.fn gK.pre gK.fn yF.pre yF.fn yG.pre yG.fn lI.pre lI.fn yH.pre yH.fn kR.pre kR.fn) yI:=mk Tryz.func161 rfl (by kernel_rfl) (hlC QX.ok (hlC QY.ok (hlC adB.ok (hlC adR.ok (hlC WW.ok (hlC ad2.ok (hlC VW.ok hlN))))))) (apa (std 0) gI gK yF yG lI yH kR)
def ahm:=fun op x y hx hy=>(ad3.cs (agb KY KZ K4 K6 aha ahb ahf ahg WX WY ahk ahl VX VY op x y hx hy)).1
def ahn:=fun op x y hx hy=>(ad3.cs (agb KY KZ K4 K6 aha ahb ahf ahg WX WY ahk ahl VX VY op x y hx hy)).2
noncomputable def yN:Ct ak KA:=cn (QG (std 0) gH.pre gH.fn yI.pre yI.fn lu.pre lu.fn lg.pre lg.fn)
theorem ad4:Fn E 104 (QG (std 0) gH.pre gH.fn yI.pre yI.fn lu.pre lu.fn lg.pre lg.fn) yN:=mk Tryz.func104 rfl (by kernel_rfl) (hlC QV.ok (hlC ad3.ok (hlC WG.ok (hlC WJ.ok hlN)))) (apb (std 0) gH yI lu lg)
def aho:=fun t op x y ht hx hy=>(ad4.cs (agc KT KU ahm ahn WH WI WK WL t op x y ht hx hy)).1
def ahp:=fun t op x y ht hx hy=>(ad4.cs (agc KT KU ahm ahn WH WI WK WL t op x y ht hx hy)).2
noncomputable def yM:Ct ak KC:=cn (QH (std 0) gG.pre gG.fn)
theorem ad5:Fn E 107 (QH (std 0) gG.pre gG.fn) yM:=mk Tryz.func107 rfl (by kernel_rfl) (hlC QW.ok hlN) (apc (std 0) gG)
def ahq:=fun a ha=>(ad5.cs (afV KV KW a ha)).1
def ahr:=fun a ha=>(ad5.cs (afV KV KW a ha)).2
noncomputable def yQ:Ct ak KD:=cn (QI (std 0) kZ.pre kZ.fn yJ.pre yJ.fn yK.pre yK.fn kY.pre kY.fn gK.pre gK.fn yL.pre yL.fn lJ.pre lJ.fn yM.pre yM.fn yN.pre yN.fn lC.pre lC.fn yO.pre yO.fn yP.pre yP.fn)
theorem ad6:Fn E 37 (QI (std 0) kZ.pre kZ.fn yJ.pre yJ.fn yK.pre yK.fn kY.pre kY.fn gK.pre gK.fn yL.pre yL.fn lJ.pre lJ.fn yM.pre yM.fn yN.pre yN.fn lC.pre lC.fn yO.pre yO.fn yP.pre yP.fn) yQ:=mk Tryz.func37 rfl (by kernel_rfl) (hlC WA.ok (hlC adw.ok (hlC adz.ok (hlC Wu.ok (hlC QY.ok (hlC adg.ok (hlC Wq.ok (hlC ad5.ok (hlC ad4.ok (hlC WM.ok (hlC ady.ok (hlC adA.ok hlN)))))))))))) (apd (std 0) kZ yJ yK kY gK yL lJ yM yN lC yO yP)
def ahs:=fun t b ht hb=>(ad6.cs (agy WB WE ag0 ag1 ag6 ag7 Wv Ww K4 K6 agM agN Ws Wt ahq ahr aho ahp WO WQ ag4 ag5 ag8 ag9 t b ht hb)).1
def aht:=fun t b ht hb=>(ad6.cs (agy WB WE ag0 ag1 ag6 ag7 Wv Ww K4 K6 agM agN Ws Wt ahq ahr aho ahp WO WQ ag4 ag5 ag8 ag9 t b ht hb)).2
noncomputable def rC:Ct ak CU:=cn (Jb (std 0) aX.pre aX.fn iF.pre iF.fn)
theorem UK:Fn E 216 (Jb (std 0) aX.pre aX.fn iF.pre iF.fn) rC:=mk Tryz.func216 rfl (by kernel_rfl) (hlC wS.ok (hlC M6.ok hlN)) (alq (std 0) aX iF)
def ad7:=fun x y n hx hy=>(UK.cs (aan ni nu M7 M8 x y n hx hy)).1
def ad8:=fun x y n hx hy=>(UK.cs (aan ni nu M7 M8 x y n hx hy)).2
noncomputable def rE:Ct ak CV:=cn (Jc (std 0) aC.pre aC.fn iW.pre iW.fn rC.pre rC.fn rD.pre rD.fn iX.pre iX.fn)
theorem UL:Fn E 193 (Jc (std 0) aC.pre aC.fn iW.pre iW.fn rC.pre rC.fn rD.pre rD.fn iX.pre iX.fn) rE:=mk Tryz.func193 rfl (by kernel_rfl) (hlC lQ.ok (hlC Ni.ok (hlC UK.ok (hlC TR.ok (hlC Nq.ok hlN))))) (alr (std 0) aC iW rC rD iX)
def ad9:=fun t op x y ht hx hy=>(UL.cs (aaB fT fU Nj Nk ad7 ad8 ab8 ab9 Nr Ns t op x y ht hx hy)).1
def aea:=fun t op x y ht hx hy=>(UL.cs (aaB fT fU Nj Nk ad7 ad8 ab8 ab9 Nr Ns t op x y ht hx hy)).2
noncomputable def rH:Ct ak CW:=cn (Jd (std 0) iW.pre iW.fn iK.pre iK.fn iX.pre iX.fn)
theorem UM:Fn E 194 (Jd (std 0) iW.pre iW.fn iK.pre iK.fn iX.pre iX.fn) rH:=mk Tryz.func194 rfl (by kernel_rfl) (hlC Ni.ok (hlC Nt.ok (hlC Nq.ok hlN))) (als (std 0) iW iK iX)
def aeb:=fun t a ht ha=>(UM.cs (aaC Nj Nk Nu Nv Nr Ns t a ht ha)).1
def aec:=fun t a ht ha=>(UM.cs (aaC Nj Nk Nu Nv Nr Ns t a ht ha)).2
noncomputable def rJ:Ct ak CX:=cn (Je (std 0) aD.pre aD.fn rE.pre rE.fn rF.pre rF.fn rG.pre rG.fn rH.pre rH.fn)
theorem UN:Fn E 160 (Je (std 0) aD.pre aD.fn rE.pre rE.fn rF.pre rF.fn rG.pre rG.fn rH.pre rH.fn) rJ:=mk Tryz.func160 rfl (by kernel_rfl) (hlC mq.ok (hlC UL.ok (hlC TF.ok (hlC TH.ok (hlC UM.ok hlN))))) (alu (std 0) aD rE rF rG rH)
def aed:=fun b p hb h1 h2=>(UN.cs (aaT fP fQ ad9 aea abM abN abQ abR aeb aec b p hb h1 h2)).1
def aee:=fun b p hb h1 h2=>(UN.cs (aaT fP fQ ad9 aea abM abN abQ abR aeb aec b p hb h1 h2)).2
noncomputable def rP:Ct ak CY:=cn (Jf (std 0) aD.pre aD.fn iV.pre iV.fn bU.pre bU.fn rJ.pre rJ.fn)
theorem UO:Fn E 97 (Jf (std 0) aD.pre aD.fn iV.pre iV.fn bU.pre bU.fn rJ.pre rJ.fn) rP:=mk Tryz.func97 rfl (by kernel_rfl) (hlC mq.ok (hlC MH.ok (hlC Dq.ok (hlC UN.ok hlN)))) (alv (std 0) aD iV bU rJ)
def aef:=fun n b p hb h1 h2=>(UO.cs (aaU fP fQ MI MJ wV wW aed aee n b p hb h1 h2)).1
def aeg:=fun n b p hb h1 h2=>(UO.cs (aaU fP fQ MI MJ wV wW aed aee n b p hb h1 h2)).2
noncomputable def rQ:Ct ak CZ:=cn (Jg (std 0) rM.pre rM.fn rO.pre rO.fn rP.pre rP.fn)
theorem UQ:Fn E 36 (Jg (std 0) rM.pre rM.fn rO.pre rO.fn rP.pre rP.fn) rQ:=mk Tryz.func36 rfl (by kernel_rfl) (hlC Tz.ok (hlC Uw.ok (hlC UO.ok hlN))) (alx (std 0) rM rO rP)
def aeh:=fun c hc hl=>(UQ.cs (abA abE abF adl adn aef aeg c hc hl)).1
def aei:=fun c hc hl=>(UQ.cs (abA abE abF adl adn aef aeg c hc hl)).2
noncomputable def ahu:Ct ak YP:=cn (QJ (std 0) yQ.pre yQ.fn lJ.pre lJ.fn yR.pre yR.fn rQ.pre rQ.fn)
theorem aej:Fn E 7 (QJ (std 0) yQ.pre yQ.fn lJ.pre lJ.fn yR.pre yR.fn rQ.pre rQ.fn) ahu:=mk Tryz.func7 rfl (by kernel_rfl) (hlC ad6.ok (hlC Wq.ok (hlC adh.ok (hlC UQ.ok hlN)))) (ape (std 0) yQ lJ yR rQ)
def apx:=fun c hc=>(aej.cs (agz ahs aht Ws Wt agO agP aeh aei c hc)).1
def apy:=fun c hc=>(aej.cs (agz ahs aht Ws Wt agO agP aeh aei c hc)).2
end Go.TX.F
namespace Go.Proofs.YtnhlcljjjbjfeaaGreat
open Go.ChangeShapes Go.WideShapes Go.ChangeAt Go.RowKit
theorem aqX:ownKnob Tryz.prog.godebug=Option.none:=by kernel_rfl
theorem apz:laidOutB Tryz.prog=true:=by kernel_rfl
theorem ame:Tryz.prog.cellsOf 5=1:=by kernel_rfl
set_option maxRecDepth 100000 in
theorem lifted (os:Os) (started:os.Started) (H:Type) (enc:TypeId×Value→H):
    ReturnsInHanded {} Tryz.checked os 7 .any (Rows.fnSymEventsSpec.pre6 enc Tryz.prog Tryz.f7 Rows.fnSymEventsRow.domain false) (Rows.fnSymEventsSpec.post enc Tryz.prog Tryz.f7 false true false false):=by
  refine returnsInHanded_of_change (C:=Tryz.checked) aqX started (by kernel_rfl) Tryz.func7
    (ChangeSpec.witness6 (enc:=enc) (C:=Tryz.checked) false ⟨#[], #[.slice none 0 0],[]⟩ 8 (by kernel_rfl) (by kernel_rfl) (by kernel_rfl) (by kernel_rfl)) ?_
  intro W base args ds gs before hval0 hW _ _
  have hval:∀(j:Nat) t v,Tryz.f7.params[j]? =some t→args[j]? =some v→Value.okWide Tryz.prog W .any base t v:=hval0
  have hW':=hW
  obtain⟨p,q,hA0,hV,rfl,_,_⟩:=hW
  have hA:DataW.TrodAll enc Tryz.prog W 0 (fun _=>true) true Tryz.f7.params.toList args.toList ds p:=hA0
  rw [Tryz.params7]at hA hval
  obtain⟨v0,d0,rfl,rfl,h0⟩:=trodAll_one hA
  obtain⟨rfl,rfl⟩:=trodVars_none hV
  clear hA0 hval0
  simp only [List.append_nil]at hW'
  have hlt:∀x∈p,x.block<W.heap.size:=fun x hx=>by simpa using hW'.lt x hx
  obtain⟨xs,hr,hb⟩:=Go.TX.abC Tryz.underlying22 Tryz.underlying5 ame (hval 0 22 v0 rfl rfl) h0 hlt
  have hp:=Go.TX.F.apx xs hb
  have hq:=Go.TX.F.apy xs hb
  refine(Go.TX.aqU Go.TX.F.aej.ok hr (fun g d h=>by cases h) hp).mono fun e W' ⟨he,hw⟩=> ?_
  have he:e= .returned (.bool true):=by rw [he,show Go.TX.F.ahu.fn (xs,())=(true,())from hq]
  refine⟨_,he,[d0],[],p,[],p,[],hW',trodAll_mk1 (shut_bool Tryz.underlying4 true),?_,rfl,hw.frame _,fun h=>by cases h⟩
  exact trodAll_mk1 (Below.trod apz (by kernel_rfl) (of_decide_eq_true (by kernel_rfl)) h0 hw hlt)
theorem y1:Tryz.pinned.checked.prog.funcNamed Rows.fnSymEventsRow.func=some 7:=by kernel_rfl
theorem aS {a b:Bool} (h:a=true) (k:b=true):(a&&b)=true:=by rw [h,k];rfl
set_option maxHeartbeats 4000000 in
theorem y2:joinedFacts Tryz.pinned.checked.prog 7 Tryz.f7 Rows.fnSymEventsSpec Rows.fnSymEventsRow=true:=by
  unfold joinedFacts
  repeat' with_reducible apply aS
  all_goals (as_aux_lemma=>kernel_rfl)
theorem y3:Func.isWrapper Tryz.prog Tryz.f7 Rows.fnSymEventsRow.wrapper Rows.fnSymEventsRow.mainSum:=(by unfold Func.isWrapper;first | (rw [if_pos (by decide+kernel)];kernel_rfl) | (rw [if_neg (by decide+kernel)];exact⟨rfl,rfl⟩))
theorem x_holds:Rows.FnSymEventsSaid:=
  OpenClaim.holds_of_wide 7 Tryz.f7 rfl rfl rfl rfl rfl rfl rfl ⟨rfl,rfl,rfl,rfl,rfl⟩ rfl rfl rfl rfl rfl y1 Tryz.func7 y2
    (of_decide_eq_true (by kernel_rfl)) y3
    (fun os started H enc _=>lifted os started H enc)
end Go.Proofs.YtnhlcljjjbjfeaaGreat
