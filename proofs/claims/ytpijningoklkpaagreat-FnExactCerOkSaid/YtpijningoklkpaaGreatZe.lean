/- For every input the law returns true, and the input reads as it did. No condition. -/
import Derived.Test.YtpijningoklkpaaGreatZd
import Derived.ChangeSlices
import Derived.ChangeSame
import Derived.JoinedOf
import Derived.JoinedAt
import Derived.Handed
import Derived.Below
import Derived.Carry
import Derived.OpenShut
import Derived.ChangeKeysEq
import Derived.Deep.Slices
import Derived.Test.YtpijningoklkpaaGreatY
import Derived.Test.YtpijningoklkpaaGreatRows
set_option linter.all false
set_option linter.unusedSectionVars false
set_option linter.unusedVariables false
set_option linter.unusedSimpArgs false
namespace Go.TX.F
open Go Go.AE Go.TX
theorem G7 {m:aj} (n:Int) (h:aok m.atoms):mulM m ⟨n,[]⟩=⟨m.bD*n%65536,m.atoms⟩:=by
 unfold mulM
 rw [←yD (a:=m.atoms++ []) (o:=m.atoms) h.1 (by simp)]
theorem AP (a:List aj) (n:aj):prods a [n]=a.map (fun m=>mulM m n):=by
 induction a with
 | nil=>rfl
 | cons x a ih=>simp only [prods,List.flatMap_cons,List.map_cons,List.map_nil]at ih ⊢;rw [ih];rfl
theorem OZ {t:List Int}:∀ {l:List aj},(∀m∈l,m.bD=0)→cf l t=0
 | [],_=>rfl
 | m::l,h=>by rw [bX,OZ (fun m hm=>h m (by simp [hm])),h m (by simp)];split<;>rfl
theorem dZ:aL []:=ig.2 ⟨⟨List.Pairwise.nil,fun m hm=>absurd hm (by simp)⟩,by simp,fun m hm=>absurd hm (by simp)⟩
theorem om (n:Int):aL (dA n):=by
 unfold dA;split
 ·refine ig.2 ⟨⟨List.pairwise_singleton _ _,fun m hm=> ?_⟩,by simp,fun m hm=> ?_⟩
  ·rw [List.mem_singleton]at hm;subst hm;assumption
  ·rw [List.mem_singleton]at hm;subst hm;exact⟨by simp,List.Pairwise.nil,fun k hk=>absurd hk (by simp)⟩
 ·exact dZ
theorem nG (n:Int):aL (fF n):=by
 unfold fF;split
 ·refine ig.2 ⟨⟨List.pairwise_singleton _ _,fun m hm=> ?_⟩,by simp,fun m hm=> ?_⟩
  ·rw [List.mem_singleton]at hm;subst hm;dsimp only;omega
  ·rw [List.mem_singleton]at hm;subst hm;exact⟨by simp,List.pairwise_singleton _ _,fun k hk=>by rw [List.mem_singleton]at hk;omega⟩
 ·exact dZ
theorem aiA {p1:List aj×Unit→Bool} {f1:List aj×Unit→Bool×Unit} (hp1:∀a,Sh a→p1 (a,())=true) (hf1:∀a,Sh a→f1 (a,())=(bp (aL a),()))
  {p0:Int×Unit→Bool} {f0:Int×Unit→Int×Unit} (hp0:∀a,p0 (a,())=true) (hf0:∀a,f0 (a,())=(a%65536,()))
  {p4:List aj×Unit→Bool} {f4:List aj×Unit→List aj×Unit} (hp4:∀a,Sh a→p4 (a,())=true) (hf4:∀a,Sh a→f4 (a,())=(a,()))
  {p3:Int×Unit→Bool} {f3:Int×Unit→Bool×Unit} (hp3:∀a,p3 (a,())=true) (hf3:∀a,f3 (a,())=(inB a 0 65535,()))
  (a:List aj) (n:Int) (ha:Sh a):Rh (std 0) p1 f1 p0 f0 p4 f4 p3 f3 (a,n,()) (fun y=>y=(iV a n,())):=by
 dsimp only [Rh,Alg.cl,Alg.cg,Alg.rb,Alg.bd,Alg.l1,Tup.q,Tup.o]
 simp (disch:=omega) only [RR,hp1 a ha,hf1 a ha,hp3,hf3,aY,iM,dF,nA]
 unfold iV
 refine⟨fun h=> ?_,fun⟨h1,h2⟩=> ?_⟩
 ·rw [if_neg];rw [Bool.and_eq_true,aY,dF];rintro⟨g1,g2⟩
  rcases h with h | h
  ·exact h g1
  ·exact h g2
 rw [if_pos (by rw [dh h1,Bool.true_and,dF];exact h2)]
 have l1:=h1.len
 have hss:=h1.nf.ss
 refine ak (fun(y:Int×Int×List aj×List aj×Unit)=>y.1=n∧y.2.2.1=a∧0≤y.2.1∧y.2.1≤a.length∧Nf y.2.2.2.1∧(y.2.2.2.1.length:Int)≤y.2.1∧(∀t,cf y.2.2.2.1 t=cf ((a.take y.2.1.toNat).map (fun m=>⟨m.bD*n%65536,m.atoms⟩)) t%65536)
   ∧(∀x∈y.2.2.2.1,x.atoms.length≤4∧(y.2.1<a.length→lt x ((a).getD (y.2.1).toNat default)))) (fun y=>(a.length-y.2.1).toNat)
  ⟨rfl,rfl,by simp,by simp,⟨List.Pairwise.nil,fun m hm=>absurd hm (by simp)⟩,by simp,fun t=>by simp [cf],fun x hx=>absurd hx (by simp)⟩ ?_
 rintro⟨(n':Int),(i:Int),(a':List aj),(o:List aj),⟨⟩⟩ hI
 dsimp only at hI ⊢
 obtain⟨rfl,rfl,h3,h4,h5,h6,h7,h8⟩:=hI
 have so:Sh o:=⟨by omega,fun m hm=>by have:=(h8 m hm).1;omega⟩
 by_cases h9:i<a'.length
 ·have ma:((a').getD (i).toNat default)∈a':=dD h3 h9
  have ca:=h1.nf.co _ ma
  have qa:=h1.aok ma
  have hm:=J8 (show 0≤((a').getD (i).toNat default).bD by omega) (by omega) h2.1 h2.2
  have nx:i+1<a'.length→lt ((a').getD (i).toNat default) ((a').getD (i+1).toNat default):=fun h=>by
   have:=(dx (d:=default) (R:=lt) fG).1 hss (i+1) (by omega) h
   rw [show i+1-1=i by omega]at this;exact this
  have tk:(a'.take (i+1).toNat).map (fun m:aj=>(⟨m.bD*n'%65536,m.atoms⟩:aj))=(a'.take i.toNat).map (fun m:aj=>(⟨m.bD*n'%65536,m.atoms⟩:aj))++ [⟨((a').getD (i).toNat default).bD*n'%65536,((a').getD (i).toNat default).atoms⟩]:=by
   rw [←bW (d:=default) h3 h9 rfl,List.map_append];rfl
  simp (disch:=omega) only [RR,hp0,hf0]
  refine⟨fun _=>⟨by omega,by omega,fun g=>⟨by omega,by omega,by simp only [List.length_cons,List.length_nil];omega,⟨by omega,by omega,?_,?_,fun t=> ?_,fun x hx=> ?_⟩,by omega⟩,fun g=>⟨⟨by omega,by omega,h5,by omega,fun t=> ?_,fun x hx=>⟨(h8 x hx).1,fun g2=>fG ((h8 x hx).2 h9) (nx g2)⟩⟩,by omega⟩⟩,fun h=>absurd h9 h⟩
  ·refine⟨?_,fun x hx=> ?_⟩
   ·rw [List.pairwise_append]
    exact⟨h5.ss,List.pairwise_singleton _ _,fun x hx z hz=>by rw [List.mem_singleton]at hz;subst hz;exact(h8 x hx).2 h9⟩
   ·rw [List.mem_append,List.mem_singleton]at hx
    rcases hx with hx | rfl
    ·exact h5.co x hx
    ·dsimp only;omega
  ·rw [List.length_append];simp only [List.length_cons,List.length_nil];omega
  ·rw [tk,cZ,cZ,h7 t,bX,j5]
   dsimp only
   by_cases et:((a').getD (i).toNat default).atoms=t
   ·rw [if_pos et]
    have z:cf o t=0:=iN fun x hx e=>((h8 x hx).2 h9).ne (e.trans et.symm)
    rw [h7 t]at z;omega
   ·rw [if_neg et];omega
  ·rw [List.mem_append,List.mem_singleton]at hx
   rcases hx with hx | rfl
   ·exact⟨(h8 x hx).1,fun g2=>fG ((h8 x hx).2 h9) (nx g2)⟩
   ·exact⟨qa.1,fun g2=>nx g2⟩
  ·rw [tk,cZ,h7 t,bX,j5]
   dsimp only
   have:((a').getD (i).toNat default).bD*n'%65536=0:=by omega
   rw [this];split<;>omega
 ·simp (disch:=omega) only [RR,hp4 o so,hf4 o so]
  refine⟨fun h=>absurd h h9,fun _=> ?_⟩
  have eq:∀t,cf o t=cf (prods a' (dA n')) t%65536:=fun t=>by
   rw [h7 t,List.take_of_length_le (by omega)]
   unfold dA
   by_cases hn:1≤n'∧n'≤65535
   ·rw [if_pos hn,AP]
    congr 2
    exact List.map_congr_left fun m hm=>(G7 n' (h1.aok hm).2).symm
   ·rw [if_neg hn]
    have hz:n'=0:=by omega
    have hz2:cf (a'.map (fun m=>(⟨m.bD*n'%65536,m.atoms⟩:aj))) t=0:=OZ fun m hm=>by
     rw [List.mem_map]at hm
     obtain⟨x,_,rfl⟩:=hm
     dsimp only;rw [hz];simp
    rw [hz2,show prods a' []=[] by simp [prods]];rfl
  have fb:G5 o:=⟨by omega,fun m hm=>(h8 m hm).1⟩
  have:=Ka h5 eq (fun m hm=>by
   unfold dA at hm
   split at hm
   ·rw [AP,List.mem_map]at hm
    obtain⟨x,hx,rfl⟩:=hm
    rw [G7 n' (h1.aok hx).2];exact(h1.aok hx).2
   ·rw [show prods a' []=[] by simp [prods]]at hm;exact absurd hm (by simp))
  unfold lK
  rw [if_pos (by rw [dh h1,dh (om n')];rfl),←congrArg Prod.snd this]
  dsimp only;rw [dh fb];rfl
theorem aap (l:List aj):(Nf (nf l)∧∀k,cf (nf l) k=cf l k%65536)∨nf l=[]:=by
 by_cases he:∃o,Nf o∧∀k,cf o k=cf l k%65536
 ·obtain⟨o,h1,h2⟩:=he
  rw [UM h1 h2];exact Or.inl ⟨h1,h2⟩
 ·right;unfold nf;rw [dif_neg he]
theorem aaq {l:List aj} {n:Int} (h:aW l n):aW (nf l) n:=by
 rcases aap l with⟨h1,h2⟩ | h1
 ·refine bY.2 fun m hm k hk=> ?_
  obtain⟨m',g1,g2⟩:=h1.from h2 hm
  exact bY.1 h m' g1 k (g2▸hk)
 ·rw [h1];exact bY.2 fun m hm=>absurd hm (by simp)
theorem je (n:Int):aW [] n:=bY.2 fun m hm=>absurd hm (by simp)
theorem UN (l:List aj):aL (pJ l).2:=by
 unfold pJ
 by_cases h:aL (nf l)
 ·rw [dh h];exact h
 ·rw [bN h];exact dZ
theorem G8 {l:List aj} {n:Int} (h:aW l n):aW (pJ l).2 n:=by
 unfold pJ
 dsimp only
 split
 ·exact aaq h
 ·exact je n
theorem Wn {a b:List aj} {n:Int} (h1:aW a n) (h2:aW b n):aW (a++b) n:=bY.2 fun m hm k hk=>by
 rw [List.mem_append]at hm
 rcases hm with hm | hm
 ·exact bY.1 h1 m hm k hk
 ·exact bY.1 h2 m hm k hk
theorem O1 {a b:List aj} {n:Int} (h1:aW a n) (h2:aW b n):aW (prods a b) n:=bY.2 fun m hm k hk=>by
 unfold prods at hm
 rw [List.mem_flatMap]at hm
 obtain⟨x,hx,hm⟩:=hm
 rw [List.mem_map]at hm
 obtain⟨y,hy,rfl⟩:=hm
 have:k∈x.atoms++y.atoms:=List.mem_mergeSort.1 hk
 rw [List.mem_append]at this
 rcases this with hk | hk
 ·exact bY.1 h1 x hx k hk
 ·exact bY.1 h2 y hy k hk
theorem UO (a b:List aj):aL (nC a b).2:=by unfold nC;split;exact UN _;exact dZ
theorem acQ (a b:List aj):aL (lK a b).2:=by unfold lK;split;exact UN _;exact dZ
theorem G9 {a b:List aj} {n:Int} (h1:aW a n) (h2:aW b n):aW (nC a b).2 n:=by unfold nC;split;exact G8 (Wn h1 h2);exact je n
theorem Hg {a b:List aj} {n:Int} (h1:aW a n) (h2:aW b n):aW (lK a b).2 n:=by unfold lK;split;exact G8 (O1 h1 h2);exact je n
theorem uO (c n:Int):aW (dA c) n:=bY.2 fun m hm k hk=>by
 unfold dA at hm;split at hm
 ·rw [List.mem_singleton]at hm;subst hm;exact absurd hk (by simp)
 ·exact absurd hm (by simp)
theorem rH {k n:Int} (h:k<n):aW (fF k) n:=bY.2 fun m hm j hj=>by
 unfold fF at hm;split at hm
 ·rw [List.mem_singleton]at hm;subst hm;rw [List.mem_singleton]at hj;omega
 ·exact absurd hm (by simp)
theorem aF.sh {t:List Atom} (h:aF t):ShT t:=⟨by have:=h.2;omega,fun a ha=>by
 obtain⟨i,hi,rfl⟩:=List.getElem_of_mem ha
 have:=(h.1 i (by omega) (by omega)).1
 rw [show(i:Int).toNat=i from rfl,getD_lt hi]at this
 unfold iq at this
 split at this
 ·exact⟨this.2.1.sh,this.2.2.1.sh⟩
 ·rw [ShA,this.1.1,this.1.2];exact⟨nD,nD⟩⟩
theorem Cz {t:List Atom} {a:Atom} (h:aF t) (h2:t.length<200):aF (aX t a).1∧t.length≤(aX t a).1.length∧(aX t a).1.length≤t.length+1∧(iq a t.length→0≤(aX t a).2):=by
 have hsp:=jE t a
 unfold aX
 split
 ·rename_i h3;exact⟨h,Nat.le_refl _,Nat.le_succ _,fun _=>h3⟩
 ·rename_i h3
  split
  ·rename_i h4;exact⟨h,Nat.le_refl _,Nat.le_succ _,fun h5=>by rcases h4 with h4 | h4;exact absurd h5 h4;omega⟩
  ·rename_i h4
   have h5:iq a t.length:=Classical.byContradiction fun h5=>h4 (Or.inl h5)
   refine⟨mq.2 ⟨?_,by rw [List.length_append];simp only [List.length_cons,List.length_nil];omega⟩,by rw [List.length_append];exact Nat.le_add_right _ _,by rw [List.length_append];exact Nat.le_refl _,fun _=>by dsimp only;omega⟩
   have hl:((t++ [a]).length:Int)=t.length+1:=by rw [List.length_append];rfl
   have g1:∀i:Int,0≤i→i<t.length→(t++ [a]).getD i.toNat default=t.getD i.toNat default:=fun i i1 i2=>by
    rw [getD_lt (show i.toNat< (t++ [a]).length by omega),getD_lt (show i.toNat<t.length by omega),List.getElem_append_left]
   have g2:(t++ [a]).getD ((t.length:Int)).toNat default=a:=by
    rw [getD_lt (show((t.length:Int)).toNat< (t++ [a]).length by omega)];simp
   rw [hl]
   intro i i1 i2
   dsimp only
   by_cases i3:i<t.length
   ·rw [g1 i i1 i3]
    have:=(mq.1 h).1 i i1 i3
    exact⟨this.1,fun j j1 j2=>by dsimp only;rw [g1 j j1 (by omega)];exact this.2 j j1 j2⟩
   ·have:i=t.length:=by omega
    subst this
    rw [g2]
    refine⟨h5,fun j j1 j2=> ?_⟩
    dsimp only;rw [g1 j j1 j2]
    rcases hsp with⟨_,g⟩ | ⟨g,_⟩
    ·exact g j j1 j2
    ·exact absurd g h3
end Go.TX.F
namespace Go.TX.F
open Go Go.AE Go.TX
def By (b:List Int):Prop:=∀z∈b,0≤z∧z≤255
structure Bt (b:List Int):Prop where
 len:b.length≤2000
 rng:By b
theorem By.at {b:List Int} (h:By b) (n:Nat):0≤b.getD n default∧b.getD n default≤255:=by
 by_cases h1:n<b.length
 ·rw [getD_lt h1];exact h _ (List.getElem_mem _)
 ·simp only [List.getD,List.getElem?_eq_none (by omega:b.length≤n)];decide
end Go.TX.F
namespace Go.TX.F
open Go Go.AE Go.TX
structure aua (n:Int) (b:List Int) (p:Int) (y:List Int×Int×List aj×Unit):Prop where
 b:y.1=b
 lo:p≤y.2.1
 hi:y.2.1≤p+200
 ok:aL y.2.2.1
 un:aW y.2.2.1 n
end Go.TX.F
namespace Go.TX.F
open Go Go.AE Go.TX
def O4 (n:Int) (t:List Atom):Prop:=(t.length:Int)=n∧All n (fun i=>((t).getD (i).toNat default)=⟨1,i,[],[]⟩)
theorem aiB {p2:Int×Unit→Bool} {f2:Int×Unit→List aj×Unit} (hp2:∀n,p2 (n,())=true) (hf2:∀n,f2 (n,())=(fF n,())):QD (std 0) p2 f2 () (fun y=>O4 4 y.1∧y.2.1.length=4∧∀p∈y.2.1,Sh p):=by
 dsimp only [QD,Alg.cl,Alg.cg,Alg.rb,Alg.bd,Alg.l1,Tup.q,Tup.o]
 simp (disch:=omega) only [RR,hp2,hf2]
 refine ak (fun(y:Int×List (List aj)×List Atom×Unit)=>0≤y.1∧y.1≤4∧(y.2.1.length:Int)=y.1∧(∀p∈y.2.1,Sh p)∧O4 y.1 y.2.2.1) (fun y=>(4-y.1).toNat) ⟨by simp,by simp,by simp,by simp,by simp,All.zero⟩ ?_
 rintro⟨(i:Int),(q:List (List aj)),(t:List Atom),⟨⟩⟩ hI
 dsimp only at hI ⊢
 obtain⟨h1,h2,h3,h0,h4,h5⟩:=hI
 simp (disch:=omega) only [RR,hp2,hf2,List.length_cons,List.length_nil]
 refine⟨fun h6=>⟨by omega,by omega,⟨by omega,by omega,by rw [List.length_append];simp only [List.length_cons,List.length_nil];omega,fun p hp=>(List.mem_append.1 hp).elim (h0 p) (fun g=>by rw [List.mem_singleton.1 g];exact(nG _).sh),by rw [List.length_append];simp only [List.length_cons,List.length_nil];omega,fun j j1 j2=> ?_⟩,by omega⟩,fun h6=> ?_⟩
 ·dsimp only
  have hl:((t++ [(⟨1,i,[],[]⟩:Atom)]).length:Int)=t.length+1:=by rw [List.length_append];rfl
  by_cases c:j<i
  ·have:=h5 j j1 c
   dsimp only at this
   rw [getD_lt (show j.toNat<t.length by omega)]at this
   rw [getD_lt (show j.toNat< (t++ [(⟨1,i,[],[]⟩:Atom)]).length by omega),List.getElem_append_left (show j.toNat<t.length by omega)];exact this
  ·have:j=i:=by omega
   subst this
   rw [getD_lt (show j.toNat< (t++ [(⟨1,j,[],[]⟩:Atom)]).length by omega),List.getElem_append_right (by omega)]
   simp
 ·rw [show i=4 by omega]at h4 h5;exact⟨⟨h4,h5⟩,by omega,h0⟩
structure auf (b:List Int) (p n:Int) (y:List Int×Int×List Atom×Unit):Prop where
 b:y.1=b
 lo:p≤y.2.1
 hi:y.2.1≤p+10000
 sh:ShT y.2.2.1
 ne:0<y.2.2.1.length
 le:(y.2.2.1.length:Int)≤n
end Go.TX.F
namespace Go.TX.F
open Go Go.AE Go.TX
theorem UQ {l o:List aj} (h:aL o) (h2:∀k,cf o k=cf l k%65536):pJ l=(true,o):=by
 unfold pJ;rw [UM h.nf h2,dh h,if_pos rfl]
theorem Sl {x:List aj} (h:aL x):aL (iV x 65535)∧∀k,cf (iV x 65535) k=(65535*cf x k)%65536:=by
 have hc:∀(l:List aj) k,cf (l.map fun m=>(⟨m.bD*65535%65536,m.atoms⟩:aj)) k%65536=(65535*cf l k)%65536:=fun l k=>by
  induction l with
  | nil=>rfl
  | cons m l ih=>rw [List.map_cons,bX,bX];dsimp only;split<;>omega
 have no:Nf (x.map fun m=>(⟨m.bD*65535%65536,m.atoms⟩:aj)):=⟨by
  rw [List.pairwise_map];exact h.nf.ss,fun m hm=>by
  rw [List.mem_map]at hm
  obtain⟨n,hn,rfl⟩:=hm
  have:=h.nf.co n hn
  dsimp only;omega⟩
 have ok:aL (x.map fun m=>(⟨m.bD*65535%65536,m.atoms⟩:aj)):=ig.2 ⟨no,by rw [List.length_map];exact h.len,fun m hm=>by
  rw [List.mem_map]at hm
  obtain⟨n,hn,rfl⟩:=hm
  exact show n.atoms.length≤4∧aok n.atoms from h.aok hn⟩
 have pe:prods x (dA 65535)=x.map fun m=>(⟨m.bD*65535%65536,m.atoms⟩:aj):=by
  unfold dA;rw [if_pos (by omega),AP]
  exact List.map_congr_left fun m hm=>G7 65535 (h.aok hm).2
 have e:iV x 65535=x.map fun m=>(⟨m.bD*65535%65536,m.atoms⟩:aj):=by
  unfold iV lK
  rw [if_pos (by rw [dh h];rfl),if_pos (by rw [dh h,dh (om _)];rfl),pe,UQ ok (fun k=>by have:=no.bnd k;omega)]
 rw [e]
 exact⟨ok,fun k=>by rw [←hc];have:=no.bnd k;omega⟩
theorem sub_self {x:List aj} (h:aL x):iW 2 x x=([],true):=by
 obtain⟨h1,h2⟩:=Sl h
 unfold iW nC
 rw [if_neg (by omega),if_pos rfl,if_pos (by rw [dh h,dh h1];rfl),UQ dZ (fun k=>by rw [cZ,h2,j5];omega)]
theorem rJ {x:List aj} (h:(bM x).2=true):aL x∧x=dA (bM x).1∧0≤(bM x).1∧(bM x).1≤65535:=by
 unfold bM at h ⊢
 by_cases c:aL x
 ·rw [dh c,if_pos rfl]at h ⊢
  refine⟨c,?_⟩
  by_cases c1:x.length=0
  ·rw [if_pos c1];exact⟨by rw [List.eq_nil_of_length_eq_zero c1];rfl,by omega,by omega⟩
  ·rw [if_neg c1]at h ⊢
   by_cases c2:x.length=1∧(x.getD 0 default).atoms.length=0
   ·rw [if_pos c2]
    match x,c,c2 with
    | [m],c,c2=>
     have hc:=c.nf.co m (by simp)
     have ha:m.atoms=[]:=List.eq_nil_of_length_eq_zero c2.2
     refine⟨?_,by show 0≤m.bD;omega,by show m.bD≤65535;omega⟩
     show [m]=dA m.bD
     unfold dA;rw [if_pos hc,←ha]
   ·rw [if_neg c2]at h;exact absurd h (by simp)
 ·rw [bN c]at h;exact absurd h (by simp)
end Go.TX.F
namespace Go.TX.F
open Go Go.AE Go.TX
end Go.TX.F
namespace Go.TX.F
open Go Go.AE Go.TX
theorem UR {d:List Int} {i j x:Int} (h1:0≤i) (h2:i<d.length) (h3:0≤j):((d.set i.toNat x).getD (j).toNat default)=if j=i then x else((d).getD (j).toNat default):=by
 simp only [List.getD]
 by_cases h:j=i
 ·subst h;rw [if_pos rfl,List.getElem?_set_self (by omega)];rfl
 ·rw [if_neg h,List.getElem?_set_ne (by omega)]
theorem Wo {d:List Int} {i j:Int} (h1:0≤i) (h2:i<d.length) (h3:0≤j) (h4:j<d.length) (h5:i≠j):((d.set i.toNat ((d).getD (j).toNat default)).set j.toNat ((d).getD (i).toNat default)).Perm d:=by
 rw [List.perm_iff_count]
 intro x
 rw [getD_lt (show i.toNat<d.length by omega),getD_lt (show j.toNat<d.length by omega),List.count_set (by simp;omega),List.count_set (by omega),List.getElem_set_ne (by omega)]
 have h6:(if d[i.toNat]==x then 1 else 0)≤List.count x d:=by
  split
  ·rename_i h;exact List.count_pos_iff.2 (by rw [←eq_of_beq h];exact List.getElem_mem _)
  ·omega
 split<;>split<;>simp_all<;>omega
theorem aiC {p:Int×Int×Unit→Bool} {f:Int×Int×Unit→Bool×Unit} (hp:∀a b,p (a,b,())=true) (hf:∀a b,f (a,b,())=(decide (a<b),()))
  (a b:Int) (d:List Int) (hd:d.length<1000000000) (h1:a=0) (h2:b=d.length):
  Sb (std 0) p f (a,b,d,()) (fun y=>y.1=kW d):=by
 subst h1
 dsimp only [Sb,Alg.cl,Alg.cg,Alg.rb,Alg.bd,Alg.l1,Tup.q,Tup.o]
 simp (disch:=omega) only [RR]
 have fin:∀e:List Int,e.Perm d→(∀q:Int,1≤q→q<e.length→((e).getD (q-1).toNat default)≤((e).getD (q).toNat default))→e=kW d:=fun e g1 g2=>
  yD ((dx (d:=default) (R:=fun a b:Int=>a≤b) (fun h1 h2=>Int.le_trans h1 h2)).2 g2) g1
 refine ak (fun(y:Int×Int×Int×List Int×Unit)=>y.1=0∧y.2.1=b∧1≤y.2.2.1∧(y.2.2.1≤b∨y.2.2.1=1)∧y.2.2.2.1.Perm d∧∀q,1≤q→q<y.2.2.1→((y.2.2.2.1).getD (q-1).toNat default)≤((y.2.2.2.1).getD (q).toNat default)) (fun y=>(b-y.2.2.1).toNat)
  ⟨rfl,rfl,by simp,Or.inr rfl,List.Perm.refl d,fun q g1 g2=>by dsimp only at g2;omega⟩ ?_
 rintro⟨(a':Int),(b':Int),(i:Int),(e:List Int),⟨⟩⟩ hI
 dsimp only at hI ⊢
 obtain⟨rfl,rfl,h4,h5,h6,h7⟩:=hI
 have hle:=h6.length_eq
 simp (disch:=omega) only [RR]
 refine⟨fun h9=> ?_,fun h9=>fin e h6 fun q g1 g2=>h7 q g1 (by omega)⟩
 refine ak (fun(y:Int×Int×Int×Int×List Int×Unit)=>y.1=0∧y.2.1=b'∧y.2.2.1=i∧0≤y.2.2.2.1∧y.2.2.2.1≤i∧y.2.2.2.2.1.Perm d
   ∧(∀q,1≤q→q≤i→q≠y.2.2.2.1→((y.2.2.2.2.1).getD (q-1).toNat default)≤((y.2.2.2.2.1).getD (q).toNat default))∧(1≤y.2.2.2.1→y.2.2.2.1+1≤i→((y.2.2.2.2.1).getD (y.2.2.2.1-1).toNat default)≤((y.2.2.2.2.1).getD (y.2.2.2.1+1).toNat default))) (fun y=>y.2.2.2.1.toNat)
  ⟨rfl,rfl,rfl,by simp;omega,by simp,h6,fun q g1 g2 g3=>h7 q g1 (by dsimp only at g3;omega),fun g1 g2=>by dsimp only at g2;omega⟩ ?_
 rintro⟨(a'':Int),(b'':Int),(i':Int),(j:Int),(e':List Int),⟨⟩⟩ hI
 dsimp only at hI ⊢
 obtain⟨rfl,rfl,rfl,h10,h11,h12,h13,h14⟩:=hI
 have hle':=h12.length_eq
 simp (disch:=omega) only [RR,List.length_set,hp,hf]
 repeat' (refine And.intro ?_ ?_)
 all_goals try omega
 ·intro ⟨g1,g2⟩
  have at2:∀k,0≤k→(((e'.set j.toNat ((e').getD (j-1).toNat default)).set (j-1).toNat ((e').getD (j).toNat default)).getD (k).toNat default)=if k=j-1 then((e').getD (j).toNat default)else if k=j then((e').getD (j-1).toNat default)else((e').getD (k).toNat default):=fun k hk=>by
   rw [UR (by omega) (by simp;omega) hk,UR (by omega) (by omega) hk]
  repeat' (refine And.intro ?_ ?_)
  all_goals try omega
  ·exact(Wo (by omega) (by omega) (by omega) (by omega) (by omega)).trans h12
  ·intro q k1 k2 k3
   rw [at2 _ (by omega),at2 _ (by omega)]
   by_cases c1:q=j
   ·subst c1;rw [if_pos rfl,if_neg (by omega),if_pos rfl];omega
   ·rw [if_neg (by omega)]
    by_cases c2:q=j+1
    ·subst c2
     rw [if_pos (by omega),if_neg (by omega),if_neg (by omega)]
     exact h14 (by omega) (by omega)
    ·rw [if_neg (by omega),if_neg (by omega),if_neg (by omega)]
     exact h13 q k1 k2 c1
  ·intro k1 k2
   rw [at2 _ (by omega),at2 _ (by omega),if_neg (by omega),if_neg (by omega),if_neg (by omega),if_pos (by omega)]
   have:=h13 (j-1) (by omega) (by omega) (by omega)
   exact this
 ·intro g
  refine⟨⟨by omega,by omega,h12,fun q k1 k2=> ?_⟩,by omega⟩
  by_cases c:q=j
  ·subst c
   rw [Bool.and_eq_false_iff,decide_eq_false_iff_not,decide_eq_false_iff_not]at g
   omega
  ·exact h13 q k1 (by omega) c
theorem aiD {p:Int×Int×Unit→Bool} {f:Int×Int×Unit→Bool×Unit}
  {p1:Int×Int×List Int×Unit→Bool} {f1:Int×Int×List Int×Unit→List Int×Unit} (hp1:∀(a b:Int) (d:List Int),d.length<1000000000→a=0→b=d.length→p1 (a,b,d,())=true) (hf1:∀(a b:Int) (d:List Int),d.length<1000000000→a=0→b=d.length→(f1 (a,b,d,())).1=kW d)
  (p2 p3 f2 f3 p4 f4 p5 f5 p6 f6 p7 f7 p8 f8 p9 f9) (a b k:Int) (d:List Int) (hd:d.length≤12) (h1:a=0) (h2:b=d.length):
  Sc (std 0) p f p1 f1 p2 f2 p3 f3 p4 f4 p5 f5 p6 f6 p7 f7 p8 f8 p9 f9 (a,b,k,d,()) (fun y=>y.1=kW d):=by
 subst h1
 dsimp only [Sc,Alg.cl,Alg.cg,Alg.rb,Alg.bd,Alg.l1,Tup.q,Tup.o]
 simp (disch:=omega) only [RR]
 refine ak (fun(y:Int×Int×Int×Bool×Bool×List Int×Unit)=>y.1=0∧y.2.1=b∧y.2.2.2.2.2.1=d) (fun y=>0) ⟨rfl,rfl,rfl⟩ ?_
 rintro⟨(a':Int),(b':Int),(k':Int),(u:Bool),(v:Bool),(e:List Int),⟨⟩⟩ hI
 dsimp only at hI ⊢
 obtain⟨rfl,rfl,rfl⟩:=hI
 simp (disch:=omega) only [RR]
 exact⟨fun _=>⟨hp1 0 b' e (by omega) rfl h2,hf1 0 b' e (by omega) rfl h2⟩,fun h=>absurd h (by omega)⟩
theorem aiE {p1:Int×Int×Int×List Int×Unit→Bool} {f1:Int×Int×Int×List Int×Unit→List Int×Unit} (hp1:∀(a b k:Int) (d:List Int),d.length≤12→a=0→b=d.length→p1 (a,b,k,d,())=true) (hf1:∀(a b k:Int) (d:List Int),d.length≤12→a=0→b=d.length→(f1 (a,b,k,d,())).1=kW d)
  {p2:Int×Unit→Bool} {f2:Int×Unit→Int×Unit} (hp2:∀n,0≤n→n≤18446744073709551615→p2 (n,())=true) (a:List Int) (ha:a.length≤8):
  Sd (std 0) p1 f1 p2 f2 (a,()) (fun y=>y=(kW a,())):=by
 dsimp only [Sd,Alg.cl,Alg.cg,Alg.rb,Alg.bd,Alg.l1,Tup.q,Tup.o]
 have e:IntKind.u64.wrap (a.length:Int)=(a.length:Int):=IntWalk.u64_in _ (by omega)
 refine⟨?_,hp1 _ _ _ _ (by omega) rfl rfl,by rw [hf1 _ _ _ _ (by omega) rfl rfl]⟩
 rw [e];exact hp2 _ (by omega) (by omega)
end Go.TX.F
namespace Go.TX.F
open Go Go.AE Go.TX
def wOK (l:List Int):Prop:=∀z∈l,0≤z∧z≤65535
theorem wOK.at {l:List Int} (h:wOK l) (n:Nat):0≤l.getD n default∧l.getD n default≤65535:=by
 by_cases hn:n<l.length
 ·rw [getD_lt hn];exact h _ (List.getElem_mem _)
 ·rw [List.getD,List.getElem?_eq_none (by omega)];decide
theorem wOK.snoc {l:List Int} (h:wOK l) {x:Int} (hx:0≤x∧x≤65535):wOK (l++ [x]):=fun z hz=>by
 rw [List.mem_append,List.mem_singleton]at hz
 rcases hz with hz | rfl
 ·exact h z hz
 ·exact hx
end Go.TX.F
namespace Go.TX.F
open Go Go.AE Go.TX
def ins (c:Int) (at_:List Int):List aj→List aj
 | []=>if c%65536=0 then []else [⟨c%65536,at_⟩]
 | m::o=>if dM at_ m.atoms<0 then(if c%65536=0 then m::o else⟨c%65536,at_⟩::m::o)
  else if at_=m.atoms then(if(c+m.bD)%65536=0 then o else⟨(c+m.bD)%65536,at_⟩::o)else m::ins c at_ o
theorem aar {op:Int} (hop:1≤op∧op≤5) {x y:List aj} (hx:aL x) (hy:aL y):aL (iW op x y).1:=by
 unfold iW
 split
 ·exact UO _ _
 ·split
  ·exact UO _ _
  ·split
   ·exact acQ _ _
   ·unfold GZ
    repeat' split
    all_goals first | exact om _ | exact dZ | assumption
end Go.TX.F
namespace Go.TX.F
open Go Go.AE Go.TX
end Go.TX.F
namespace Go.TX.F
open Go Go.AE Go.TX
@[reducible] def hX (o : IOp) : Prop := o.kind ≠ 1 ∧ o.kind ≠ 2 ∧ o.kind ≠ 6
@[reducible] def hY (o : IOp) : Prop := o.kind = 3 ∨ o.kind = 5
@[reducible] def mkV (o : IOp) : Prop := (1 ≤ o.kind ∧ o.kind ≤ 4) ∨ o.kind = 6
@[reducible] def evO (o : IOp) : Prop := 4 ≤ o.kind ∧ o.kind ≤ 7
def Vl (ops:List IOp) (x n:Int):Prop:=0≤x∧x<n∧mkV ((ops).getD (x).toNat default)
structure Kc (ops:List IOp) (len i:Int) (o:IOp):Prop where
 kd:1≤o.kind∧o.kind≤8
 x1:hX o→Vl ops o.x i
 x0:¬hX o→o.x=0
 y1:hY o→Vl ops o.y i
 y0:¬hY o→o.y=0
 k1:o.kind=1→0≤o.k∧o.k≤65535
 k2:o.kind=2∨o.kind=8→0≤o.k∧o.k≤3
 k3:o.kind=3→1≤o.k∧o.k≤5
 k0:4≤o.kind→o.kind≤7→o.k=0
 a1:evO o→0≤o.at_∧o.at_<len
 a0:¬evO o→o.at_=0
structure zo (b:Blk):Prop where
 f:1≤b.fin∧b.fin≤4
 x1:b.fin≠1→Vl b.ops b.x b.ops.length
 x0:b.fin=1→b.x=0
 y1:3≤b.fin→Vl b.ops b.y b.ops.length
 y0:b.fin≤2→b.y=0
 k1:b.fin≠2→0≤b.k∧b.k≤65535
 k0:b.fin=2→b.k=0
structure kX (b:Blk):Prop where
 ln:1≤b.len∧b.len≤8
 pc:0≤b.pc∧b.pc≤64-b.len
 sz:b.ops.length≤48
 op:∀i:Int,0≤i→i<b.ops.length→Kc b.ops b.len i ((b.ops).getD (i).toNat default)
 en:zo b
structure SS where
 t:List Atom
 regs:List (List aj)
 vals:List (List aj)
 ld:Int
 inn:Int
 evs:List Ev
def xOf (s:SS) (o:IOp):List aj:=if hX o then((s.vals).getD (o.x).toNat default)else []
def yOf (s:SS) (o:IOp):List aj:=if hY o then((s.vals).getD (o.y).toNat default)else []
def aOf (s:SS) (o:IOp):Atom:=if o.kind=4 then⟨2,s.ld,[],[]⟩else⟨3,s.inn,[],[]⟩
noncomputable def nT (s:SS) (o:IOp):List Atom:=if o.kind=3 then(tDo s.t o.k (xOf s o) (yOf s o)).1 else if o.kind=4∨o.kind=6 then(aX s.t (aOf s o)).1 else s.t
noncomputable def nV (s:SS) (o:IOp):List aj:=if o.kind=1 then dA o.k else if o.kind=2 then((s.regs).getD (o.k).toNat default)else if o.kind=3 then(tDo s.t o.k (xOf s o) (yOf s o)).2 else if o.kind=4∨o.kind=6 then fF (aX s.t (aOf s o)).2 else []
def nR (s:SS) (o:IOp):List (List aj):=if o.kind=8 then s.regs.set o.k.toNat (xOf s o)else s.regs
def nE (s:SS) (o:IOp):List Ev:=if evO o then s.evs++ [⟨o.kind,o.at_,xOf s o,yOf s o,if o.kind=4∨o.kind=5 then s.regs else []⟩]else s.evs
noncomputable def stp (s:SS) (o:IOp):SS:=⟨nT s o,nR s o,s.vals++ [nV s o],if o.kind=4 then s.ld+1 else s.ld,if o.kind=6 then s.inn+1 else s.inn,nE s o⟩
noncomputable def rN (t:List Atom):Nat→List Atom×List (List aj)
 | 0=>(t,[])
 | n+1=>((aX (rN t n).1 ⟨1,n,[],[]⟩).1,(rN t n).2++ [fF (aX (rN t n).1 ⟨1,n,[],[]⟩).2])
noncomputable def s0 (t:List Atom):SS:=⟨(rN t 4).1,(rN t 4).2,[],0,0,[]⟩
noncomputable def gP (t:List Atom) (b:Blk):SS:=b.ops.foldl stp (s0 t)
def zq (b:Blk) (s:SS):Sym:=⟨s.evs,s.regs,b.fin,if b.fin=1 then []else((s.vals).getD (b.x).toNat default),if 3≤b.fin then((s.vals).getD (b.y).toNat default)else [],b.k⟩
def Wp:Sym:=⟨[],[],0,[],[],0⟩
noncomputable def symEnd (s:Sym) (behind:Int):Sym:=
 if bp (aL s.x∧aL s.y)=false then Wp
 else if s.fin=2∧(bM s.x).2=true then⟨s.events,s.regs,1,[],[],(bM s.x).1⟩
 else if s.fin≠3∧s.fin≠4 then s
 else if s.x=s.y∨(bM s.x).2=true∧(bM s.y).2=true then
  ⟨s.events,s.regs,1,[],[],if s.x=s.y∧s.fin=3∨((bM s.x).2=true∧(bM s.y).2=true)∧(s.fin=3∧(bM s.x).1=(bM s.y).1∨s.fin=4∧(bM s.x).1< (bM s.y).1)then s.k else behind⟩
 else if s.fin=3∧0<eZ s.x s.y then⟨s.events,s.regs,s.fin,s.y,s.x,s.k⟩else s
noncomputable def bK (t:List Atom) (b:Blk):List Atom×Sym:=if bp (aF t∧t.length≤100∧kX b)=true then((gP t b).t,symEnd (zq b (gP t b)) (b.pc+b.len))else([],Wp)
theorem uP (t:List Atom) (a:Atom):t<+:(aX t a).1:=by
 unfold aX
 split
 ·exact List.prefix_refl _
 ·split
  ·exact List.prefix_refl _
  ·exact List.prefix_append _ _
theorem CB {α:Type} {a b:List α} (h:a<+:b):a.length≤b.length:=h.length_le
theorem aiF {α:Type} {d:α} {a b:List α} (h:a<+:b) {i:Int} (h1:i.toNat<a.length):b.getD i.toNat d=a.getD i.toNat d:=by
 obtain⟨c,rfl⟩:=h
 rw [getD_lt h1,getD_lt (by rw [List.length_append];omega),List.getElem_append_left h1]
theorem vO {t:List Atom} {a:Atom} (h:0≤(aX t a).2):(aX t a).2< (aX t a).1.length∧(((aX t a).1).getD ((aX t a).2).toNat default)=a:=by
 have hsp:=jE t a
 revert h
 unfold aX
 split
 ·intro h
  rcases hsp with⟨h1,_⟩ | ⟨_,h2,h3,_⟩
  ·exact absurd h (by dsimp only;omega)
  ·exact⟨h2,h3.symm⟩
 ·split
  ·intro h;exact absurd h (by dsimp only;omega)
  ·intro _
   dsimp only
   refine⟨by rw [List.length_append];simp only [List.length_cons,List.length_nil];omega,?_⟩
   rw [getD_lt (by rw [List.length_append];simp only [List.length_cons,List.length_nil];omega)]
   simp
theorem Sn {u:List Atom} {a:Atom} (hu:aF u) {k:Int} (h0:0≤k) (h1:k<u.length) (h2:((u).getD (k).toNat default)=a):aX u a=(u,k):=by
 have hf:qy u a=k:=by
  refine(jE u a).uniq (Or.inr ⟨h0,h1,h2.symm,fun j j1 j2=> ?_⟩)
  have:=(mq.1 hu).1 k h0 h1
  have g:=this.2 j j1 j2
  dsimp only at g ⊢
  rw [h2]at g;exact g
 unfold aX
 rw [hf,if_pos h0]
theorem zu {t u:List Atom} {a:Atom} (hu:aF u) (h:0≤(aX t a).2) (hp:(aX t a).1<+:u):aX u a=(u,(aX t a).2):=by
 obtain⟨g1,g2⟩:=vO h
 have:=CB hp
 exact Sn hu h (by omega) (by rw [aiF hp (by omega),g2])
theorem O5 {op n:Int} {x y:List aj} (ux:aW x n) (uy:aW y n):aW (iW op x y).1 n:=by
 unfold iW
 split
 ·exact G9 ux uy
 ·split
  ·refine G9 ux ?_
   unfold iV
   split
   ·exact Hg uy (uO _ _)
   ·exact je _
  ·split
   ·exact Hg ux uy
   ·unfold GZ
    repeat' split
    all_goals first | exact ux | exact uy | exact je _ | exact uO _ _
structure aiG (t:List Atom) (op:Int) (x y:List aj):Prop where
 tok:aF (tDo t op x y).1
 pre:t<+:(tDo t op x y).1
 len:(tDo t op x y).1.length≤t.length+1
 pok:aL (tDo t op x y).2
 und:aW (tDo t op x y).2 (tDo t op x y).1.length
 ok:tOk t op x y=true
theorem acR {t:List Atom} {op:Int} {x y:List aj} (h:aF t) (h2:t.length<200) (h3:1≤op∧op≤5) (hx:aL x) (hy:aL y) (ux:aW x t.length) (uy:aW y t.length):aiG t op x y:=by
 by_cases c:(iW op x y).2=true
 ·have e:tDo t op x y=(t,(iW op x y).1):=by unfold tDo;rw [if_pos c]
  refine⟨?_,?_,?_,?_,?_,by unfold tOk;rw [c];rfl⟩<;>rw [e]
  ·exact h
  ·exact List.prefix_refl _
  ·exact Nat.le_succ _
  ·exact aar h3 hx hy
  ·exact O5 ux uy
 ·have key:∀x' y',aL x'→aL y'→aW x' t.length→aW y' t.length→0≤(aX t ⟨4,op,x',y'⟩).2∧aF (aX t ⟨4,op,x',y'⟩).1∧(aX t ⟨4,op,x',y'⟩).1.length≤t.length+1:=fun x' y' a1 a2 a3 a4=>by
   have p1:=Cz (a:=⟨4,op,x',y'⟩) h h2
   have q1:=p1.2.2.2 (by unfold iq;rw [if_pos rfl];exact⟨h3,a1,a2,a3,a4⟩)
   exact⟨q1,p1.1,p1.2.2.1⟩
  by_cases c2:op≠2∧0<eZ x y
  ·obtain⟨k1,k2,k3⟩:=key y x hy hx uy ux
   have e:tDo t op x y=((aX t ⟨4,op,y,x⟩).1,fF (aX t ⟨4,op,y,x⟩).2):=by unfold tDo;rw [if_neg c,if_pos c2,if_neg (by omega)]
   refine⟨?_,?_,?_,?_,?_,by unfold tOk;rw [if_pos c2,decide_eq_false (by omega),Bool.not_false,Bool.or_true]⟩<;>rw [e]
   ·exact k2
   ·exact uP _ _
   ·exact k3
   ·exact nG _
   ·exact rH (vO k1).1
  ·obtain⟨k1,k2,k3⟩:=key x y hx hy ux uy
   have e:tDo t op x y=((aX t ⟨4,op,x,y⟩).1,fF (aX t ⟨4,op,x,y⟩).2):=by unfold tDo;rw [if_neg c,if_neg c2,if_neg (by omega)]
   refine⟨?_,?_,?_,?_,?_,by unfold tOk;rw [if_neg c2,decide_eq_false (by omega),Bool.not_false,Bool.or_true]⟩<;>rw [e]
   ·exact k2
   ·exact uP _ _
   ·exact k3
   ·exact nG _
   ·exact rH (vO k1).1
theorem aas {t u:List Atom} {op:Int} {x y:List aj} (hu:aF u) (h:tOk t op x y=true) (hp:(tDo t op x y).1<+:u):tDo u op x y=(u,(tDo t op x y).2):=by
 by_cases c:(iW op x y).2=true
 ·unfold tDo;rw [if_pos c,if_pos c]
 ·by_cases c2:op≠2∧0<eZ x y
  ·have k1:0≤(aX t ⟨4,op,y,x⟩).2:=by
    unfold tOk at h;rw [if_pos c2,Bool.or_eq_true,Bool.not_eq_true',decide_eq_false_iff_not]at h;have:=h.resolve_left c;omega
   have e:tDo t op x y=((aX t ⟨4,op,y,x⟩).1,fF (aX t ⟨4,op,y,x⟩).2):=by unfold tDo;rw [if_neg c,if_pos c2,if_neg (by omega)]
   rw [e]at hp ⊢
   have:=zu hu k1 hp
   unfold tDo;rw [if_neg c,if_pos c2,this,if_neg (by dsimp only;omega)]
  ·have k1:0≤(aX t ⟨4,op,x,y⟩).2:=by
    unfold tOk at h;rw [if_neg c2,Bool.or_eq_true,Bool.not_eq_true',decide_eq_false_iff_not]at h;have:=h.resolve_left c;omega
   have e:tDo t op x y=((aX t ⟨4,op,x,y⟩).1,fF (aX t ⟨4,op,x,y⟩).2):=by unfold tDo;rw [if_neg c,if_neg c2,if_neg (by omega)]
   rw [e]at hp ⊢
   have:=zu hu k1 hp
   unfold tDo;rw [if_neg c,if_neg c2,this,if_neg (by dsimp only;omega)]
end Go.TX.F
namespace Go.TX.F
open Go Go.AE Go.TX
structure SI (n:Int) (i:Nat) (s:SS):Prop where
 tok:aF s.t
 tl:(s.t.length:Int)≤n+i
 r4:s.regs.length=4
 rok:∀p∈s.regs,aL p∧aW p s.t.length
 vl:s.vals.length=i
 vok:∀p∈s.vals,aL p∧aW p s.t.length
 ld:0≤s.ld∧s.ld≤i
 inn:0≤s.inn∧s.inn≤i
theorem AQ {l:List (List aj)} {n:Int} (h:∀p∈l,aL p∧aW p n) (i:Int):aL ((l).getD (i).toNat default)∧aW ((l).getD (i).toNat default) n:=by
 by_cases c:i.toNat<l.length
 ·rw [getD_lt c];exact h _ (List.getElem_mem _)
 ·rw [List.getD_eq_getElem?_getD,List.getElem?_eq_none (by omega)];exact⟨dZ,je _⟩
theorem SI.x {n:Int} {i:Nat} {s:SS} (h:SI n i s) (o:IOp):aL (xOf s o)∧aW (xOf s o) s.t.length:=by
 unfold xOf;split
 ·exact AQ h.vok _
 ·exact⟨dZ,je _⟩
theorem SI.y {n:Int} {i:Nat} {s:SS} (h:SI n i s) (o:IOp):aL (yOf s o)∧aW (yOf s o) s.t.length:=by
 unfold yOf;split
 ·exact AQ h.vok _
 ·exact⟨dZ,je _⟩
theorem acS {n:Int} {i:Nat} {s:SS} (h:SI n i s) (hi:i<200) (o:IOp) (m:Int):iq (aOf s o) m:=by
 have h1:=h.ld
 have h2:=h.inn
 unfold aOf
 split
 ·unfold iq;rw [if_neg (by simp)];exact⟨⟨rfl,rfl⟩,Or.inr ⟨Or.inl rfl,by dsimp only;omega,by dsimp only;omega⟩⟩
 ·unfold iq;rw [if_neg (by simp)];exact⟨⟨rfl,rfl⟩,Or.inr ⟨Or.inr rfl,by dsimp only;omega,by dsimp only;omega⟩⟩
structure SOK (s:SS) (o:IOp):Prop where
 pre:s.t<+:(stp s o).t
 d:o.kind=3→aiG s.t o.k (xOf s o) (yOf s o)
 p:o.kind=4∨o.kind=6→0≤(aX s.t (aOf s o)).2
theorem Hl {n:Int} {i:Nat} {s:SS} {o:IOp} (h:SI n i s) (hk:o.kind=3→1≤o.k∧o.k≤5) (hn:n+i<200) (hi:i<200):SI n (i+1) (stp s o)∧SOK s o:=by
 have hl:=h.tl
 have tl:s.t.length<200:=by omega
 have hd:o.kind=3→aiG s.t o.k (xOf s o) (yOf s o):=fun e=>acR h.tok tl (hk e) (h.x o).1 (h.y o).1 (h.x o).2 (h.y o).2
 have hput:=Cz (a:=aOf s o) h.tok tl
 have hp:=hput.2.2.2 (acS h hi o _)
 have T:aF (nT s o)∧(nT s o).length≤s.t.length+1∧s.t<+:nT s o:=by
  unfold nT
  split
  ·rename_i e;have:=hd e;exact⟨this.tok,this.len,this.pre⟩
  ·split
   ·exact⟨hput.1,hput.2.2.1,uP _ _⟩
   ·exact⟨h.tok,Nat.le_succ _,List.prefix_refl _⟩
 have up:∀ {p:List aj},aL p∧aW p s.t.length→aL p∧aW p (nT s o).length:=fun hp=>⟨hp.1,vN hp.2 (by have:=CB T.2.2;omega)⟩
 have V:aL (nV s o)∧aW (nV s o) (nT s o).length:=by
  unfold nV
  split
  ·exact⟨om _,uO _ _⟩
  ·split
   ·exact up (AQ h.rok _)
   ·split
    ·rename_i e
     have:=hd e
     refine⟨this.pok,?_⟩
     have e2:nT s o=(tDo s.t o.k (xOf s o) (yOf s o)).1:=by unfold nT;rw [if_pos e]
     rw [e2];exact this.und
    ·split
     ·rename_i e1 e2
      have e3:nT s o=(aX s.t (aOf s o)).1:=by unfold nT;rw [if_neg (by omega),if_pos e2]
      rw [e3]
      exact⟨nG _,rH (vO hp).1⟩
     ·exact⟨dZ,je _⟩
 have g1:=h.ld
 have g2:=h.inn
 refine⟨⟨T.1,?_,?_,?_,?_,?_,?_,?_⟩,⟨T.2.2,hd,fun _=>hp⟩⟩
 ·have:=T.2.1;show((nT s o).length:Int)≤_;omega
 ·show(nR s o).length=4
  unfold nR;split
  ·rw [List.length_set];exact h.r4
  ·exact h.r4
 ·show∀p∈nR s o,_
  intro p hp
  unfold nR at hp;split at hp
  ·rcases List.mem_or_eq_of_mem_set hp with hp | rfl
   ·exact up (h.rok p hp)
   ·exact up (h.x o)
  ·exact up (h.rok p hp)
 ·show(s.vals++ [nV s o]).length=i+1
  rw [List.length_append,h.vl];rfl
 ·show∀p∈s.vals++ [nV s o],_
  intro p hp
  rw [List.mem_append,List.mem_singleton]at hp
  rcases hp with hp | rfl
  ·exact up (h.vok p hp)
  ·exact V
 ·show 0≤(if o.kind=4 then s.ld+1 else s.ld)∧(if o.kind=4 then s.ld+1 else s.ld)≤_
  split<;>omega
 ·show 0≤(if o.kind=6 then s.inn+1 else s.inn)∧(if o.kind=6 then s.inn+1 else s.inn)≤_
  split<;>omega
theorem yE {n:Int}:∀(ops:List IOp) (i:Nat) (s:SS),SI n i s→(∀o∈ops,o.kind=3→1≤o.k∧o.k≤5)→n+i+ops.length≤200→i+ops.length≤200→SI n (i+ops.length) (ops.foldl stp s)∧s.t<+:(ops.foldl stp s).t
 | [],i,s,h,_,_,_=>⟨h,List.prefix_refl _⟩
 | o::r,i,s,h,hk,h1,h2=>by
  rw [List.length_cons]at h1 h2
  obtain⟨a1,a2⟩:=Hl h (hk o List.mem_cons_self) (by omega) (by omega)
  obtain⟨b1,b2⟩:=yE r (i+1) (stp s o) a1 (fun o ho=>hk o (List.mem_cons_of_mem _ ho)) (by omega) (by omega)
  rw [List.foldl_cons,List.length_cons,show i+(r.length+1)=i+1+r.length by omega]
  exact⟨b1,a2.pre.trans b2⟩
structure RI (t:List Atom) (n:Nat) (r:List Atom×List (List aj)):Prop where
 tok:aF r.1
 tl:r.1.length≤t.length+n
 pre:t<+:r.1
 r4:r.2.length=n
 rok:∀p∈r.2,aL p∧aW p r.1.length
theorem BU {t:List Atom} (h:aF t) (hl:t.length≤196):∀n:Nat,n≤4→RI t n (rN t n)
 | 0,_=>⟨h,Nat.le_refl _,List.prefix_refl _,rfl,fun p hp=>absurd hp (by simp [rN])⟩
 | n+1,hn=>by
  have ih:=BU h hl n (by omega)
  have l:=ih.tl
  have hp:=Cz (a:=⟨1,n,[],[]⟩) ih.tok (by omega)
  have h0:=hp.2.2.2 (by unfold iq;rw [if_neg (by simp)];exact⟨⟨rfl,rfl⟩,Or.inl ⟨rfl,by dsimp only;omega,by dsimp only;omega⟩⟩)
  have pr:=uP (rN t n).1 ⟨1,n,[],[]⟩
  unfold rN
  refine⟨hp.1,?_,ih.pre.trans pr,?_,fun p h=> ?_⟩
  ·have:=hp.2.2.1;dsimp only;omega
  ·dsimp only;rw [List.length_append,ih.r4];rfl
  ·dsimp only at h ⊢
   rw [List.mem_append,List.mem_singleton]at h
   rcases h with h | rfl
   ·have:=ih.rok p h;exact⟨this.1,vN this.2 (by have:=CB pr;omega)⟩
   ·exact⟨nG _,rH (vO h0).1⟩
theorem Ke {t:List Atom} (h:aF t) (hl:t.length≤196) {n:Nat} (hn:n<4):0≤(aX (rN t n).1 ⟨1,n,[],[]⟩).2:=by
 have ih:=BU h hl n (by omega)
 have l:=ih.tl
 exact(Cz (a:=⟨1,n,[],[]⟩) ih.tok (by omega)).2.2.2 (by unfold iq;rw [if_neg (by simp)];exact⟨⟨rfl,rfl⟩,Or.inl ⟨rfl,by dsimp only;omega,by dsimp only;omega⟩⟩)
theorem I6 {t:List Atom} (h:aF t) (hl:t.length≤196):SI (t.length+4) 0 (s0 t):=by
 have:=BU h hl 4 (by omega)
 have l:=this.tl
 exact⟨this.tok,by show((rN t 4).1.length:Int)≤_;omega,this.r4,this.rok,rfl,fun p hp=>absurd hp (by simp [s0]),by simp [s0],by simp [s0]⟩
theorem kX.k3 {b:Blk} (h:kX b):∀o∈b.ops,o.kind=3→1≤o.k∧o.k≤5:=fun o ho=>by
 obtain⟨i,hi,rfl⟩:=List.getElem_of_mem ho
 have:=(h.op i (by omega) (by omega)).k3
 rw [show(i:Int).toNat=i from rfl,getD_lt hi]at this
 exact this
theorem UU {t:List Atom} {b:Blk} (h:aF t) (hl:t.length≤100) (hb:kX b):SI (t.length+4) b.ops.length (gP t b)∧t<+:(gP t b).t:=by
 have sz:=hb.sz
 obtain⟨h1,h2⟩:=yE b.ops 0 (s0 t) (I6 h (by omega)) hb.k3 (by omega) (by omega)
 rw [Nat.zero_add]at h1
 exact⟨h1,(BU h (by omega) 4 (by omega)).pre.trans h2⟩
def SS.on (s:SS) (u:List Atom):SS:=⟨u,s.regs,s.vals,s.ld,s.inn,s.evs⟩
theorem aiH {s:SS} {o:IOp} {u:List Atom} (hu:aF u) (h:SOK s o) (hp:(stp s o).t<+:u):stp (s.on u) o=(stp s o).on u:=by
 have hp:nT s o<+:u:=hp
 have ex:xOf (s.on u) o=xOf s o:=rfl
 have ey:yOf (s.on u) o=yOf s o:=rfl
 have ea:aOf (s.on u) o=aOf s o:=rfl
 have eT:nT (s.on u) o=u:=by
  unfold nT
  split
  ·rename_i e
   rw [ex,ey]
   have h3:=(h.d e).ok
   unfold nT at hp;rw [if_pos e]at hp
   rw [show(s.on u).t=u from rfl,aas hu h3 hp]
  ·split
   ·rename_i e1 e2
    unfold nT at hp;rw [if_neg e1,if_pos e2]at hp
    rw [ea,show(s.on u).t=u from rfl,zu hu (h.p e2) hp]
   ·rfl
 have eV:nV (s.on u) o=nV s o:=by
  unfold nV
  split
  ·rfl
  ·split
   ·rfl
   ·split
    ·rename_i e
     rw [ex,ey]
     have h3:=(h.d e).ok
     unfold nT at hp;rw [if_pos e]at hp
     rw [show(s.on u).t=u from rfl,aas hu h3 hp]
    ·split
     ·rename_i e1 e2
      unfold nT at hp;rw [if_neg e1,if_pos e2]at hp
      rw [ea,show(s.on u).t=u from rfl,zu hu (h.p e2) hp]
     ·rfl
 show SS.mk (nT (s.on u) o) (nR (s.on u) o) ((s.on u).vals++ [nV (s.on u) o]) _ _ (nE (s.on u) o)=SS.mk u (nR s o) (s.vals++ [nV s o]) _ _ (nE s o)
 rw [eT,eV];rfl
theorem aat {n:Int} {u:List Atom} (hu:aF u):∀(ops:List IOp) (i:Nat) (s:SS),SI n i s→(∀o∈ops,o.kind=3→1≤o.k∧o.k≤5)→n+i+ops.length≤200→i+ops.length≤200→(ops.foldl stp s).t<+:u→ops.foldl stp (s.on u)=(ops.foldl stp s).on u
 | [],i,s,h,_,_,_,_=>rfl
 | o::r,i,s,h,hk,h1,h2,hp=>by
  rw [List.length_cons]at h1 h2
  obtain⟨a1,a2⟩:=Hl h (hk o List.mem_cons_self) (by omega) (by omega)
  rw [List.foldl_cons]at hp
  obtain⟨_,b2⟩:=yE r (i+1) (stp s o) a1 (fun o ho=>hk o (List.mem_cons_of_mem _ ho)) (by omega) (by omega)
  rw [List.foldl_cons,List.foldl_cons,aiH hu a2 (b2.trans hp)]
  exact aat hu r (i+1) (stp s o) a1 (fun o ho=>hk o (List.mem_cons_of_mem _ ho)) (by omega) (by omega) hp
theorem adJ {t u:List Atom} (h:aF t) (hl:t.length≤196) (hu:aF u):∀n:Nat,n≤4→(rN t n).1<+:u→rN u n=(u,(rN t n).2)
 | 0,_,_=>rfl
 | n+1,hn,hp=>by
  have h0:=Ke h hl (n:=n) (by omega)
  have pr:=uP (rN t n).1 ⟨1,n,[],[]⟩
  have hp':(aX (rN t n).1 ⟨1,n,[],[]⟩).1<+:u:=hp
  have ih:=adJ h hl hu n (by omega) (pr.trans hp')
  show((aX (rN u n).1 ⟨1,n,[],[]⟩).1,(rN u n).2++ [fF (aX (rN u n).1 ⟨1,n,[],[]⟩).2])=(u,(rN t n).2++ [fF (aX (rN t n).1 ⟨1,n,[],[]⟩).2])
  rw [ih]
  dsimp only
  rw [zu hu h0 hp']
theorem acT {t u:List Atom} {b:Blk} (h:aF t) (hl:t.length≤100) (hb:kX b) (hu:aF u) (hp:(gP t b).t<+:u):gP u b=(gP t b).on u:=by
 have sz:=hb.sz
 have i0:=I6 h (by omega)
 obtain⟨_,h2⟩:=yE b.ops 0 (s0 t) i0 hb.k3 (by omega) (by omega)
 have e:s0 u=(s0 t).on u:=by
  unfold s0 SS.on
  rw [adJ h (by omega) hu 4 (by omega) (h2.trans hp)]
 unfold gP at hp ⊢
 rw [e]
 exact aat hu b.ops 0 (s0 t) i0 hb.k3 (by omega) (by omega) hp
theorem rM {t:List Atom} {b:Blk} (h:aF t) (hl:t.length≤100) (hb:kX b):bK t b=((gP t b).t,symEnd (zq b (gP t b)) (b.pc+b.len)):=by
 unfold bK;rw [if_pos (dh ⟨h,hl,hb⟩)]
theorem Wq {t u:List Atom} {b:Blk} (h:aF t) (hl:t.length≤100) (hb:kX b) (hu:aF u) (hlu:u.length≤100) (hp:(bK t b).1<+:u):bK u b=(u,(bK t b).2):=by
 rw [rM h hl hb]at hp ⊢
 rw [rM hu hlu hb,acT h hl hb hu hp]
 rfl
theorem I7 {t:List Atom} {b:Blk} (h:aF t) (hl:t.length≤100) (hb:kX b):aF (bK t b).1∧t<+:(bK t b).1∧(bK t b).1.length≤t.length+b.ops.length+4:=by
 unfold bK
 rw [if_pos (dh ⟨h,hl,hb⟩)]
 obtain⟨h1,h2⟩:=UU h hl hb
 have:=h1.tl
 exact⟨h1.tok,h2,by dsimp only;omega⟩
end Go.TX.F
namespace Go.TX.F
open Go Go.AE Go.TX
def ShP (l:List (List aj)):Prop:=l.length<1000000000∧∀p∈l,Sh p
def ShE (e:Ev):Prop:=Sh e.x∧Sh e.y∧ShP e.regs
def Ws (l:List Ev):Prop:=l.length<1000000000∧∀e∈l,ShE e
structure ShY (s:Sym):Prop where
 e:Ws s.events
 r:ShP s.regs
 x:Sh s.x
 y:Sh s.y
theorem ShP.at {l:List (List aj)} (h:ShP l) (n:Nat):Sh (l.getD n default):=by
 by_cases c:n<l.length
 ·rw [getD_lt c];exact h.2 _ (List.getElem_mem _)
 ·rw [List.getD_eq_getElem?_getD,List.getElem?_eq_none (by omega)];exact nD
theorem Kg:ShP []:=⟨by simp,fun p h=>absurd h (by simp)⟩
theorem Ws.at {l:List Ev} (h:Ws l) (n:Nat):ShE (l.getD n default):=by
 by_cases c:n<l.length
 ·rw [getD_lt c];exact h.2 _ (List.getElem_mem _)
 ·rw [List.getD_eq_getElem?_getD,List.getElem?_eq_none (by omega)];exact⟨nD,nD,Kg⟩
theorem acU:ShY Wp:=⟨⟨by simp [Wp],fun e h=>absurd h (by simp [Wp])⟩,Kg,nD,nD⟩
theorem SI.regs {n:Int} {i:Nat} {s:SS} (h:SI n i s):ShP s.regs:=⟨by have:=h.r4;omega,fun p hp=>(h.rok p hp).1.sh⟩
theorem acV {n:Int} {i:Nat} {s:SS} {o:IOp} (h:SI n i s) (h2:s.evs.length≤i∧∀e∈s.evs,ShE e):(stp s o).evs.length≤i+1∧∀e∈(stp s o).evs,ShE e:=by
 show(nE s o).length≤i+1∧∀e∈nE s o,ShE e
 unfold nE
 split
 ·refine⟨by rw [List.length_append];have:=h2.1;simp only [List.length_cons,List.length_nil];omega,fun e he=> ?_⟩
  rw [List.mem_append,List.mem_singleton]at he
  rcases he with he | rfl
  ·exact h2.2 e he
  ·refine⟨(h.x o).1.sh,(h.y o).1.sh,?_⟩
   dsimp only
   split
   ·exact h.regs
   ·exact Kg
 ·exact⟨by have:=h2.1;omega,h2.2⟩
theorem Kh {n:Int}:∀(ops:List IOp) (i:Nat) (s:SS),SI n i s→(∀o∈ops,o.kind=3→1≤o.k∧o.k≤5)→n+i+ops.length≤200→i+ops.length≤200→(s.evs.length≤i∧∀e∈s.evs,ShE e)→(ops.foldl stp s).evs.length≤i+ops.length∧∀e∈(ops.foldl stp s).evs,ShE e
 | [],i,s,h,_,_,_,h3=>h3
 | o::r,i,s,h,hk,h1,h2,h3=>by
  rw [List.length_cons]at h1 h2
  obtain⟨a1,a2⟩:=Hl h (hk o List.mem_cons_self) (by omega) (by omega)
  have:=Kh r (i+1) (stp s o) a1 (fun o ho=>hk o (List.mem_cons_of_mem _ ho)) (by omega) (by omega) (acV h h3)
  rw [List.foldl_cons,List.length_cons,show i+(r.length+1)=i+1+r.length by omega]
  exact this
def evT (e:Ev):Int×Int×Nat:=(e.kind,e.at_,e.regs.length)
def opT (o:IOp):Int×Int×Nat:=(o.kind,o.at_,if o.kind=4∨o.kind=5 then 4 else 0)
def UW (ops:List IOp):List IOp:=ops.filter fun o=>decide (evO o)
theorem UY:∀(ops:List IOp) (s:SS),s.regs.length=4→(ops.foldl stp s).evs.map evT=s.evs.map evT++(UW ops).map opT
 | [],s,_=>by simp [UW]
 | o::r,s,h=>by
  have h':(stp s o).regs.length=4:=by
   show(nR s o).length=4
   unfold nR;split
   ·rw [List.length_set];exact h
   ·exact h
  rw [List.foldl_cons,UY r (stp s o) h']
  show(nE s o).map evT++_=_
  unfold nE UW
  by_cases c:evO o
  ·have e:evT ⟨o.kind,o.at_,xOf s o,yOf s o,if o.kind=4∨o.kind=5 then s.regs else []⟩=opT o:=by
    unfold evT opT
    dsimp only
    split
    ·rw [h]
    ·rfl
   rw [if_pos c,List.filter_cons_of_pos (by simpa using c),List.map_append,List.append_assoc]
   refine congrArg (s.evs.map evT++ ·) ?_
   show evT _::_=opT o::_
   rw [e];rfl
  ·rw [if_neg c,List.filter_cons_of_neg (by simpa using c)]
theorem Ki {n:Int} {i:Nat} {s:SS} {b:Blk} (h:SI n i s):aL (zq b s).x∧aL (zq b s).y:=by
 unfold zq
 dsimp only
 constructor
 ·split
  ·exact dZ
  ·exact(AQ h.vok _).1
 ·split
  ·exact(AQ h.vok _).1
  ·exact dZ
theorem Kj {s:Sym} {n:Int} (h:aL s.x∧aL s.y):(symEnd s n).events=s.events∧(symEnd s n).regs=s.regs∧aL (symEnd s n).x∧aL (symEnd s n).y:=by
 unfold symEnd
 rw [if_neg (by rw [dh h];simp)]
 repeat' split
 all_goals first | exact⟨rfl,rfl,h⟩ | exact⟨rfl,rfl,dZ,dZ⟩ | exact⟨rfl,rfl,h.2,h.1⟩
structure apE (t:List Atom) (b:Blk):Prop where
 evs:(bK t b).2.events.map evT=(UW b.ops).map opT
 r4:(bK t b).2.regs.length=4
 sh:ShY (bK t b).2
 ne:0< (bK t b).1.length
theorem O6 {t:List Atom} {b:Blk} (h:aF t) (hl:t.length≤100) (hb:kX b):apE t b:=by
 have sz:=hb.sz
 have i0:=I6 h (by omega)
 obtain⟨h1,h2⟩:=UU h hl hb
 have hs:=Kh b.ops 0 (s0 t) i0 hb.k3 (by omega) (by omega) ⟨by simp [s0],fun e he=>absurd he (by simp [s0])⟩
 have he:=UY b.ops (s0 t) i0.r4
 have hk:=Kj (n:=b.pc+b.len) (Ki (b:=b) h1)
 have e:bK t b=((gP t b).t,symEnd (zq b (gP t b)) (b.pc+b.len)):=by unfold bK;rw [if_pos (dh ⟨h,hl,hb⟩)]
 rw [Nat.zero_add]at hs
 refine⟨?_,?_,?_,?_⟩
 ·rw [e];dsimp only;rw [hk.1];show(gP t b).evs.map evT=_;unfold gP;rw [he];rfl
 ·rw [e];dsimp only;rw [hk.2.1];exact h1.r4
 ·rw [e]
  refine⟨?_,?_,hk.2.2.1.sh,hk.2.2.2.sh⟩
  ·rw [hk.1];exact⟨by have:=hs.1;show(b.ops.foldl stp (s0 t)).evs.length<_;omega,hs.2⟩
  ·rw [hk.2.1];exact h1.regs
 ·rw [e]
  have r:=yE b.ops 0 (s0 t) i0 hb.k3 (by omega) (by omega)
  have:=CB r.2
  have p:=vO (Ke h (by omega) (n:=3) (by omega))
  have p0:=Ke h (by omega) (n:=3) (by omega)
  show 0< (gP t b).t.length
  have:(s0 t).t.length=(aX (rN t 3).1 ⟨1,(3:Nat),[],[]⟩).1.length:=rfl
  unfold gP
  omega
theorem zw (t:List Atom) (b:Blk):ShY (bK t b).2∧ShT (bK t b).1:=by
 by_cases c:aF t∧t.length≤100∧kX b
 ·exact⟨(O6 c.1 c.2.1 c.2.2).sh,(I7 c.1 c.2.1 c.2.2).1.sh⟩
 ·unfold bK;rw [bN c,if_neg (by simp)];exact⟨acU,acN⟩
noncomputable def t4:List Atom:=(rN [] 4).1
theorem vP:aF []:=mq.2 ⟨All.zero,by simp⟩
theorem UZ:aF t4∧t4.length≤4:=by
 have:=BU vP (by simp) 4 (by omega)
 exact⟨this.tok,Nat.le_trans this.tl (by simp)⟩
noncomputable def chk (b c:Blk):Bool:=bp (kX b∧kX c∧b.pc=c.pc∧b.len=c.len∧(b=c∨(bK t4 b).2=(bK (bK t4 b).1 c).2))
structure Lk (b c:Blk):Prop where
 ob:kX b
 oc:kX c
 pc:b.pc=c.pc
 len:b.len=c.len
 run:∀u,aF u→u.length≤100→(bK u b).1=u→bK u c=bK u b
theorem Lk.refl {b:Blk} (h:kX b):Lk b b:=⟨h,h,rfl,rfl,fun _ _ _ _=>rfl⟩
theorem Lk.trans {b c d:Blk} (h:Lk b c) (g:Lk c d):Lk b d:=⟨h.ob,g.oc,h.pc.trans g.pc,h.len.trans g.len,fun u h1 h2 h3=>by
 have e:=h.run u h1 h2 h3
 rw [g.run u h1 h2 (by rw [e];exact h3),e]⟩
theorem acW {b:Blk} (hb:kX b):aF (bK t4 b).1∧(bK t4 b).1.length≤100∧bK (bK t4 b).1 b=bK t4 b:=by
 have h4:=UZ
 have hr:=I7 h4.1 (by omega) hb
 have sz:=hb.sz
 refine⟨hr.1,by omega,?_⟩
 have:=Wq h4.1 (by omega) hb hr.1 (by omega) (List.prefix_refl _)
 rw [this]
theorem Lk.chk {b c:Blk} (h:Lk b c):chk b c=true:=by
 obtain⟨h1,h2,h3⟩:=acW h.ob
 refine dh ⟨h.ob,h.oc,h.pc,h.len,Or.inr ?_⟩
 rw [h.run _ h1 h2 (by rw [h3]),h3]
end Go.TX.F
namespace Go.TX.F
open Go Go.AE Go.TX
theorem Sq (f:SS→IOp→SS) (s:SS) {l:List IOp} {i:Nat} (h:i<l.length):(l.take (i+1)).foldl f s=f ((l.take i).foldl f s) l[i]:=by
 rw [List.take_succ_eq_append_getElem h,List.foldl_append];rfl
def ren (nm:List Int) (o:IOp):IOp:=⟨o.kind,if hX o then((nm).getD (o.x).toNat default)else o.x,if hY o then((nm).getD (o.y).toNat default)else o.y,o.k,o.at_⟩
def cpN (s:List Int×List Int) (i:Int) (o:IOp):Int:=if o.kind=2∧0≤((s.2).getD (o.k).toNat default)then((s.2).getD (o.k).toNat default)else i
def cpL (s:List Int×List Int) (i:Int) (o:IOp):List Int:=if o.kind=2 then(if 0≤((s.2).getD (o.k).toNat default)then s.2 else s.2.set o.k.toNat i)else if o.kind=8 then s.2.set o.k.toNat ((s.1).getD (o.x).toNat default)else s.2
def cpS (ops:List IOp):Nat→List Int×List Int
 | 0=>([],[-1, -1, -1, -1])
 | i+1=>((cpS ops i).1++ [cpN (cpS ops i) i (ops.getD i default)],cpL (cpS ops i) i (ops.getD i default))
structure CI (ops:List IOp) (i:Nat) (s:SS):Prop where
 nm:∀j:Int,0≤j→j<i→(0≤(((cpS ops i).1).getD (j).toNat default)∧(((cpS ops i).1).getD (j).toNat default)≤j)∧((s.vals).getD ((((cpS ops i).1).getD (j).toNat default)).toNat default)=((s.vals).getD (j).toNat default)∧(mkV ((ops).getD (j).toNat default)→mkV ((ops).getD ((((cpS ops i).1).getD (j).toNat default)).toNat default))
 la:∀r:Int,0≤r→r≤3→0≤(((cpS ops i).2).getD (r).toNat default)→(((cpS ops i).2).getD (r).toNat default)<i∧((s.vals).getD ((((cpS ops i).2).getD (r).toNat default)).toNat default)=((s.regs).getD (r).toNat default)∧mkV ((ops).getD ((((cpS ops i).2).getD (r).toNat default)).toNat default)
end Go.TX.F
namespace Go.TX.F
open Go Go.AE Go.TX
def fcO (f:List IOp) (o:IOp):IOp:=if o.kind=3∧(((f).getD (o.x).toNat default)).kind=1∧(((f).getD (o.y).toNat default)).kind=1 then⟨1,0,0,wdo o.k (((f).getD (o.x).toNat default)).k (((f).getD (o.y).toNat default)).k,0⟩else o
def fc (ops:List IOp):Nat→List IOp
 | 0=> []
 | i+1=>fc ops i++ [fcO (fc ops i) (ops.getD i default)]
structure FI (ops:List IOp) (i:Nat) (s:SS):Prop where
 c:∀j:Int,0≤j→j<i→((((fc ops i)).getD (j).toNat default)).kind=1→(0≤((((fc ops i)).getD (j).toNat default)).k∧((((fc ops i)).getD (j).toNat default)).k≤65535)∧((s.vals).getD (j).toNat default)=dA ((((fc ops i)).getD (j).toNat default)).k
 m:∀j:Int,0≤j→j<i→mkV ((ops).getD (j).toNat default)→mkV (((fc ops i)).getD (j).toNat default)
def kpS (ops:List IOp) (kp:List Bool):Nat→List Int×List IOp
 | 0=>([],[])
 | i+1=>((kpS ops kp i).1++ [((kpS ops kp i).2.length:Int)],if kp.getD i default=true then(kpS ops kp i).2++ [ops.getD i default]else(kpS ops kp i).2)
def aau:List IOp→Int→Bool
 | [],_=>false
 | o::l,r=>if o.kind=4∨o.kind=5∨o.kind=2∧o.k=r then false else if o.kind=8∧o.k=r then true else aau l r
structure KP (b:Blk) (kp:List Bool):Prop where
 x:∀i:Int,0≤i→i<b.ops.length→((kp).getD (i).toNat default)=true→hX ((b.ops).getD (i).toNat default)→((kp).getD ((((b.ops).getD (i).toNat default)).x).toNat default)=true
 y:∀i:Int,0≤i→i<b.ops.length→((kp).getD (i).toNat default)=true→hY ((b.ops).getD (i).toNat default)→((kp).getD ((((b.ops).getD (i).toNat default)).y).toNat default)=true
 ex:b.fin≠1→((kp).getD (b.x).toNat default)=true
 ey:3≤b.fin→((kp).getD (b.y).toNat default)=true
 no:∀i:Int,0≤i→i<b.ops.length→((kp).getD (i).toNat default)=false→(((b.ops).getD (i).toNat default)).kind≤3∨(((b.ops).getD (i).toNat default)).kind=8∧aau (b.ops.drop (i.toNat+1)) (((b.ops).getD (i).toNat default)).k=true
structure KI (b:Blk) (kp:List Bool) (i:Nat) (s s':SS):Prop where
 t:s'.t=s.t
 ld:s'.ld=s.ld
 inn:s'.inn=s.inn
 evs:s'.evs=s.evs
 vl:s'.vals.length=(kpS b.ops kp i).2.length
 v:∀j:Nat,j<i→kp.getD j default=true→s'.vals.getD (kpS b.ops kp j).2.length default=s.vals.getD j default
 r4:s'.regs.length=4∧s.regs.length=4
 rg:∀r:Int,0≤r→r≤3→aau (b.ops.drop i) r=false→((s'.regs).getD (r).toNat default)=((s.regs).getD (r).toNat default)
def us0 (b:Blk):List Bool:=(fun m:List Bool=>if 3≤b.fin then m.set b.y.toNat true else m) (if b.fin=1 then List.replicate b.ops.length false else(List.replicate b.ops.length false).set b.x.toNat true)
def usO (o:IOp) (i:Nat) (m:List Bool):List Bool:=
 if(m.getD i default || decide (4≤o.kind))=true then(fun m:List Bool=>if hY o then m.set o.y.toNat true else m) ((fun m:List Bool=>if hX o then m.set o.x.toNat true else m) (m.set i true))else m
def us (b:Blk):Nat→List Bool
 | 0=>us0 b
 | k+1=>usO (b.ops.getD (b.ops.length-1-k) default) (b.ops.length-1-k) (us b k)
structure UI (b:Blk) (p:Nat) (m:List Bool):Prop where
 k:∀i:Nat,p≤i→i<b.ops.length→4≤(b.ops.getD i default).kind→m.getD i default=true
 x:∀i:Nat,p≤i→i<b.ops.length→m.getD i default=true→hX (b.ops.getD i default)→((m).getD ((b.ops.getD i default).x).toNat default)=true
 y:∀i:Nat,p≤i→i<b.ops.length→m.getD i default=true→hY (b.ops.getD i default)→((m).getD ((b.ops.getD i default).y).toNat default)=true
 ex:b.fin≠1→((m).getD (b.x).toNat default)=true
 ey:3≤b.fin→((m).getD (b.y).toNat default)=true
 wh:∀t:Nat,t<b.ops.length→m.getD t default=true→4≤(b.ops.getD t default).kind∨b.fin≠1∧t=b.x.toNat∨3≤b.fin∧t=b.y.toNat∨∃j:Nat,p≤j∧j<b.ops.length∧t<j∧m.getD j default=true∧(hX (b.ops.getD j default)∧t=(b.ops.getD j default).x.toNat∨hY (b.ops.getD j default)∧t=(b.ops.getD j default).y.toNat)
end Go.TX.F
namespace Go.TX.F
open Go Go.AE Go.TX
theorem RB:(∀o:IOp,gM .iop 0 o=o.kind)∧(∀o:IOp,gM .iop 1 o=o.x)∧(∀o:IOp,gM .iop 2 o=o.y)∧(∀o:IOp,gM .iop 3 o=o.k)∧(∀o:IOp,gM .iop 4 o=o.at_)∧
  (∀b:Blk,gM .blk 0 b=b.pc)∧(∀b:Blk,gM .blk 1 b=b.len)∧(∀b:Blk,mK .blk 2 .iop b=b.ops)∧(∀b:Blk,gM .blk 3 b=b.fin)∧(∀b:Blk,gM .blk 4 b=b.x)∧(∀b:Blk,gM .blk 5 b=b.y)∧(∀b:Blk,gM .blk 6 b=b.k)∧
  (∀x,Co.mk .iop x=⟨x.1,x.2.1,x.2.2.1,x.2.2.2.1,x.2.2.2.2.1⟩)∧(∀x,Co.mk .blk x=⟨x.1,x.2.1,x.2.2.1,x.2.2.2.1,x.2.2.2.2.1,x.2.2.2.2.2.1,x.2.2.2.2.2.2.1⟩)∧
  (∀i:Ins,gM .ins 0 i=i.op)∧(∀i:Ins,gM .ins 1 i=i.d)∧(∀i:Ins,gM .ins 2 i=i.a)∧(∀i:Ins,gM .ins 3 i=i.k)∧(∀x,Co.mk .ins x=⟨x.1,x.2.1,x.2.2.1,x.2.2.2.1⟩)∧
  (∀e:Ev,gM .ev 0 e=e.kind)∧(∀e:Ev,gM .ev 1 e=e.at_)∧(∀e:Ev,mK .ev 2 .mono e=e.x)∧(∀e:Ev,mK .ev 3 .mono e=e.y)∧(∀e:Ev,mK .ev 4 .poly e=e.regs)∧(∀x,Co.mk .ev x=⟨x.1,x.2.1,x.2.2.1,x.2.2.2.1,x.2.2.2.2.1⟩)∧
  (∀s:Sym,mK .sym 0 .ev s=s.events)∧(∀s:Sym,mK .sym 1 .poly s=s.regs)∧(∀s:Sym,gM .sym 2 s=s.fin)∧(∀s:Sym,mK .sym 3 .mono s=s.x)∧(∀s:Sym,mK .sym 4 .mono s=s.y)∧(∀s:Sym,gM .sym 5 s=s.k)∧
  (∀x,Co.mk .sym x=⟨x.1,x.2.1,x.2.2.1,x.2.2.2.1,x.2.2.2.2.1,x.2.2.2.2.2.1⟩)∧(∀x,Co.mk .bool x=x.1)∧(∀x:Bool,ak7 .bool 0 x=x):=
 ⟨fun _=>rfl,fun _=>rfl,fun _=>rfl,fun _=>rfl,fun _=>rfl,fun _=>rfl,fun _=>rfl,fun _=>rfl,fun _=>rfl,fun _=>rfl,fun _=>rfl,fun _=>rfl,fun _=>rfl,fun _=>rfl,fun _=>rfl,fun _=>rfl,fun _=>rfl,fun _=>rfl,fun _=>rfl,fun _=>rfl,fun _=>rfl,fun _=>rfl,fun _=>rfl,fun _=>rfl,fun _=>rfl,fun _=>rfl,fun _=>rfl,fun _=>rfl,fun _=>rfl,fun _=>rfl,fun _=>rfl,fun _=>rfl,fun _=>rfl,fun _=>rfl⟩
@[reducible] def hK (o : IOp) : Prop := o.kind = 1 ∨ o.kind = 2 ∨ o.kind = 3 ∨ o.kind = 8
theorem apF {p1:Int×Int×Int×Unit→Bool} {f1:Int×Int×Int×Unit→Bool×Unit} (hp1:∀a b c,p1 (a,b,c,())=true) (hf1:∀a b c,f1 (a,b,c,())=(inB a b c,())) (o:IOp):
  X3 (std 0) p1 f1 (o,()) (fun y=>y=(decide (hX o),decide (hY o),decide (hK o),decide (evO o),())):=by
 dsimp only [X3,Alg.cl,Alg.cg,Alg.rb,Alg.bd,Alg.l1,Tup.q,Tup.o]
 simp (disch:=omega) only [RR,RB,hp1,hf1]
 refine Prod.ext ?_ (Prod.ext ?_ (Prod.ext ?_ (Prod.ext ?_ rfl)))<;>rw [Bool.eq_iff_iff]<;>simp [hX,hY,hK,evO,inB,or_assoc,and_assoc]
theorem apG {p1:Int×Int×Int×Unit→Bool} {f1:Int×Int×Int×Unit→Bool×Unit} (hp1:∀a b c,p1 (a,b,c,())=true) (hf1:∀a b c,f1 (a,b,c,())=(inB a b c,())) (o:IOp):
  X7 (std 0) p1 f1 (o,()) (fun y=>y=(decide (mkV o),())):=by
 dsimp only [X7,Alg.cl,Alg.cg,Alg.rb,Alg.bd,Alg.l1,Tup.q,Tup.o]
 simp (disch:=omega) only [RR,RB,hp1,hf1]
 refine Prod.ext ?_ rfl
 rw [Bool.eq_iff_iff];simp [mkV,inB]
theorem apH {p1:Int×Int×Int×Unit→Bool} {f1:Int×Int×Int×Unit→Bool×Unit} (hp1:∀a b c,p1 (a,b,c,())=true) (hf1:∀a b c,f1 (a,b,c,())=(inB a b c,())) (o:IOp):
  Y3 (std 0) p1 f1 (o,()) (fun y=>y=(decide (evO o),())):=by
 dsimp only [Y3,Alg.cl,Alg.cg,Alg.rb,Alg.bd,Alg.l1,Tup.q,Tup.o]
 simp (disch:=omega) only [RR,RB,hp1,hf1]
 refine Prod.ext ?_ rfl
 rw [Bool.eq_iff_iff];simp [evO,inB]
theorem apI {p2:IOp×Unit→Bool} {f2:IOp×Unit→Bool×Unit} (hp2:∀o,p2 (o,())=true) (hf2:∀o,f2 (o,())=(decide (mkV o),()))
  {p1:Int×Int×Int×Unit→Bool} {f1:Int×Int×Int×Unit→Bool×Unit} (hp1:∀a b c,p1 (a,b,c,())=true) (hf1:∀a b c,f1 (a,b,c,())=(inB a b c,())) (b:Blk) (x n:Int) (h0:0≤n) (h1:n≤b.ops.length) (h2:b.ops.length<1000000000):
  X8 (std 0) p2 f2 p1 f1 (b,x,n,()) (fun y=>y=(bp (Vl b.ops x n),())):=by
 dsimp only [X8,Alg.cl,Alg.cg,Alg.rb,Alg.bd,Alg.l1,Tup.q,Tup.o]
 simp (disch:=omega) only [RR,RB,hp1,hf1,hp2,hf2,dF,nA]
 refine⟨by omega,by omega,?_⟩
 refine Prod.ext ?_ rfl
 dsimp only
 rw [Bool.eq_iff_iff,aY,Bool.and_eq_true,dF,decide_eq_true_eq]
 unfold Vl
 constructor
 ·rintro⟨⟨a1,a2⟩,a3⟩;exact⟨a1,by omega,a3⟩
 ·rintro⟨a1,a2,a3⟩;exact⟨⟨a1,by omega⟩,a3⟩
theorem O7 {ops:List IOp} {len i:Int} {o:IOp}:Kc ops len i o↔(1≤o.kind∧o.kind≤8)∧(hX o∧Vl ops o.x i∨¬hX o∧o.x=0)∧(hY o∧Vl ops o.y i∨¬hY o∧o.y=0)∧
  (hK o∧(o.kind=1∧(0≤o.k∧o.k≤65535)∨(o.kind=2∨o.kind=8)∧(0≤o.k∧o.k≤3)∨o.kind=3∧(1≤o.k∧o.k≤5))∨¬hK o∧o.k=0)∧(evO o∧(0≤o.at_∧o.at_<len)∨¬evO o∧o.at_=0):=by
 constructor
 ·rintro⟨kd,x1,x0,y1,y0,k1,k2,k3,k0,a1,a0⟩
  refine⟨kd,?_,?_,?_,?_⟩
  ·by_cases h:hX o
   ·exact Or.inl ⟨h,x1 h⟩
   ·exact Or.inr ⟨h,x0 h⟩
  ·by_cases h:hY o
   ·exact Or.inl ⟨h,y1 h⟩
   ·exact Or.inr ⟨h,y0 h⟩
  ·unfold hK;omega
  ·by_cases h:evO o
   ·exact Or.inl ⟨h,a1 h⟩
   ·exact Or.inr ⟨h,a0 h⟩
 ·rintro⟨kd,x,y,k,a⟩
  refine⟨kd,fun h=> ?_,fun h=> ?_,fun h=> ?_,fun h=> ?_,fun h=> ?_,fun h=> ?_,fun h=> ?_,fun h h'=> ?_,fun h=> ?_,fun h=> ?_⟩
  ·rcases x with x | x
   ·exact x.2
   ·exact absurd h x.1
  ·rcases x with x | x
   ·exact absurd x.1 h
   ·exact x.2
  ·rcases y with y | y
   ·exact y.2
   ·exact absurd h y.1
  ·rcases y with y | y
   ·exact absurd y.1 h
   ·exact y.2
  ·unfold hK at k;omega
  ·unfold hK at k;omega
  ·unfold hK at k;omega
  ·unfold hK at k;omega
  ·rcases a with a | a
   ·exact a.2
   ·exact absurd h a.1
  ·rcases a with a | a
   ·exact absurd a.1 h
   ·exact a.2
theorem apJ {p3:Blk×Int×Int×Unit→Bool} {f3:Blk×Int×Int×Unit→Bool×Unit} (hp3:∀b x n,0≤n→n≤b.ops.length→b.ops.length<1000000000→p3 (b,x,n,())=true) (hf3:∀b x n,0≤n→n≤b.ops.length→b.ops.length<1000000000→f3 (b,x,n,())=(bp (Vl b.ops x n),()))
  {p2:IOp×Unit→Bool} {f2:IOp×Unit→Bool×Bool×Bool×Bool×Unit} (hp2:∀o,p2 (o,())=true) (hf2:∀o,f2 (o,())=(decide (hX o),decide (hY o),decide (hK o),decide (evO o),()))
  {p4:Int×Unit→Bool} {f4:Int×Unit→Bool×Unit} (hp4:∀a,p4 (a,())=true) (hf4:∀a,f4 (a,())=(inB a 0 65535,()))
  {p1:Int×Int×Int×Unit→Bool} {f1:Int×Int×Int×Unit→Bool×Unit} (hp1:∀a b c,p1 (a,b,c,())=true) (hf1:∀a b c,f1 (a,b,c,())=(inB a b c,()))
  {p5:Int×Unit→Bool} {f5:Int×Unit→Bool×Unit} (hp5:∀a,p5 (a,())=true) (hf5:∀a,f5 (a,())=(inB a 1 5,()))
  {p6:Int×Unit→Bool} {f6:Int×Unit→Bool×Unit} (hp6:∀a,p6 (a,())=true) (hf6:∀a,f6 (a,())=(inB a 0 3,()))
  (b:Blk) (i:Int) (h0:0≤i) (h1:i<b.ops.length) (h2:b.ops.length<1000000000) (h3:1≤b.len∧b.len≤8):
  X9 (std 0) p3 f3 p2 f2 p4 f4 p1 f1 p5 f5 p6 f6 (b,i,()) (fun y=>y=(bp (Kc b.ops b.len i ((b.ops).getD (i).toNat default)),())):=by
 have Sr:=fun x=>hp3 b x i h0 (by omega) h2
 have Sv:=fun x=>hf3 b x i h0 (by omega) h2
 dsimp only [X9,Alg.cl,Alg.cg,Alg.rb,Alg.bd,Alg.l1,Tup.q,Tup.o]
 simp (disch:=omega) only [RR,RB,hp1,hf1,hp2,hf2,Sr,Sv,hp4,hf4,hp5,hf5,hp6,hf6,nA]
 refine⟨by omega,by omega,fun h=> ?_,fun h=> ?_⟩
 ·rw [bN (fun g=>h g.kd)]
 ·have h:=dF.1 h
  refine Prod.ext ?_ rfl
  dsimp only
  rw [Bool.eq_iff_iff,aY,O7]
  generalize ((b.ops).getD (i).toNat default)=o at h ⊢
  simp only [Bool.and_eq_true,Bool.or_eq_true,Bool.not_eq_true',decide_eq_true_eq,decide_eq_false_iff_not,aY,dF,h,true_and,and_true]
  have e:∀ {a:Int},(0≤a∧a≤b.len-1)↔(0≤a∧a<b.len):=fun {a}=>by omega
  have k:(bif decide (o.kind=1)then inB o.k 0 65535 else bif decide (o.kind=2)then inB o.k 0 3 else bif decide (o.kind=3)then inB o.k 1 5 else(decide (o.kind=8)&&inB o.k 0 3))=true↔(o.kind=1∧(0≤o.k∧o.k≤65535)∨(o.kind=2∨o.kind=8)∧(0≤o.k∧o.k≤3)∨o.kind=3∧(1≤o.k∧o.k≤5)):=by
   rcases(by omega:o.kind=1∨o.kind=2∨o.kind=3∨o.kind=8∨(o.kind≠1∧o.kind≠2∧o.kind≠3∧o.kind≠8))with c | c | c | c | ⟨c1,c2,c3,c4⟩
   ·simp [c,inB]
   ·simp [c,inB]
   ·simp [c,inB]
   ·simp [c,inB]
   ·simp [c1,c2,c3,c4]
  rw [k]
  simp only [e,and_assoc]
theorem adK (b:Blk):Ye (std 0) (b,()) (fun y=>y=(decide (b.fin≠1),decide (3≤b.fin),decide (b.fin≠2),())):=by
 dsimp only [Ye,Alg.cl,Alg.cg,Alg.rb,Alg.bd,Alg.l1,Tup.q,Tup.o]
 simp (disch:=omega) only [RR,RB]
 refine Prod.ext ?_ (Prod.ext rfl (Prod.ext ?_ rfl))<;>simp
theorem I8 {b:Blk}:zo b↔(1≤b.fin∧b.fin≤4)∧(b.fin≠1∧Vl b.ops b.x b.ops.length∨¬b.fin≠1∧b.x=0)∧(3≤b.fin∧Vl b.ops b.y b.ops.length∨¬3≤b.fin∧b.y=0)∧(b.fin≠2∧(0≤b.k∧b.k≤65535)∨¬b.fin≠2∧b.k=0):=by
 constructor
 ·rintro⟨f,x1,x0,y1,y0,k1,k0⟩
  refine⟨f,?_,?_,by omega⟩
  ·by_cases h:b.fin=1
   ·exact Or.inr ⟨fun g=>g h,x0 h⟩
   ·exact Or.inl ⟨h,x1 h⟩
  ·by_cases h:3≤b.fin
   ·exact Or.inl ⟨h,y1 h⟩
   ·exact Or.inr ⟨h,y0 (by omega)⟩
 ·rintro⟨f,x,y,k⟩
  refine⟨f,fun h=> ?_,fun h=> ?_,fun h=> ?_,fun h=> ?_,fun h=>by omega,fun h=>by omega⟩
  ·rcases x with x | x
   ·exact x.2
   ·exact absurd h x.1
  ·rcases x with x | x
   ·exact absurd h x.1
   ·exact x.2
  ·rcases y with y | y
   ·exact y.2
   ·exact absurd h y.1
  ·rcases y with y | y
   ·exact absurd y.1 (by omega)
   ·exact y.2
theorem apK {p2:Blk×Unit→Bool} {f2:Blk×Unit→Bool×Bool×Bool×Unit} (hp2:∀b,p2 (b,())=true) (hf2:∀b,f2 (b,())=(decide (b.fin≠1),decide (3≤b.fin),decide (b.fin≠2),()))
  {p3:Blk×Int×Int×Unit→Bool} {f3:Blk×Int×Int×Unit→Bool×Unit} (hp3:∀b x n,0≤n→n≤b.ops.length→b.ops.length<1000000000→p3 (b,x,n,())=true) (hf3:∀b x n,0≤n→n≤b.ops.length→b.ops.length<1000000000→f3 (b,x,n,())=(bp (Vl b.ops x n),()))
  {p4:Int×Unit→Bool} {f4:Int×Unit→Bool×Unit} (hp4:∀a,p4 (a,())=true) (hf4:∀a,f4 (a,())=(inB a 0 65535,()))
  {p1:Int×Int×Int×Unit→Bool} {f1:Int×Int×Int×Unit→Bool×Unit} (hp1:∀a b c,p1 (a,b,c,())=true) (hf1:∀a b c,f1 (a,b,c,())=(inB a b c,())) (b:Blk) (h2:b.ops.length<1000000000):
  Yf (std 0) p2 f2 p3 f3 p4 f4 p1 f1 (b,()) (fun y=>y=(bp (zo b),())):=by
 have Sr:=fun x=>hp3 b x b.ops.length (by omega) (Int.le_refl _) h2
 have Sv:=fun x=>hf3 b x b.ops.length (by omega) (Int.le_refl _) h2
 dsimp only [Yf,Alg.cl,Alg.cg,Alg.rb,Alg.bd,Alg.l1,Tup.q,Tup.o]
 simp (disch:=omega) only [RR,RB,hp1,hf1,hp2,hf2,Sr,Sv,hp4,hf4]
 refine Prod.ext ?_ rfl
 dsimp only
 rw [Bool.eq_iff_iff,aY,I8]
 simp only [Bool.and_eq_true,Bool.or_eq_true,Bool.not_eq_true',decide_eq_true_eq,decide_eq_false_iff_not,aY,dF,and_assoc]
theorem apL {p2:Blk×Unit→Bool} {f2:Blk×Unit→Bool×Unit} (hp2:∀b,b.ops.length<1000000000→p2 (b,())=true) (hf2:∀b,b.ops.length<1000000000→f2 (b,())=(bp (zo b),()))
  {p3:Blk×Int×Unit→Bool} {f3:Blk×Int×Unit→Bool×Unit} (hp3:∀(b:Blk) (i:Int),0≤i→i<b.ops.length→b.ops.length<1000000000→1≤b.len∧b.len≤8→p3 (b,i,())=true) (hf3:∀(b:Blk) (i:Int),0≤i→i<b.ops.length→b.ops.length<1000000000→1≤b.len∧b.len≤8→f3 (b,i,())=(bp (Kc b.ops b.len i ((b.ops).getD (i).toNat default)),()))
  {p1:Int×Int×Int×Unit→Bool} {f1:Int×Int×Int×Unit→Bool×Unit} (hp1:∀a b c,p1 (a,b,c,())=true) (hf1:∀a b c,f1 (a,b,c,())=(inB a b c,())) (b:Blk) (h2:b.ops.length<1000000000):
  Yi (std 0) p2 f2 p3 f3 p1 f1 (b,()) (fun y=>y=(bp (kX b),())):=by
 dsimp only [Yi,Alg.cl,Alg.cg,Alg.rb,Alg.bd,Alg.l1,Tup.q,Tup.o]
 simp (disch:=omega) only [RR,RB,hp1,hf1]
 by_cases hl:1≤b.len∧b.len≤8
 ·have hl':=dF.2 hl
  simp (disch:=omega) only [RR,hl',dF,nA]
  refine⟨fun h=> ?_,fun h=> ?_⟩
  ·rw [bN (fun g=> ?_)]
   have g1:=g.pc
   have g2:=g.sz
   omega
  ·refine ak (fun(y:Int×Int×Blk×Unit)=>y.1=b.ops.length∧y.2.2.1=b∧0≤y.2.1∧y.2.1≤b.ops.length∧All y.2.1 (fun i=>Kc b.ops b.len i ((b.ops).getD (i).toNat default))) (fun y=>(b.ops.length-y.2.1).toNat) ⟨rfl,rfl,by simp,by simp,All.zero⟩ ?_
   rintro⟨(n:Int),(i:Int),(b':Blk),⟨⟩⟩ hI
   dsimp only at hI ⊢
   obtain⟨rfl,rfl,h3,h4,h5⟩:=hI
   simp (disch:=omega) only [RR,hp2 b' h2,hf2 b' h2]
   refine⟨fun h6=>⟨hp3 b' i h3 h6 h2 hl,?_⟩,fun h6=> ?_⟩
   ·rw [hf3 b' i h3 h6 h2 hl]
    dsimp only
    refine⟨fun h7=> ?_,fun h7=>⟨⟨by omega,by omega,h5.snoc (aY.1 h7)⟩,by omega⟩⟩
    rw [bN (fun g=>iM.1 h7 (g.op i h3 h6))]
   ·by_cases he:zo b'
    ·rw [dh he,dh (show kX b' from⟨hl,by omega,by omega,fun j j1 j2=>h5 j j1 (by omega),he⟩)]
    ·rw [bN he,bN (fun g=>he g.en)]
 ·have hl':=nA.2 hl
  simp (disch:=omega) only [RR,hl']
  rw [bN (fun g=>hl g.ln)]
  exact⟨rfl,fun h=>h.1.1.elim⟩
end Go.TX.F
namespace Go.TX.F
open Go Go.AE Go.TX
theorem aiI {p1:Int×Int×Int×Unit→Bool} {f1:Int×Int×Int×Unit→Bool×Unit} (hp1:∀a b c,p1 (a,b,c,())=true) (hf1:∀a b c,f1 (a,b,c,())=(inB a b c,())) (k:Int):
  Qw (std 0) p1 f1 (k,()) (fun y=>y=(decide ((1≤k∧k≤4)∨k=6),())):=by
 dsimp only [Qw,Alg.cl,Alg.cg,Alg.rb,Alg.bd,Alg.l1,Tup.q,Tup.o]
 simp (disch:=omega) only [RR,hp1,hf1]
 refine Prod.ext ?_ rfl
 rw [Bool.eq_iff_iff];simp [inB]
theorem aiJ {p1:Int×Unit→Bool} {f1:Int×Unit→Bool×Unit} (hp1:∀k,p1 (k,())=true) (hf1:∀k,f1 (k,())=(decide ((1≤k∧k≤4)∨k=6),())) (ops:List IOp) (x n:Int) (h1:n≤ops.length):
  Qx (std 0) p1 f1 (ops,x,n,()) (fun y=>y=(bp (Vl ops x n),())):=by
 dsimp only [Qx,Alg.cl,Alg.cg,Alg.rb,Alg.bd,Alg.l1,Tup.q,Tup.o]
 simp (disch:=omega) only [RR,RB,hp1,hf1]
 refine⟨by simp only [Bool.and_eq_false_iff,decide_eq_false_iff_not];omega,by simp only [Bool.and_eq_false_iff,decide_eq_false_iff_not];omega,?_⟩
 refine Prod.ext ?_ rfl
 dsimp only
 rw [Bool.eq_iff_iff,aY,Bool.and_eq_true,Bool.and_eq_true,decide_eq_true_eq,decide_eq_true_eq,decide_eq_true_eq,and_assoc]
 rfl
theorem aiK {p4:Int×Unit→Bool} {f4:Int×Unit→Bool×Unit} (hp4:∀a,p4 (a,())=true) (hf4:∀a,f4 (a,())=(inB a 0 65535,()))
  {p1:Int×Int×Int×Unit→Bool} {f1:Int×Int×Int×Unit→Bool×Unit} (hp1:∀a b c,p1 (a,b,c,())=true) (hf1:∀a b c,f1 (a,b,c,())=(inB a b c,()))
  {p3:List IOp×Int×Int×Unit→Bool} {f3:List IOp×Int×Int×Unit→Bool×Unit} (hp3:∀(ops:List IOp) (x n:Int),n≤ops.length→p3 (ops,x,n,())=true) (hf3:∀(ops:List IOp) (x n:Int),n≤ops.length→f3 (ops,x,n,())=(bp (Vl ops x n),()))
  (ops:List IOp) (i len:Int) (h0:0≤i) (h1:i<ops.length) (h3:1≤len∧len≤8):Qy (std 0) p4 f4 p1 f1 p3 f3 (ops,i,len,()) (fun y=>y=(bp (Kc ops len i ((ops).getD (i).toNat default)),())):=by
 have Sr:=fun x=>hp3 ops x i (by omega)
 have Sv:=fun x=>hf3 ops x i (by omega)
 have e:∀ {a:Int},(0≤a∧a≤len-1)↔(0≤a∧a<len):=fun {a}=>by omega
 dsimp only [Qy,Alg.cl,Alg.cg,Alg.rb,Alg.bd,Alg.l1,Tup.q,Tup.o]
 simp (disch:=omega) only [RR,RB,hp1,hf1,Sr,Sv,hp4,hf4]
 refine⟨by omega,by omega,?_⟩
 rw [show bp (Kc ops len i ((ops).getD (i).toNat default))=bp (_)from lI O7]
 generalize ((ops).getD (i).toNat default)=o
 have go:∀ {c:Bool} {P:Prop},(c=true↔P)→(c,())=(bp P,()):=fun {c P} h=>Prod.ext (by dsimp only;rw [Bool.eq_iff_iff,aY];exact h) rfl
 refine⟨fun c=> ?_,fun c1=>⟨fun c=> ?_,fun c2=>⟨fun c=> ?_,fun c3=> ?_⟩⟩⟩
 ·refine go ?_
  simp only [Bool.and_eq_true,decide_eq_true_eq,aY,dF,c,hX,hY,hK,evO,e]
  simp [and_assoc]
 ·refine go ?_
  simp only [Bool.and_eq_true,decide_eq_true_eq,aY,dF,c,hX,hY,hK,evO,e]
  simp [and_assoc]
 ·refine go ?_
  simp only [Bool.and_eq_true,decide_eq_true_eq,aY,dF,c,hX,hY,hK,evO,e]
  simp [and_assoc]
 ·by_cases c4:o.kind=4∨o.kind=7
  ·have c5:o.kind≠8:=by omega
   rcases c4 with c | c<;>simp (disch:=omega) only [RR,c,Int.reduceEq]<;>(refine go ?_)<;>simp only [Bool.and_eq_true,decide_eq_true_eq,aY,dF,c,hX,hY,hK,evO,e]<;>simp [and_assoc]
  ·by_cases c:o.kind=5
   ·simp (disch:=omega) only [RR,c,Int.reduceEq]
    refine go ?_
    simp only [Bool.and_eq_true,decide_eq_true_eq,aY,dF,c,hX,hY,hK,evO,e]
    simp [and_assoc]
   ·by_cases c':o.kind=6
    ·simp (disch:=omega) only [RR,c',Int.reduceEq]
     refine go ?_
     simp only [Bool.and_eq_true,decide_eq_true_eq,aY,dF,c',hX,hY,hK,evO,e]
     simp [and_assoc]
    ·by_cases c8:o.kind=8
     ·simp (disch:=omega) only [RR,c8,Int.reduceEq]
      refine go ?_
      simp only [Bool.and_eq_true,decide_eq_true_eq,aY,dF,c8,hX,hY,hK,evO,e]
      simp [and_assoc]
     ·have n4:¬o.kind=4:=fun h=>c4 (Or.inl h)
      have n7:¬o.kind=7:=fun h=>c4 (Or.inr h)
      simp (disch:=omega) only [RR,n4,n7,c,c',c8]
      rw [bN (fun h=>by have:=h.1;omega)]
theorem aiL {p4:Int×Unit→Bool} {f4:Int×Unit→Bool×Unit} (hp4:∀a,p4 (a,())=true) (hf4:∀a,f4 (a,())=(inB a 0 65535,()))
  {p3:List IOp×Int×Int×Unit→Bool} {f3:List IOp×Int×Int×Unit→Bool×Unit} (hp3:∀(ops:List IOp) (x n:Int),n≤ops.length→p3 (ops,x,n,())=true) (hf3:∀(ops:List IOp) (x n:Int),n≤ops.length→f3 (ops,x,n,())=(bp (Vl ops x n),()))
  (b:Blk):Qz (std 0) p4 f4 p3 f3 (b,()) (fun y=>y=(bp (zo b),())):=by
 have Sr:=fun x=>hp3 b.ops x b.ops.length (Int.le_refl _)
 have Sv:=fun x=>hf3 b.ops x b.ops.length (Int.le_refl _)
 dsimp only [Qz,Alg.cl,Alg.cg,Alg.rb,Alg.bd,Alg.l1,Tup.q,Tup.o]
 simp (disch:=omega) only [RR,RB,Sr,Sv,hp4,hf4]
 rw [show bp (zo b)=bp (_)from lI I8]
 have go:∀ {c:Bool} {P:Prop},(c=true↔P)→(c,())=(bp P,()):=fun {c P} h=>Prod.ext (by dsimp only;rw [Bool.eq_iff_iff,aY];exact h) rfl
 refine⟨fun c=> ?_,fun c1=>⟨fun c=> ?_,fun c2=> ?_⟩⟩
 ·refine go ?_
  simp only [Bool.and_eq_true,decide_eq_true_eq,aY,dF,c]
  simp [and_assoc]
 ·refine go ?_
  simp only [Bool.and_eq_true,decide_eq_true_eq,aY,dF,c]
  simp [and_assoc]
 ·by_cases c:b.fin=3
  ·simp (disch:=omega) only [RR,c,Int.reduceEq]
   refine go ?_
   simp only [Bool.and_eq_true,decide_eq_true_eq,aY,dF,c]
   simp [and_assoc]
  ·by_cases c4:b.fin=4
   ·simp (disch:=omega) only [RR,c4,Int.reduceEq]
    refine go ?_
    simp only [Bool.and_eq_true,decide_eq_true_eq,aY,dF,c4]
    simp [and_assoc]
   ·simp (disch:=omega) only [RR,c,c4]
    rw [bN (fun h=>by have:=h.1;omega)]
theorem aiM {p1:Int×Int×Int×Unit→Bool} {f1:Int×Int×Int×Unit→Bool×Unit} (hp1:∀a b c,p1 (a,b,c,())=true) (hf1:∀a b c,f1 (a,b,c,())=(inB a b c,()))
  {p2:Blk×Unit→Bool} {f2:Blk×Unit→Bool×Unit} (hp2:∀b,p2 (b,())=true) (hf2:∀b,f2 (b,())=(bp (zo b),()))
  {p3:List IOp×Int×Int×Unit→Bool} {f3:List IOp×Int×Int×Unit→Bool×Unit} (hp3:∀(ops:List IOp) (i len:Int),0≤i→i<ops.length→1≤len∧len≤8→p3 (ops,i,len,())=true) (hf3:∀(ops:List IOp) (i len:Int),0≤i→i<ops.length→1≤len∧len≤8→f3 (ops,i,len,())=(bp (Kc ops len i ((ops).getD (i).toNat default)),())) (b:Blk) (h2:b.ops.length<1000000000):
  QA (std 0) p1 f1 p2 f2 p3 f3 (b,()) (fun y=>y=(bp (kX b),())):=by
 dsimp only [QA,Alg.cl,Alg.cg,Alg.rb,Alg.bd,Alg.l1,Tup.q,Tup.o]
 simp (disch:=omega) only [RR,RB,hp1,hf1]
 by_cases hl:1≤b.len∧b.len≤8
 ·have hl':=dF.2 hl
  simp (disch:=omega) only [RR,hl',dF,nA]
  refine⟨fun h=> ?_,fun h=> ?_⟩
  ·rw [bN (fun g=> ?_)]
   have g1:=g.pc
   have g2:=g.sz
   omega
  ·refine ak (fun(y:Int×Blk×Unit)=>y.2.1=b∧0≤y.1∧y.1≤b.ops.length∧All y.1 (fun i=>Kc b.ops b.len i ((b.ops).getD (i).toNat default))) (fun y=>(b.ops.length-y.1).toNat) ⟨rfl,by simp,by simp,All.zero⟩ ?_
   rintro⟨(i:Int),(b':Blk),⟨⟩⟩ hI
   dsimp only at hI ⊢
   obtain⟨rfl,h3,h4,h5⟩:=hI
   simp (disch:=omega) only [RR,hp2 b',hf2 b']
   refine⟨fun h6=>⟨hp3 b'.ops i b'.len h3 h6 hl,?_⟩,fun h6=> ?_⟩
   ·rw [hf3 b'.ops i b'.len h3 h6 hl]
    dsimp only
    refine⟨fun h7=> ?_,fun h7=>⟨⟨by omega,by omega,h5.snoc (aY.1 h7)⟩,by omega⟩⟩
    rw [bN (fun g=>iM.1 h7 (g.op i h3 h6))]
   ·by_cases he:zo b'
    ·rw [dh he,dh (show kX b' from⟨hl,by omega,by omega,fun j j1 j2=>h5 j j1 (by omega),he⟩)]
    ·rw [bN he,bN (fun g=>he g.en)]
 ·have hl':=nA.2 hl
  simp (disch:=omega) only [RR,hl']
  rw [bN (fun g=>hl g.ln)]
  exact⟨rfl,fun h=>h.1.1.elim⟩
theorem apM {p4:Int×Unit→Bool} {f4:Int×Unit→Bool×Unit} (hp4:∀a,p4 (a,())=true) (hf4:∀a,f4 (a,())=(inB a 0 65535,())) (r a b:Int):
  Zr (std 0) p4 f4 (r,a,b,()) (fun y=>y=(inB a 0 65535&&inB b 0 65535&& (decide (r=1∧a=b∨r=2∧a<b)),())):=by
 dsimp only [Zr,Alg.cl,Alg.cg,Alg.rb,Alg.bd,Alg.l1,Tup.q,Tup.o]
 simp (disch:=omega) only [RR,hp4,hf4]
 refine Prod.ext ?_ rfl
 rw [Bool.eq_iff_iff];simp
theorem apN {p1:List aj×Unit→Bool} {f1:List aj×Unit→List aj×Unit} (hp1:∀a,Sh a→p1 (a,())=true) (hf1:∀a,Sh a→f1 (a,())=(a,())) (a:List (List aj)) (ha:ShP a):
  Zp (std 0) p1 f1 (a,()) (fun y=>y=(a,())):=by
 have hlen:=ha.1
 dsimp only [Zp,Alg.cl,Alg.cg,Alg.rb,Alg.bd,Alg.l1,Tup.q,Tup.o]
 refine ak (fun(y:List (List aj)×Int×Int×List (List aj)×Unit)=>y.1=a∧y.2.1=a.length∧y.2.2.2.1=a.take y.2.2.1.toNat∧0≤y.2.2.1∧y.2.2.1≤a.length) (fun y=>(a.length-y.2.2.1).toNat) ⟨rfl,rfl,by simp,by simp,by simp⟩ ?_
 rintro⟨(l:List (List aj)),(m:Int),(i:Int),(o:List (List aj)),⟨⟩⟩ hI
 dsimp only at hI ⊢
 obtain⟨rfl,rfl,rfl,h1,h2⟩:=hI
 simp (disch:=omega) only [RR,hp1 _ (ha.at _),hf1 _ (ha.at _)]
 refine⟨fun h4=>⟨by omega,by omega,?_,⟨bW h1 h4 rfl,by omega,by omega⟩,by omega⟩,fun h4=>by rw [List.take_of_length_le (by omega)]⟩
 have:=List.length_take_le' i.toNat l
 simp only [List.length_cons,List.length_nil];omega
theorem apO {p1:List aj×Unit→Bool} {f1:List aj×Unit→List aj×Unit} (hp1:∀a,Sh a→p1 (a,())=true) (hf1:∀a,Sh a→f1 (a,())=(a,()))
  {p2:List (List aj)×Unit→Bool} {f2:List (List aj)×Unit→List (List aj)×Unit} (hp2:∀a,ShP a→p2 (a,())=true) (hf2:∀a,ShP a→f2 (a,())=(a,())) (s:Sym) (hs:ShY s):
  Zq (std 0) p1 f1 p2 f2 (s,()) (fun y=>y=(s.fin,s.k,s.events,s.regs,s.x,s.y,())):=by
 have hlen:=hs.e.1
 dsimp only [Zq,Alg.cl,Alg.cg,Alg.rb,Alg.bd,Alg.l1,Tup.q,Tup.o]
 simp (disch:=omega) only [RR,RB,hp1 _ hs.x,hf1 _ hs.x,hp1 _ hs.y,hf1 _ hs.y,hp2 _ hs.r,hf2 _ hs.r]
 refine ak (fun(y:List Ev×Int×Int×Int×Int×Int×Int×List Ev×List (List aj)×List aj×List aj×Unit)=>y.1=s.events∧y.2.1=s.events.length∧y.2.2.2.2.2.1=s.fin∧y.2.2.2.2.2.2.1=s.k∧y.2.2.2.2.2.2.2.1=s.events.take y.2.2.1.toNat∧y.2.2.2.2.2.2.2.2.1=s.regs∧y.2.2.2.2.2.2.2.2.2.1=s.x∧y.2.2.2.2.2.2.2.2.2.2.1=s.y∧0≤y.2.2.1∧y.2.2.1≤s.events.length) (fun y=>(s.events.length-y.2.2.1).toNat) ⟨rfl,rfl,rfl,rfl,by simp,rfl,rfl,rfl,by simp,by simp⟩ ?_
 rintro⟨(l:List Ev),(m:Int),(i:Int),(q1:Int),(q2:Int),(q3:Int),(q4:Int),(o:List Ev),(r:List (List aj)),(u:List aj),(v:List aj),⟨⟩⟩ hI
 dsimp only at hI ⊢
 obtain⟨rfl,rfl,rfl,rfl,rfl,rfl,rfl,rfl,h1,h2⟩:=hI
 have he:=hs.e.at i.toNat
 simp (disch:=omega) only [RR,RB,hp1 _ he.1,hf1 _ he.1,hp1 _ he.2.1,hf1 _ he.2.1,hp2 _ he.2.2,hf2 _ he.2.2]
 refine⟨fun h4=>⟨by omega,by omega,?_,⟨bW h1 h4 rfl,by omega,by omega⟩,by omega⟩,fun h4=>by rw [List.take_of_length_le (by omega)]⟩
 have:=List.length_take_le' i.toNat s.events
 simp only [List.length_cons,List.length_nil];omega
end Go.TX.F
namespace Go.TX.F
open Go Go.AE Go.TX
theorem apP {p1:Int×Unit→Bool} {f1:Int×Unit→List aj×Unit} (hp1:∀n,p1 (n,())=true) (hf1:∀n,f1 (n,())=(fF n,()))
  {p2:List Atom×Atom×Unit→Bool} {f2:List Atom×Atom×Unit→List Atom×Int×Unit} (hp2:∀(t:List Atom) a,t.length<1000000000→ShA a→p2 (t,a,())=true) (hf2:∀(t:List Atom) a,t.length<1000000000→ShA a→f2 (t,a,())=((aX t a).1,(aX t a).2,()))
  (kd k:Int) (t:List Atom) (fl:Bool) (ht:t.length<1000000000):
  YL (std 0) p1 f1 p2 f2 (kd,k,t,fl,()) (fun y=>y=if(aX t ⟨kd,k,[],[]⟩).2<0 then([],t,true,())else(fF (aX t ⟨kd,k,[],[]⟩).2,(aX t ⟨kd,k,[],[]⟩).1,fl,())):=by
 have sa:ShA ⟨kd,k,[],[]⟩:=⟨nD,nD⟩
 dsimp only [YL,Alg.cl,Alg.cg,Alg.rb,Alg.bd,Alg.l1,Tup.q,Tup.o]
 simp (disch:=omega) only [RR,hp1,hf1,hp2 _ _ ht sa,hf2 _ _ ht sa]
 exact⟨fun h=>by rw [if_pos h],fun h=>by rw [if_neg h]⟩
theorem CF (t:List Atom) (n:Nat):rN t (n+1)=((aX (rN t n).1 ⟨1,n,[],[]⟩).1,(rN t n).2++ [fF (aX (rN t n).1 ⟨1,n,[],[]⟩).2]):=rfl
theorem apQ {p1:Int×Int×List Atom×Bool×Unit→Bool} {f1:Int×Int×List Atom×Bool×Unit→List aj×List Atom×Bool×Unit} (hp1:∀kd k (t:List Atom) fl,t.length<1000000000→p1 (kd,k,t,fl,())=true)
  (hf1:∀kd k (t:List Atom) fl,t.length<1000000000→f1 (kd,k,t,fl,())=if(aX t ⟨kd,k,[],[]⟩).2<0 then([],t,true,())else(fF (aX t ⟨kd,k,[],[]⟩).2,(aX t ⟨kd,k,[],[]⟩).1,fl,()))
  (t:List Atom) (fl:Bool) (ht:aF t) (hl:t.length≤196):YQ (std 0) p1 f1 (t,fl,()) (fun y=>y=((rN t 4).1,fl,(rN t 4).2,())):=by
 dsimp only [YQ,Alg.cl,Alg.cg,Alg.rb,Alg.bd,Alg.l1,Tup.q,Tup.o]
 refine ak (fun(y:Int×List Atom×Bool×List (List aj)×Unit)=>0≤y.1∧y.1≤4∧y.2.2.1=fl∧y.2.1=(rN t y.1.toNat).1∧y.2.2.2.1=(rN t y.1.toNat).2) (fun y=>(4-y.1).toNat) ⟨by simp,by simp,rfl,rfl,rfl⟩ ?_
 rintro⟨(i:Int),(u:List Atom),(g:Bool),(r:List (List aj)),⟨⟩⟩ hI
 dsimp only at hI ⊢
 obtain⟨h1,h2,rfl,rfl,rfl⟩:=hI
 have ok:=BU ht hl i.toNat (by omega)
 have l1:=ok.tl
 have l2:=ok.r4
 simp (disch:=omega) only [RR,hp1 _ _ (rN t i.toNat).1 _ (by omega),hf1 _ _ (rN t i.toNat).1 _ (by omega),List.length_cons,List.length_nil]
 refine⟨fun h3=> ?_,fun h3=> ?_⟩
 ·have hp:=Ke ht hl (n:=i.toNat) (by omega)
  rw [show((i.toNat:Nat):Int)=i by omega]at hp
  rw [if_neg (by omega)]
  have e:(i+1).toNat=i.toNat+1:=by omega
  have e2:((i.toNat:Nat):Int)=i:=by omega
  refine⟨by omega,⟨by omega,by omega,rfl,?_,?_⟩,by omega⟩
  ·rw [e,CF,e2]
  ·rw [e,CF,e2]
 ·rw [show i.toNat=4 by omega]
theorem apR (a:List (List aj)) (h0:0<a.length) (h1:a.length<1000000000):Y4 (std 0) (a,()) (fun y=>y=(a,a,())):=by
 dsimp only [Y4,Alg.cl,Alg.cg,Alg.rb,Alg.bd,Alg.l1,Tup.q,Tup.o]
 simp (disch:=omega) only [RR,List.length_nil]
 exact⟨by omega,by omega,rfl⟩
theorem apS {p2:List Atom×Unit→Bool} {f2:List Atom×Unit→List Atom×Unit} (hp2:∀a,ShT a→p2 (a,())=true) (hf2:∀a,ShT a→f2 (a,())=(a,()))
  {p1:List Atom×Bool×Unit→Bool} {f1:List Atom×Bool×Unit→List Atom×Bool×List (List aj)×Unit} (hp1:∀(t:List Atom) fl,aF t→t.length≤196→p1 (t,fl,())=true) (hf1:∀(t:List Atom) fl,aF t→t.length≤196→f1 (t,fl,())=((rN t 4).1,fl,(rN t 4).2,())):
  YW (std 0) p2 f2 p1 f1 () (fun y=>y.1=t4):=by
 have s4:ShT t4:=UZ.1.sh
 unfold t4 at s4 ⊢
 dsimp only [YW,Alg.cl,Alg.cg,Alg.rb,Alg.bd,Alg.l1,Tup.q,Tup.o]
 simp (disch:=omega) only [RR,hp1 [] false vP (by simp),hf1 [] false vP (by simp),hp2 _ s4,hf2 _ s4]
theorem apT {p1:List aj×Unit→Bool} {f1:List aj×Unit→Int×Bool×Unit} (hp1:∀a,Sh a→p1 (a,())=true) (hf1:∀a,Sh a→f1 (a,())=((bM a).1,(bM a).2,()))
  {p2:List aj×Unit→Bool} {f2:List aj×Unit→Bool×Unit} (hp2:∀a,Sh a→p2 (a,())=true) (hf2:∀a,Sh a→f2 (a,())=(bp (aL a),()))
  {p3:List aj×List aj×Unit→Bool} {f3:List aj×List aj×Unit→Int×Unit} (hp3:∀a b,Sh a→p3 (a,b,())=true) (hf3:∀a b,Sh a→f3 (a,b,())=(eZ a b,()))
  {p4:Sym×Unit→Bool} {f4:Sym×Unit→Int×Int×List Ev×List (List aj)×List aj×List aj×Unit} (hp4:∀s,ShY s→p4 (s,())=true) (hf4:∀s,ShY s→f4 (s,())=(s.fin,s.k,s.events,s.regs,s.x,s.y,()))
  {p5:List aj×List aj×Unit→Bool} {f5:List aj×List aj×Unit→Bool×Unit} (hp5:∀a b,Sh a→p5 (a,b,())=true) (hf5:∀a b,Sh a→f5 (a,b,())=(decide (eZ a b=0),()))
  {p6:Int×Int×Int×Unit→Bool} {f6:Int×Int×Int×Unit→Bool×Unit} (hp6:∀r a b,p6 (r,a,b,())=true) (hf6:∀r a b,f6 (r,a,b,())=(inB a 0 65535&&inB b 0 65535&& (decide (r=1∧a=b∨r=2∧a<b)),()))
  (s:Sym) (n:Int) (hs:ShY s) (h0:0≤s.fin) (h1:s.fin≤4):Zt (std 0) p1 f1 p2 f2 p3 f3 p4 f4 p5 f5 p6 f6 (s,n,()) (fun y=>y=(symEnd s n,())):=by
 dsimp only [Zt,Alg.cl,Alg.cg,Alg.rb,Alg.bd,Alg.l1,Tup.q,Tup.o]
 simp (disch:=omega) only [RR,RB,hp1 _ hs.x,hf1 _ hs.x,hp1 _ hs.y,hf1 _ hs.y,hp2 _ hs.x,hf2 _ hs.x,hp2 _ hs.y,hf2 _ hs.y,hp3 _ _ hs.x,hf3 _ _ hs.x,hp4 s hs,hf4 s hs,hp5 _ _ hs.x,hf5 _ _ hs.x,hp6,hf6]
 have xy:eZ s.x s.y=0↔s.x=s.y:=iJ
 have rx:(bM s.x).2=true→inB (bM s.x).1 0 65535=true:=fun h=>dF.2 (rJ h).2.2
 have ry:(bM s.y).2=true→inB (bM s.y).1 0 65535=true:=fun h=>dF.2 (rJ h).2.2
 unfold symEnd
 refine⟨fun h=> ?_,fun h=>⟨fun g=> ?_,fun g=>⟨fun k=> ?_,fun k=>⟨fun l=>⟨fun m=> ?_,fun m=> ?_⟩,fun l=>⟨fun m=> ?_,fun m=> ?_⟩⟩⟩⟩⟩
 ·rw [if_pos (by rw [nu,Bool.and_eq_false_iff];exact h)];rfl
 all_goals rw [if_neg (by rw [nu,h.1,h.2];simp)]
 ·rw [if_pos g]
 all_goals rw [if_neg (show¬(s.fin=2∧(bM s.x).2=true) by
  rintro⟨a,b⟩;rw [decide_eq_true a,b]at g;cases g)]
 ·rw [if_pos k]
 all_goals rw [if_neg (show¬(s.fin≠3∧s.fin≠4) by
  rintro⟨a,b⟩;rw [decide_eq_false a,decide_eq_false b]at k;cases k)]
 ·rw [if_pos (by rw [←xy];exact l),if_neg]
  rintro(⟨q1,q2⟩ | ⟨⟨q1,q2⟩,q3⟩)
  ·have:=m.1;rw [decide_eq_true (xy.2 q1),decide_eq_true q2]at this;cases this
  ·have:=m.2
   rw [q1,q2,rx q1,ry q2,decide_eq_true (by omega)]at this;cases this
 ·rw [if_pos (by rw [←xy];exact l),if_pos]
  rcases m with⟨q1,q2⟩ | ⟨q1,_,q3⟩
  ·exact Or.inl ⟨xy.1 q1,q2⟩
  ·exact Or.inr ⟨q1,by omega⟩
 all_goals rw [if_neg (show¬(s.x=s.y∨(bM s.x).2=true∧(bM s.y).2=true) by
  rintro(q | ⟨q1,q2⟩)
  ·exact l.1 (xy.2 q)
  ·have:=l.2;rw [q1,q2]at this;cases this)]
 ·rw [if_pos m]
 ·rw [if_neg]
  rintro⟨a,b⟩;rw [decide_eq_true a,decide_eq_true b]at m;cases m
end Go.TX.F
namespace Go.TX.F
open Go Go.AE Go.TX
noncomputable def SW (t:List Atom) (b:Blk) (i:Nat):SS:=(b.ops.take i).foldl stp (s0 t)
structure At (t:List Atom) (b:Blk) (i:Nat) (ld inn:Int) (tb:List Atom) (V:List (List aj)) (ev:List Ev) (rg:List (List aj)):Prop where
 ld:ld=(SW t b i).ld
 inn:inn=(SW t b i).inn
 tb:tb=(SW t b i).t
 V:V=(SW t b i).vals++List.replicate (b.ops.length-i) []
 ev:ev=(SW t b i).evs
 rg:rg=(SW t b i).regs
theorem At.atJ {t:List Atom} {b:Blk} {i:Nat} {ld inn:Int} {tb:List Atom} {V:List (List aj)} {ev:List Ev} {rg:List (List aj)} (h:At t b i ld inn tb V ev rg) (hv:(SW t b i).vals.length=i) (hi:i≤b.ops.length):V.length=b.ops.length:=by
 rw [h.V,List.length_append,List.length_replicate,hv];omega
theorem U0 (t:List Atom):∀(l:List IOp) (s:SS),(l.foldl stp s).evs.length≤s.evs.length+l.length
 | [],s=>Nat.le_refl _
 | o::r,s=>by
  rw [List.foldl_cons,List.length_cons]
  have h1:=U0 t r (stp s o)
  have h2:(stp s o).evs.length≤s.evs.length+1:=by
   show(nE s o).length≤_
   unfold nE;split
   ·rw [List.length_append];exact Nat.le_refl _
   ·omega
  omega
theorem aav {t:List Atom} {b:Blk} (i:Nat) (hi:i≤b.ops.length):(SW t b i).evs.length≤i:=by
 have:=U0 t (b.ops.take i) (s0 t)
 rw [List.length_take,Nat.min_eq_left hi]at this
 show((b.ops.take i).foldl stp (s0 t)).evs.length≤i
 have e:(s0 t).evs.length=0:=rfl
 omega
theorem U1 {t:List Atom} {b:Blk} {i:Nat} (hi:i<b.ops.length):SW t b (i+1)=stp (SW t b i) (b.ops.getD i default):=by
 unfold SW;rw [Sq _ _ hi,getD_lt hi]
theorem At.next {t:List Atom} {b:Blk} {i:Nat} {ld inn:Int} {tb:List Atom} {V:List (List aj)} {ev:List Ev} {rg:List (List aj)} (h:At t b i ld inn tb V ev rg) (hv:(SW t b i).vals.length=i) (hi:i<b.ops.length) {o:IOp} (ho:b.ops.getD i default=o)
  {ld' aaw:Int} {tb':List Atom} {V':List (List aj)} {ev':List Ev} {rg':List (List aj)} (h1:ld'=if o.kind=4 then ld+1 else ld) (h2:aaw=if o.kind=6 then inn+1 else inn) (h3:tb'=nT (SW t b i) o) (h4:V'=V.set i (nV (SW t b i) o)) (h5:ev'=nE (SW t b i) o) (h6:rg'=nR (SW t b i) o):At t b (i+1) ld' aaw tb' V' ev' rg':=by
 have e:=U1 (t:=t) hi
 rw [ho]at e
 refine⟨?_,?_,?_,?_,?_,?_⟩<;>rw [e]
 ·rw [h1,h.ld];rfl
 ·rw [h2,h.inn];rfl
 ·exact h3
 ·rw [h4,h.V]
  show _=((SW t b i).vals++ [nV (SW t b i) o])++_
  rw [List.set_append_right _ _ (by omega),hv,Nat.sub_self,show b.ops.length-i=(b.ops.length- (i+1))+1 by omega,List.replicate_succ,List.set_cons_zero,List.append_assoc];rfl
 ·exact h5
 ·exact h6
set_option maxHeartbeats 1000000 in
theorem apU {p1:Blk×Unit→Bool} {f1:Blk×Unit→Bool×Bool×Bool×Unit} (hp1:∀b,p1 (b,())=true) (hf1:∀b,f1 (b,())=(decide (b.fin≠1),decide (3≤b.fin),decide (b.fin≠2),()))
  {p2:Blk×Unit→Bool} {f2:Blk×Unit→Bool×Unit} (hp2:∀b,b.ops.length<1000000000→p2 (b,())=true) (hf2:∀b,b.ops.length<1000000000→f2 (b,())=(bp (kX b),()))
  {p3:IOp×Unit→Bool} {f3:IOp×Unit→Bool×Unit} (hp3:∀o,p3 (o,())=true) (hf3:∀o,f3 (o,())=(decide (evO o),()))
  {p4:IOp×Unit→Bool} {f4:IOp×Unit→Bool×Bool×Bool×Bool×Unit} (hp4:∀o,p4 (o,())=true) (hf4:∀o,f4 (o,())=(decide (hX o),decide (hY o),decide (hK o),decide (evO o),()))
  {p5:Int×Unit→Bool} {f5:Int×Unit→List aj×Unit} (hp5:∀n,p5 (n,())=true) (hf5:∀n,f5 (n,())=(dA n,()))
  {p6:Sym×Int×Unit→Bool} {f6:Sym×Int×Unit→Sym×Unit} (hp6:∀s n,ShY s→0≤s.fin→s.fin≤4→p6 (s,n,())=true) (hf6:∀s n,ShY s→0≤s.fin→s.fin≤4→f6 (s,n,())=(symEnd s n,()))
  {p7:List Atom×Unit→Bool} {f7:List Atom×Unit→Bool×Unit} (hp7:∀a,ShT a→p7 (a,())=true) (hf7:∀a,ShT a→f7 (a,())=(bp (aF a),()))
  {p8:List Atom×Unit→Bool} {f8:List Atom×Unit→List Atom×Unit} (hp8:∀a,ShT a→p8 (a,())=true) (hf8:∀a,ShT a→f8 (a,())=(a,()))
  {p9:List Atom×Int×List aj×List aj×Unit→Bool} {f9:List Atom×Int×List aj×List aj×Unit→List Atom×List aj×Bool×Unit} (hp9:∀(t:List Atom) op x y,t.length<1000000000→Sh x→Sh y→p9 (t,op,x,y,())=true)
  (hf9:∀(t:List Atom) op x y,t.length<1000000000→Sh x→Sh y→(f9 (t,op,x,y,())).1=(tDo t op x y).1∧(f9 (t,op,x,y,())).2.1=(tDo t op x y).2∧(f9 (t,op,x,y,())).2.2.1=tOk t op x y)
  {p10:Int×Int×List Atom×Bool×Unit→Bool} {f10:Int×Int×List Atom×Bool×Unit→List aj×List Atom×Bool×Unit} (acX:∀kd k (t:List Atom) fl,t.length<1000000000→p10 (kd,k,t,fl,())=true)
  (aiN:∀kd k (t:List Atom) fl,t.length<1000000000→f10 (kd,k,t,fl,())=if(aX t ⟨kd,k,[],[]⟩).2<0 then([],t,true,())else(fF (aX t ⟨kd,k,[],[]⟩).2,(aX t ⟨kd,k,[],[]⟩).1,fl,()))
  {p11:List Atom×Bool×Unit→Bool} {f11:List Atom×Bool×Unit→List Atom×Bool×List (List aj)×Unit} (acY:∀(t:List Atom) fl,aF t→t.length≤196→p11 (t,fl,())=true) (acZ:∀(t:List Atom) fl,aF t→t.length≤196→f11 (t,fl,())=((rN t 4).1,fl,(rN t 4).2,()))
  {p12:List (List aj)×Unit→Bool} {f12:List (List aj)×Unit→List (List aj)×List (List aj)×Unit} (Sw:∀a:List (List aj),0<a.length→a.length<1000000000→p12 (a,())=true) (Sy:∀a:List (List aj),0<a.length→a.length<1000000000→f12 (a,())=(a,a,()))
  (t:List Atom) (b:Blk) (ht:ShT t) (hb:b.ops.length<1000000000):Zu (std 0) p1 f1 p2 f2 p3 f3 p4 f4 p5 f5 p6 f6 p7 f7 p8 f8 p9 f9 p10 f10 p11 f11 p12 f12 (t,b,()) (fun y=>y=((bK t b).1,(bK t b).2,())):=by
 have hlt:=ht.1
 dsimp only [Zu,Alg.cl,Alg.cg,Alg.rb,Alg.bd,Alg.l1,Tup.q,Tup.o]
 simp (disch:=omega) only [RR,RB,hp7 t ht,hf7 t ht,hp2 b hb,hf2 b hb]
 by_cases c:aF t∧t.length≤100∧kX b
 case neg=>
  refine⟨fun _=> ?_,fun h=> ?_⟩
  ·unfold bK;rw [bN c];rfl
  ·exact absurd ⟨aY.1 h.1.1,by omega,aY.1 h.2⟩ c
 obtain⟨c1,c2,c3⟩:=c
 simp (disch:=omega) only [RR,dh c1,dh c3,acY t false c1 (by omega),acZ t false c1 (by omega)]
 have sz:=c3.sz
 have hop:=c3.op
 have hk3:=c3.k3
 have i0:=I6 c1 (by omega)
 have siw:∀j:Nat,j≤b.ops.length→SI (t.length+4) j (SW t b j):=fun j hj=>by
  have:=(yE (b.ops.take j) 0 (s0 t) i0 (fun o ho=>hk3 o (List.mem_of_mem_take ho)) (by rw [List.length_take];omega) (by rw [List.length_take];omega)).1
  rw [List.length_take,Nat.min_eq_left hj,Nat.zero_add]at this;exact this
 refine⟨fun h=>absurd h (by omega),fun _=>⟨by omega,by omega,?_⟩⟩
 refine ak (fun(y:Int×Int×List IOp×Int×Int×Blk×Int×Int×List Atom×Bool×Int×Int×List (List aj)×List Ev×List (List aj)×Unit)=>y.2.2.2.2.2.1=b∧y.2.2.1=b.ops∧y.2.2.2.1=b.ops.length∧y.2.2.2.2.2.2.2.2.2.1=false∧y.2.2.2.2.2.2.2.2.2.2.1=b.fin∧y.2.2.2.2.2.2.2.2.2.2.2.1=b.k∧
   0≤y.2.2.2.2.1∧y.2.2.2.2.1≤b.ops.length∧At t b y.2.2.2.2.1.toNat y.1 y.2.1 y.2.2.2.2.2.2.2.2.1 y.2.2.2.2.2.2.2.2.2.2.2.2.1 y.2.2.2.2.2.2.2.2.2.2.2.2.2.1 y.2.2.2.2.2.2.2.2.2.2.2.2.2.2.1) (fun y=>(b.ops.length-y.2.2.2.2.1).toNat)
  ⟨rfl,rfl,rfl,rfl,rfl,rfl,by simp,by simp,⟨rfl,rfl,rfl,rfl,rfl,rfl⟩⟩ ?_
 rintro⟨(ld:Int),(inn:Int),(ops:List IOp),(n:Int),(i:Int),(b':Blk),(z1:Int),(z2:Int),(tb:List Atom),(fl:Bool),(fin:Int),(kk:Int),(V:List (List aj)),(ev:List Ev),(rg:List (List aj)),⟨⟩⟩ hI
 dsimp only at hI ⊢
 obtain⟨e1,e2,e3,e4,e5,e6,h1,h2,hA⟩:=hI
 subst e1 e2 e3 e4 e5 e6
 have hl:V.length=b'.ops.length:=hA.atJ (siw i.toNat (by omega)).vl (by omega)
 have si:=siw i.toNat (by omega)
 obtain⟨a1,a2,a3,a4,a5,a6⟩:=hA
 have tl:tb.length<1000000000:=by rw [a3];have:=si.tl;omega
 have r4:rg.length=4:=by rw [a6];exact si.r4
 have evl:ev.length≤i.toNat:=by rw [a5];exact aav i.toNat (by omega)
 by_cases h7:i<b'.ops.length
 case neg=>
  have en:=c3.en
  have hf:=en.f
  have hpc:=c3.pc
  have hln:=c3.ln
  have ein:i.toNat=b'.ops.length:=by omega
  have eS:SW t b' i.toNat=gP t b':=by unfold SW gP;rw [ein,List.take_of_length_le (Nat.le_refl _)]
  rw [eS]at a1 a2 a3 a4 a5 a6 si
  have eV:V=(gP t b').vals:=by rw [a4,ein,Nat.sub_self];simp
  clear a4
  have pk:=Ki (b:=b') si
  have eR:=rM c1 c2 c3
  have sh:ShY (zq b' (gP t b')):=by
   have i0:=I6 c1 (by omega)
   have hs:=Kh b'.ops 0 (s0 t) i0 hk3 (by omega) (by omega) ⟨by simp [s0],fun e he=>absurd he (by simp [s0])⟩
   exact⟨⟨by have:=hs.1;show(b'.ops.foldl stp (s0 t)).evs.length<_;omega,hs.2⟩,si.regs,pk.1.sh,pk.2.sh⟩
  have st:=si.tok.sh
  have q6:=hp6 (zq b' (gP t b')) (b'.pc+b'.len) sh (by show 0≤b'.fin;omega) hf.2
  have r6:=hf6 (zq b' (gP t b')) (b'.pc+b'.len) sh (by show 0≤b'.fin;omega) hf.2
  subst a1 a2 a3 a5 a6 eV
  have x1:=en.x1
  have y1:=en.y1
  have sl:=si.vl
  have E:zq b' (gP t b')=⟨(gP t b').evs,(gP t b').regs,b'.fin,if b'.fin=1 then []else(((gP t b').vals).getD (b'.x).toNat default),if 3≤b'.fin then(((gP t b').vals).getD (b'.y).toNat default)else [],b'.k⟩:=rfl
  rw [E]at q6 r6
  rcases(by omega:b'.fin=1∨b'.fin=2∨3≤b'.fin)with c | c | c
  ·have n2:¬3≤b'.fin:=by omega
   rw [if_pos c,if_neg n2]at q6 r6
   simp (disch:=omega) only [RR,RB,h7,hp1,hf1,decide_eq_false n2,c,ne_eq,not_true_eq_false,decide_false,hp8 _ st,hf8 _ st]
   rw [c]at q6 r6
   rw [eR,E,if_pos c,if_neg n2,c]
   exact⟨fun h=>absurd h (by omega),fun _=>⟨q6,by rw [r6]⟩⟩
  ·have n1:b'.fin≠1:=by omega
   have n2:¬3≤b'.fin:=by omega
   obtain⟨v1,v2,_⟩:=x1 n1
   rw [if_neg n1,if_neg n2]at q6 r6
   simp (disch:=omega) only [RR,RB,h7,hp1,hf1,decide_eq_true n1,decide_eq_false n2,hp8 _ st,hf8 _ st]
   rw [eR,E,if_neg n1,if_neg n2]
   exact⟨v1,by omega,v1,by omega,q6,by rw [r6]⟩
  ·have n1:b'.fin≠1:=by omega
   obtain⟨v1,v2,_⟩:=x1 n1
   obtain⟨w1,w2,_⟩:=y1 c
   rw [if_neg n1,if_pos c]at q6 r6
   simp (disch:=omega) only [RR,RB,h7,hp1,hf1,decide_eq_true n1,decide_eq_true c,hp8 _ st,hf8 _ st]
   rw [eR,E,if_neg n1,if_pos c]
   exact⟨v1,by omega,v1,by omega,w1,by omega,w1,by omega,q6,by rw [r6]⟩
 have hok:=hop i h1 h7
 have nxt:=fun {ld' aaw:Int} {tb':List Atom} {V':List (List aj)} {ev':List Ev} {rg':List (List aj)}=>At.next (t:=t) (b:=b') (i:=i.toNat) (o:=((b'.ops).getD (i).toNat default)) ⟨a1,a2,a3,a4,a5,a6⟩ si.vl (by omega) rfl (ld':=ld') (aaw:=aaw) (tb':=tb') (V':=V') (ev':=ev') (rg':=rg')
 have ei:(i+1).toNat=i.toNat+1:=by omega
 have vx:∀j:Int,0≤j→j<i→((V).getD (j).toNat default)=(((SW t b' i.toNat).vals).getD (j).toNat default):=fun j j1 j2=>by
  have:=si.vl
  rw [a4,getD_lt (by rw [List.length_append];omega),getD_lt (by omega),List.getElem_append_left]
 have ex:hX ((b'.ops).getD (i).toNat default)→((V).getD ((((b'.ops).getD (i).toNat default)).x).toNat default)=xOf (SW t b' i.toNat) ((b'.ops).getD (i).toNat default):=fun h=>by
  unfold xOf;rw [if_pos h];exact vx _ (hok.x1 h).1 (hok.x1 h).2.1
 have ey:hY ((b'.ops).getD (i).toNat default)→((V).getD ((((b'.ops).getD (i).toNat default)).y).toNat default)=yOf (SW t b' i.toNat) ((b'.ops).getD (i).toNat default):=fun h=>by
  unfold yOf;rw [if_pos h];exact vx _ (hok.y1 h).1 (hok.y1 h).2.1
 have v0:V.set i.toNat []=V:=by
  have:=si.vl
  rw [a4,List.set_append_right _ _ (by omega),this,Nat.sub_self,show b'.ops.length-i.toNat=(b'.ops.length- (i.toNat+1))+1 by omega,List.replicate_succ,List.set_cons_zero]
 obtain⟨sn,so⟩:=Hl (o:=((b'.ops).getD (i).toNat default)) si hok.k3 (by omega) (by omega)
 have gl:=si.ld
 have gi:=si.inn
 have shx:=(si.x ((b'.ops).getD (i).toNat default)).1.sh
 have shy:=(si.y ((b'.ops).getD (i).toNat default)).1.sh
 generalize hs:SW t b' i.toNat=s at*
 generalize ho:((b'.ops).getD (i).toNat default)=o at*
 have kd:=hok.kd
 subst a1 a2 a3 a5 a6
 have L0:o.kind≠4→s.ld=if o.kind=4 then s.ld+1 else s.ld:=fun h=>by rw [if_neg h]
 have I0:o.kind≠6→s.inn=if o.kind=6 then s.inn+1 else s.inn:=fun h=>by rw [if_neg h]
 have T0:o.kind≠3→o.kind≠4→o.kind≠6→s.t=nT s o:=fun h3 h4 h6=>by unfold nT;rw [if_neg h3,if_neg (by omega)]
 have R0:o.kind≠8→s.regs=nR s o:=fun h=>by unfold nR;rw [if_neg h]
 have E0:¬evO o→s.evs=nE s o:=fun h=>by unfold nE;rw [if_neg h]
 have V0:o.kind=5∨o.kind=7∨o.kind=8→V=V.set i.toNat (nV s o):=fun h=>by
  rw [show nV s o=[] by unfold nV;rw [if_neg (by omega),if_neg (by omega),if_neg (by omega),if_neg (by omega)],v0]
 have P0:∀kd k,0≤(aX s.t ⟨kd,k,[],[]⟩).2→f10 (kd,k,s.t,false,())=(fF (aX s.t ⟨kd,k,[],[]⟩).2,(aX s.t ⟨kd,k,[],[]⟩).1,false,()):=fun kd k h=>by
  rw [aiN _ _ _ _ tl,if_neg (by omega)]
 have y0:¬hY o→yOf s o=[]:=fun h=>by unfold yOf;rw [if_neg h]
 have x0:¬hX o→xOf s o=[]:=fun h=>by unfold xOf;rw [if_neg h]
 rcases(by omega:o.kind=1∨o.kind=2∨o.kind=3∨o.kind=4∨o.kind=5∨o.kind=6∨o.kind=7∨o.kind=8)with c | c | c | c | c | c | c | c
 ·have dX:decide (hX o)=false:=decide_eq_false (by unfold hX;omega)
  have dY:decide (hY o)=false:=decide_eq_false (by unfold hY;omega)
  have dE:decide (evO o)=false:=decide_eq_false (by unfold evO;omega)
  have N:At t b' (i.toNat+1) s.ld s.inn s.t (V.set i.toNat (dA o.k)) s.evs s.regs:=nxt (L0 (by omega)) (I0 (by omega)) (T0 (by omega) (by omega) (by omega)) (by unfold nV;rw [if_pos c]) (E0 (by unfold evO;omega)) (R0 (by omega))
  simp (disch:=omega) only [RR,RB,ho,h7,hp4,hf4,hp3,hf3,dX,dY,dE,c,Int.reduceEq,List.length_cons,List.length_nil,hp5,hf5]
  repeat' apply And.intro
  all_goals first | omega | (rw [ei];exact N)
 ·have dX:decide (hX o)=false:=decide_eq_false (by unfold hX;omega)
  have dY:decide (hY o)=false:=decide_eq_false (by unfold hY;omega)
  have dE:decide (evO o)=false:=decide_eq_false (by unfold evO;omega)
  have k2:=hok.k2 (Or.inl c)
  have N:At t b' (i.toNat+1) s.ld s.inn s.t (V.set i.toNat ((s.regs).getD (o.k).toNat default)) s.evs s.regs:=nxt (L0 (by omega)) (I0 (by omega)) (T0 (by omega) (by omega) (by omega)) (by unfold nV;rw [if_neg (by omega),if_pos c]) (E0 (by unfold evO;omega)) (R0 (by omega))
  simp (disch:=omega) only [RR,RB,ho,h7,hp4,hf4,hp3,hf3,dX,dY,dE,c,Int.reduceEq,List.length_cons,List.length_nil,r4]
  repeat' apply And.intro
  all_goals first | omega | (rw [ei];exact N)
 ·have dX:decide (hX o)=true:=decide_eq_true (by unfold hX;omega)
  have dY:decide (hY o)=true:=decide_eq_true (by unfold hY;omega)
  have dE:decide (evO o)=false:=decide_eq_false (by unfold evO;omega)
  have v1:=hok.x1 (by unfold hX;omega)
  have v2:=hok.y1 (by unfold hY;omega)
  have u1:=v1.2.1
  have u2:=v2.2.1
  have w1:=v1.1
  have w2:=v2.1
  obtain⟨d1,d2,d3⟩:=hf9 s.t o.k _ _ tl shx shy
  have d4:=(so.d c).ok
  have N:At t b' (i.toNat+1) s.ld s.inn (tDo s.t o.k (xOf s o) (yOf s o)).1 (V.set i.toNat (tDo s.t o.k (xOf s o) (yOf s o)).2) s.evs s.regs:=nxt (L0 (by omega)) (I0 (by omega)) (by unfold nT;rw [if_pos c]) (by unfold nV;rw [if_neg (by omega),if_neg (by omega),if_pos c]) (E0 (by unfold evO;omega)) (R0 (by omega))
  simp (disch:=omega) only [RR,RB,ho,h7,hp4,hf4,hp3,hf3,dX,dY,dE,c,Int.reduceEq,List.length_cons,List.length_nil,ex (by unfold hX;omega),ey (by unfold hY;omega),hp9 s.t o.k _ _ tl shx shy,d1,d2,d3,d4]
  repeat' apply And.intro
  all_goals first | omega | (rw [ei];exact N)
 ·have dX:decide (hX o)=true:=decide_eq_true (by unfold hX;omega)
  have dY:decide (hY o)=false:=decide_eq_false (by unfold hY;omega)
  have dE:decide (evO o)=true:=decide_eq_true (by unfold evO;omega)
  have v1:=hok.x1 (by unfold hX;omega)
  have u1:=v1.2.1
  have w1:=v1.1
  have ea:aOf s o=⟨2,s.ld,[],[]⟩:=by unfold aOf;rw [if_pos c]
  have pp:=so.p (Or.inl c)
  rw [ea]at pp
  have N:At t b' (i.toNat+1) (s.ld+1) s.inn (aX s.t ⟨2,s.ld,[],[]⟩).1 (V.set i.toNat (fF (aX s.t ⟨2,s.ld,[],[]⟩).2)) (s.evs++ [⟨4,o.at_,xOf s o,[],s.regs⟩]) s.regs:=nxt (by rw [if_pos c]) (I0 (by omega)) (by unfold nT;rw [if_neg (by omega),if_pos (Or.inl c),ea]) (by unfold nV;rw [if_neg (by omega),if_neg (by omega),if_neg (by omega),if_pos (Or.inl c),ea]) (by unfold nE;rw [if_pos (by unfold evO;omega),if_pos (Or.inl c),c,y0 (by unfold hY;omega)]) (R0 (by omega))
  simp (disch:=omega) only [RR,RB,ho,h7,hp4,hf4,hp3,hf3,dX,dY,dE,c,Int.reduceEq,List.length_cons,List.length_nil,ex (by unfold hX;omega),Sw s.regs (by omega) (by omega),Sy s.regs (by omega) (by omega),acX 2 s.ld s.t false tl,P0 2 s.ld pp]
  repeat' apply And.intro
  all_goals first | omega | (rw [ei];exact N)
 ·have dX:decide (hX o)=true:=decide_eq_true (by unfold hX;omega)
  have dY:decide (hY o)=true:=decide_eq_true (by unfold hY;omega)
  have dE:decide (evO o)=true:=decide_eq_true (by unfold evO;omega)
  have v1:=hok.x1 (by unfold hX;omega)
  have v2:=hok.y1 (by unfold hY;omega)
  have u1:=v1.2.1
  have u2:=v2.2.1
  have w1:=v1.1
  have w2:=v2.1
  have N:At t b' (i.toNat+1) s.ld s.inn s.t V (s.evs++ [⟨5,o.at_,xOf s o,yOf s o,s.regs⟩]) s.regs:=nxt (L0 (by omega)) (I0 (by omega)) (T0 (by omega) (by omega) (by omega)) (V0 (by omega)) (by unfold nE;rw [if_pos (by unfold evO;omega),if_pos (Or.inr c),c]) (R0 (by omega))
  simp (disch:=omega) only [RR,RB,ho,h7,hp4,hf4,hp3,hf3,dX,dY,dE,c,Int.reduceEq,List.length_cons,List.length_nil,ex (by unfold hX;omega),ey (by unfold hY;omega),Sw s.regs (by omega) (by omega),Sy s.regs (by omega) (by omega)]
  repeat' apply And.intro
  all_goals first | omega | (rw [ei];exact N)
 ·have dX:decide (hX o)=false:=decide_eq_false (by unfold hX;omega)
  have dY:decide (hY o)=false:=decide_eq_false (by unfold hY;omega)
  have dE:decide (evO o)=true:=decide_eq_true (by unfold evO;omega)
  have ea:aOf s o=⟨3,s.inn,[],[]⟩:=by unfold aOf;rw [if_neg (by omega)]
  have pp:=so.p (Or.inr c)
  rw [ea]at pp
  have N:At t b' (i.toNat+1) s.ld (s.inn+1) (aX s.t ⟨3,s.inn,[],[]⟩).1 (V.set i.toNat (fF (aX s.t ⟨3,s.inn,[],[]⟩).2)) (s.evs++ [⟨6,o.at_,[],[],[]⟩]) s.regs:=nxt (L0 (by omega)) (by rw [if_pos c]) (by unfold nT;rw [if_neg (by omega),if_pos (Or.inr c),ea]) (by unfold nV;rw [if_neg (by omega),if_neg (by omega),if_neg (by omega),if_pos (Or.inr c),ea]) (by unfold nE;rw [if_pos (by unfold evO;omega),if_neg (by omega),c,x0 (by unfold hX;omega),y0 (by unfold hY;omega)]) (R0 (by omega))
  simp (disch:=omega) only [RR,RB,ho,h7,hp4,hf4,hp3,hf3,dX,dY,dE,c,Int.reduceEq,List.length_cons,List.length_nil,acX 3 s.inn s.t false tl,P0 3 s.inn pp]
  repeat' apply And.intro
  all_goals first | omega | (rw [ei];exact N)
 ·have dX:decide (hX o)=true:=decide_eq_true (by unfold hX;omega)
  have dY:decide (hY o)=false:=decide_eq_false (by unfold hY;omega)
  have dE:decide (evO o)=true:=decide_eq_true (by unfold evO;omega)
  have v1:=hok.x1 (by unfold hX;omega)
  have u1:=v1.2.1
  have w1:=v1.1
  have N:At t b' (i.toNat+1) s.ld s.inn s.t V (s.evs++ [⟨7,o.at_,xOf s o,[],[]⟩]) s.regs:=nxt (L0 (by omega)) (I0 (by omega)) (T0 (by omega) (by omega) (by omega)) (V0 (by omega)) (by unfold nE;rw [if_pos (by unfold evO;omega),if_neg (by omega),c,y0 (by unfold hY;omega)]) (R0 (by omega))
  simp (disch:=omega) only [RR,RB,ho,h7,hp4,hf4,hp3,hf3,dX,dY,dE,c,Int.reduceEq,List.length_cons,List.length_nil,ex (by unfold hX;omega)]
  repeat' apply And.intro
  all_goals first | omega | (rw [ei];exact N)
 ·have dX:decide (hX o)=true:=decide_eq_true (by unfold hX;omega)
  have dY:decide (hY o)=false:=decide_eq_false (by unfold hY;omega)
  have dE:decide (evO o)=false:=decide_eq_false (by unfold evO;omega)
  have v1:=hok.x1 (by unfold hX;omega)
  have u1:=v1.2.1
  have w1:=v1.1
  have k2:=hok.k2 (Or.inr c)
  have N:At t b' (i.toNat+1) s.ld s.inn s.t V s.evs (s.regs.set o.k.toNat (xOf s o)):=nxt (L0 (by omega)) (I0 (by omega)) (T0 (by omega) (by omega) (by omega)) (V0 (by omega)) (E0 (by unfold evO;omega)) (by unfold nR;rw [if_pos c])
  simp (disch:=omega) only [RR,RB,ho,h7,hp4,hf4,hp3,hf3,dX,dY,dE,c,Int.reduceEq,List.length_cons,List.length_nil,ex (by unfold hX;omega),r4]
  repeat' apply And.intro
  all_goals first | omega | (rw [ei];exact N)
end Go.TX.F
namespace Go.TX.F
open Go Go.AE Go.TX
def KB (l:List Ins):Prop:=∀i∈l,i.k<1000
theorem KB.at {l:List Ins} (h:KB l) (n:Nat):(l.getD n default).k<1000:=by
 by_cases h1:n<l.length
 ·rw [getD_lt h1];exact h _ (List.getElem_mem _)
 ·simp only [List.getD,List.getElem?_eq_none (by omega:l.length≤n)];decide
end Go.TX.F
namespace Go.TX.F
open Go Go.AE Go.TX
structure InD (m:Int) (b:List Int) (p:Int) (y:Int×Int×Int×Int×List Int×Int×Unit):Prop where
 b:y.2.2.2.2.1=b
 lo:p≤y.2.2.2.2.2.1
 hi:y.2.2.2.2.2.1≤p+m
 k:0≤y.2.2.2.1∧y.2.2.2.1≤255
structure LiD (b:List Int) (p:Int) (y:List Int×Int×List Ins×Unit):Prop where
 b:y.1=b
 lo:p≤y.2.1
 hi:y.2.1≤p+1000
 len:(y.2.2.1.length:Int)≤20
 k:KB y.2.2.1
theorem KB.app {l:List Ins} {i:Ins} (h:KB l) (h2:i.k≤255):KB (l++ [i]):=fun x hx=>by
 rw [List.mem_append,List.mem_singleton]at hx
 rcases hx with hx | rfl
 ·exact h x hx
 ·omega
end Go.TX.F
namespace Go.TX.F
open Go Go.AE Go.TX
@[reducible] def bk7 (b : Blk) : Int × Int × Int × Int × Int × Int × List IOp × Unit := (b.pc, b.len, b.fin, b.x, b.y, b.k, b.ops, ())
structure FE (b:Blk):Prop where
 f:1≤b.fin∧b.fin≤4
 x:b.fin≠1→0≤b.x∧b.x<b.ops.length
 y:3≤b.fin→0≤b.y∧b.y<b.ops.length
 y0:b.fin≤2→b.y=0
 p:0≤b.pc∧b.pc≤100∧0≤b.len∧b.len≤100
end Go.TX.F
namespace Go.TX.F
open Go Go.AE Go.TX
end Go.TX.F
namespace Go.TX.F
open Go Go.AE Go.TX
structure BkD (m:Int) (n:Nat) (b:List Int) (p:Int) (y:Int×Int×Int×Int×Int×Int×List Int×Int×List IOp×Unit):Prop where
 b:y.2.2.2.2.2.2.1=b
 lo:p≤y.2.2.2.2.2.2.2.1
 hi:y.2.2.2.2.2.2.2.1≤p+m
 len:y.2.2.2.2.2.2.2.2.1.length≤n
end Go.TX.F
namespace Go.TX.F
open Go Go.AE Go.TX
structure BoD (b:List Int) (p:Int) (y:Blk×List Int×Int×Unit):Prop where
 len:y.1.ops.length<100000
 b:y.2.1=b
 lo:p≤y.2.2.1
 hi:y.2.2.1≤p+5000
end Go.TX.F
namespace Go.TX.F
open Go Go.AE Go.TX
end Go.TX.F
namespace Go.TX.F
open Go Go.AE Go.TX
end Go.TX.F
namespace Go.TX.F
open Go Go.AE Go.TX
end Go.TX.F
namespace Go.TX.F
open Go Go.AE Go.TX
theorem adL (x y:IOp):ak6 .iop x y=decide (x=y):=rfl
theorem AU {P:Prop} [Decidable P]:decide P=bp P:=by unfold bp;congr
theorem adM (a b:List IOp) (ha:a.length<1000000000):Yj (std 0) (a,b,()) (fun y=>y=(bp (a=b),())):=by
 dsimp only [Yj,Alg.cl,Alg.cg,Alg.rb,Alg.bd,Alg.l1,Tup.q,Tup.o]
 simp (disch:=omega) only [RR]
 refine⟨fun h=> ?_,fun h=> ?_⟩
 ·rw [bN (fun e=>h (by rw [e]))]
 have hl:a.length=b.length:=by omega
 refine ak (fun(y:List IOp×List IOp×Int×Int×Unit)=>y.1=a∧y.2.1=b∧y.2.2.1=a.length∧0≤y.2.2.2.1∧y.2.2.2.1≤a.length∧All y.2.2.2.1 (fun i=>a.getD i.toNat default=b.getD i.toNat default)) (fun y=>(a.length-y.2.2.2.1).toNat) ⟨rfl,rfl,rfl,by simp,by simp,All.zero⟩ ?_
 rintro⟨(l1:List IOp),(l2:List IOp),(n:Int),(i:Int),⟨⟩⟩ hI
 dsimp only at hI ⊢
 obtain⟨rfl,rfl,rfl,h1,h2,h3⟩:=hI
 simp (disch:=omega) only [RR,adL]
 refine⟨fun h4=>⟨by omega,by omega,by omega,by omega,fun h5=> ?_,fun h5=>⟨⟨by omega,by omega,h3.snoc h5⟩,by omega⟩⟩,fun h4=> ?_⟩
 ·rw [bN]
  intro e;rw [e]at h5;exact h5 rfl
 ·rw [dh (mg hl (h3.le (by omega)))]
theorem apV {p1:List IOp×List IOp×Unit→Bool} {f1:List IOp×List IOp×Unit→Bool×Unit} (hp1:∀a b,a.length<1000000000→p1 (a,b,())=true) (hf1:∀a b,a.length<1000000000→f1 (a,b,())=(bp (a=b),())) (a b:Blk) (ha:a.ops.length<1000000000):Yk (std 0) p1 f1 (a,b,()) (fun y=>y=(bp (a=b),())):=by
 dsimp only [Yk,Alg.cl,Alg.cg,Alg.rb,Alg.bd,Alg.l1,Tup.q,Tup.o]
 simp (disch:=omega) only [RR,RB,hp1 _ _ ha,hf1 _ _ ha]
 simp only [AU,←nu]
 refine Prod.ext (lI ?_) rfl
 cases a;cases b;simp only [Blk.mk.injEq]
 constructor<;>(intro h;simp only [h,and_self])
theorem apW {p1:List aj×List aj×Unit→Bool} {f1:List aj×List aj×Unit→Bool×Unit} (hp1:∀a b,Sh a→p1 (a,b,())=true) (hf1:∀a b,Sh a→f1 (a,b,())=(decide (eZ a b=0),())) (a b:List aj) (ha:Sh a):Zv (std 0) p1 f1 (a,b,()) (fun y=>y=(decide (eZ a b=0),())):=by
 dsimp only [Zv,Alg.cl,Alg.cg,Alg.rb,Alg.bd,Alg.l1,Tup.q,Tup.o]
 simp (disch:=omega) only [RR,hp1 _ _ ha,hf1 _ _ ha]
theorem apX {p1:List aj×List aj×Unit→Bool} {f1:List aj×List aj×Unit→Bool×Unit} (hp1:∀a b,Sh a→p1 (a,b,())=true) (hf1:∀a b,Sh a→f1 (a,b,())=(decide (eZ a b=0),())) (a b:List (List aj)) (ha:ShP a):Zw (std 0) p1 f1 (a,b,()) (fun y=>y=(bp (a=b),())):=by
 have hlen:=ha.1
 dsimp only [Zw,Alg.cl,Alg.cg,Alg.rb,Alg.bd,Alg.l1,Tup.q,Tup.o]
 simp (disch:=omega) only [RR]
 refine⟨fun h=> ?_,fun h=> ?_⟩
 ·rw [bN (fun e=>h (by rw [e]))]
 have hl:a.length=b.length:=by omega
 refine ak (fun(y:List (List aj)×List (List aj)×Int×Int×Unit)=>y.1=b∧y.2.1=a∧y.2.2.1=a.length∧0≤y.2.2.2.1∧y.2.2.2.1≤a.length∧All y.2.2.2.1 (fun i=>a.getD i.toNat default=b.getD i.toNat default)) (fun y=>(a.length-y.2.2.2.1).toNat) ⟨rfl,rfl,rfl,by simp,by simp,All.zero⟩ ?_
 rintro⟨(l1:List (List aj)),(l2:List (List aj)),(n:Int),(i:Int),⟨⟩⟩ hI
 dsimp only at hI ⊢
 obtain⟨rfl,rfl,rfl,h1,h2,h3⟩:=hI
 simp (disch:=omega) only [RR,hp1 _ _ (ha.at _),hf1 _ _ (ha.at _),iJ]
 refine⟨fun h4=>⟨by omega,by omega,by omega,by omega,fun h5=> ?_,fun h5=>⟨⟨by omega,by omega,h3.snoc h5⟩,by omega⟩⟩,fun h4=> ?_⟩
 ·rw [bN]
  intro e;rw [e]at h5;exact h5 rfl
 ·rw [dh (mg hl (h3.le (by omega)))]
theorem apY {p1:List (List aj)×List (List aj)×Unit→Bool} {f1:List (List aj)×List (List aj)×Unit→Bool×Unit} (hp1:∀a b,ShP a→p1 (a,b,())=true) (hf1:∀a b,ShP a→f1 (a,b,())=(bp (a=b),())) (a b:List (List aj)) (ha:ShP a):Zx (std 0) p1 f1 (a,b,()) (fun y=>y=(bp (a=b),())):=by
 dsimp only [Zx,Alg.cl,Alg.cg,Alg.rb,Alg.bd,Alg.l1,Tup.q,Tup.o]
 simp (disch:=omega) only [RR,hp1 _ _ ha,hf1 _ _ ha]
theorem apZ {p1:List aj×List aj×Unit→Bool} {f1:List aj×List aj×Unit→Bool×Unit} (hp1:∀a b,Sh a→p1 (a,b,())=true) (hf1:∀a b,Sh a→f1 (a,b,())=(decide (eZ a b=0),())) {p2:List (List aj)×List (List aj)×Unit→Bool} {f2:List (List aj)×List (List aj)×Unit→Bool×Unit} (hp2:∀a b,ShP a→p2 (a,b,())=true) (hf2:∀a b,ShP a→f2 (a,b,())=(bp (a=b),())) (a b:Ev) (ha:ShE a):Zy (std 0) p1 f1 p2 f2 (a,b,()) (fun y=>y=(bp (a=b),())):=by
 dsimp only [Zy,Alg.cl,Alg.cg,Alg.rb,Alg.bd,Alg.l1,Tup.q,Tup.o]
 simp (disch:=omega) only [RR,RB,hp1 _ _ ha.1,hf1 _ _ ha.1,hp1 _ _ ha.2.1,hf1 _ _ ha.2.1,hp2 _ _ ha.2.2,hf2 _ _ ha.2.2,iJ]
 simp only [AU,←nu]
 refine Prod.ext (lI ?_) rfl
 cases a;cases b;simp only [Ev.mk.injEq]
 constructor<;>(intro h;simp only [h,and_self])
theorem ap0 {p1:Ev×Ev×Unit→Bool} {f1:Ev×Ev×Unit→Bool×Unit} (hp1:∀a b,ShE a→p1 (a,b,())=true) (hf1:∀a b,ShE a→f1 (a,b,())=(bp (a=b),())) (a b:List Ev) (ha:Ws a):ZB (std 0) p1 f1 (a,b,()) (fun y=>y=(bp (a=b),())):=by
 have hlen:=ha.1
 dsimp only [ZB,Alg.cl,Alg.cg,Alg.rb,Alg.bd,Alg.l1,Tup.q,Tup.o]
 simp (disch:=omega) only [RR]
 refine⟨fun h=> ?_,fun h=> ?_⟩
 ·rw [bN (fun e=>h (by rw [e]))]
 have hl:a.length=b.length:=by omega
 refine ak (fun(y:List Ev×List Ev×Int×Int×Unit)=>y.1=b∧y.2.1=a∧y.2.2.1=a.length∧0≤y.2.2.2.1∧y.2.2.2.1≤a.length∧All y.2.2.2.1 (fun i=>a.getD i.toNat default=b.getD i.toNat default)) (fun y=>(a.length-y.2.2.2.1).toNat) ⟨rfl,rfl,rfl,by simp,by simp,All.zero⟩ ?_
 rintro⟨(l1:List Ev),(l2:List Ev),(n:Int),(i:Int),⟨⟩⟩ hI
 dsimp only at hI ⊢
 obtain⟨rfl,rfl,rfl,h1,h2,h3⟩:=hI
 simp (disch:=omega) only [RR,hp1 _ _ (ha.at _),hf1 _ _ (ha.at _),aY,iM]
 refine⟨fun h4=>⟨by omega,by omega,by omega,by omega,fun h5=> ?_,fun h5=>⟨⟨by omega,by omega,h3.snoc h5⟩,by omega⟩⟩,fun h4=> ?_⟩
 ·rw [bN]
  intro e;rw [e]at h5;exact h5 rfl
 ·rw [dh (mg hl (h3.le (by omega)))]
theorem ap1 {p1:List aj×List aj×Unit→Bool} {f1:List aj×List aj×Unit→Bool×Unit} (hp1:∀a b,Sh a→p1 (a,b,())=true) (hf1:∀a b,Sh a→f1 (a,b,())=(decide (eZ a b=0),())) {p2:List (List aj)×List (List aj)×Unit→Bool} {f2:List (List aj)×List (List aj)×Unit→Bool×Unit} (hp2:∀a b,ShP a→p2 (a,b,())=true) (hf2:∀a b,ShP a→f2 (a,b,())=(bp (a=b),())) {p3:List Ev×List Ev×Unit→Bool} {f3:List Ev×List Ev×Unit→Bool×Unit} (hp3:∀b a,Ws b→p3 (b,a,())=true) (hf3:∀b a,Ws b→f3 (b,a,())=(bp (b=a),())) (a b:Sym) (ha:ShY a):ZE (std 0) p1 f1 p2 f2 p3 f3 (a,b,()) (fun y=>y=(bp (a=b),())):=by
 dsimp only [ZE,Alg.cl,Alg.cg,Alg.rb,Alg.bd,Alg.l1,Tup.q,Tup.o]
 simp (disch:=omega) only [RR,RB,hp1 _ _ ha.x,hf1 _ _ ha.x,hp1 _ _ ha.y,hf1 _ _ ha.y,hp2 _ _ ha.r,hf2 _ _ ha.r,hp3 _ _ ha.e,hf3 _ _ ha.e,iJ]
 simp only [AU,←nu]
 refine Prod.ext (lI ?_) rfl
 cases a;cases b;simp only [Sym.mk.injEq]
 constructor<;>(intro h;simp only [h,and_self])
theorem ap2 {p1:Blk×Unit→Bool} {f1:Blk×Unit→Bool×Unit} (hp1:∀b,b.ops.length<1000000000→p1 (b,())=true) (hf1:∀b,b.ops.length<1000000000→f1 (b,())=(bp (kX b),())) {p2:Blk×Blk×Unit→Bool} {f2:Blk×Blk×Unit→Bool×Unit} (hp2:∀a b,a.ops.length<1000000000→p2 (a,b,())=true) (hf2:∀a b,a.ops.length<1000000000→f2 (a,b,())=(bp (a=b),())) {p3:Unit→Bool} {f3:Unit→List Atom×List (List aj)×Unit} (hp3:p3 ()=true) (hf3:(f3 ()).1=t4) {p4:List Atom×Blk×Unit→Bool} {f4:List Atom×Blk×Unit→List Atom×Sym×Unit} (hp4:∀t b,ShT t→b.ops.length<1000000000→p4 (t,b,())=true) (hf4:∀t b,ShT t→b.ops.length<1000000000→f4 (t,b,())=((bK t b).1,(bK t b).2,())) {p5:Sym×Sym×Unit→Bool} {f5:Sym×Sym×Unit→Bool×Unit} (hp5:∀a b,ShY a→p5 (a,b,())=true) (hf5:∀a b,ShY a→f5 (a,b,())=(bp (a=b),())) (b c:Blk) (hb:b.ops.length<1000000000) (hc:c.ops.length<1000000000):ZF (std 0) p1 f1 p2 f2 p3 f3 p4 f4 p5 f5 (b,c,()) (fun y=>y=(chk b c,())):=by
 have s4:ShT t4:=UZ.1.sh
 have y1:=zw t4 b
 dsimp only [ZF,Alg.cl,Alg.cg,Alg.rb,Alg.bd,Alg.l1,Tup.q,Tup.o]
 simp (disch:=omega) only [RR,RB,hp1 b hb,hf1 b hb,hp1 c hc,hf1 c hc,hp2 b c hb,hf2 b c hb,hp3,hf3,hp4 t4 b s4 hb,hf4 t4 b s4 hb,hp4 _ c y1.2 hc,hf4 _ c y1.2 hc,hp5 _ _ y1.1,hf5 _ _ y1.1,aY,iM]
 unfold chk
 refine⟨fun h=> ?_,fun h=>⟨fun e=> ?_,fun e=> ?_⟩⟩
 ·rw [bN];rintro⟨h1,h2,h3,h4,_⟩;simp_all
 ·rw [dh];exact⟨h.1.1.1,h.1.1.2,h.1.2,h.2,Or.inl e⟩
 ·refine Prod.ext (lI ?_) rfl
  exact⟨fun g=>⟨h.1.1.1,h.1.1.2,h.1.2,h.2,Or.inr g⟩,fun g=>g.2.2.2.2.resolve_left e⟩
end Go.TX.F
namespace Go.TX.F
open Go Go.AE Go.TX
structure aug (nm:List Int) (fin x y:Int) (ops:List IOp):Prop where
 op:∀i:Int,0≤i→i<ops.length→(hX ((ops).getD (i).toNat default)→0≤(((ops).getD (i).toNat default)).x∧(((ops).getD (i).toNat default)).x<nm.length)∧(hY ((ops).getD (i).toNat default)→0≤(((ops).getD (i).toNat default)).y∧(((ops).getD (i).toNat default)).y<nm.length)
 x:fin≠1→0≤x∧x<nm.length
 y:3≤fin→0≤y∧y<nm.length
 l:ops.length<1000000000
end Go.TX.F
namespace Go.TX.F
open Go Go.AE Go.TX
end Go.TX.F
namespace Go.TX.F
open Go Go.AE Go.TX
end Go.TX.F
namespace Go.TX.F
open Go Go.AE Go.TX
end Go.TX.F
namespace Go.TX.F
open Go Go.AE Go.TX
def ShC (l:List Cer):Prop:=l.length<1000∧∀q∈l,q.base.ops.length<1000000∧q.made.ops.length<1000000
def O8 (l:List Cer):Prop:=l.length≤3∧∀q∈l,chk q.base q.made=true
theorem ShC.at {l:List Cer} (h:ShC l) (i:Nat):(l.getD i default).base.ops.length<1000000∧(l.getD i default).made.ops.length<1000000:=by
 by_cases c:i<l.length
 ·rw [getD_lt c];exact h.2 _ (List.getElem_mem _)
 ·rw [List.getD_eq_getElem?_getD,List.getElem?_eq_none (by omega)];exact⟨by decide,by decide⟩
theorem ShC.add {l:List Cer} (h:ShC l) (n:l.length<999) {q:Cer} (h1:q.base.ops.length<1000000) (h2:q.made.ops.length<1000000):ShC (l++ [q]):=by
 refine⟨by rw [List.length_append,List.length_singleton];omega,fun c g=> ?_⟩
 rw [List.mem_append,List.mem_singleton]at g
 rcases g with g | rfl
 ·exact h.2 c g
 ·exact⟨h1,h2⟩
def ShD (l:List Cer):Prop:=l.length<1000000000∧∀q∈l,q.base.ops.length<1000000000∧q.made.ops.length<1000000000
theorem ShC.d {l:List Cer} (h:ShC l):ShD l:=⟨by have:=h.1;omega,fun q g=>by have:=h.2 q g;omega⟩
theorem ShD.at {l:List Cer} (h:ShD l) (i:Nat):(l.getD i default).base.ops.length<1000000000∧(l.getD i default).made.ops.length<1000000000:=by
 by_cases c:i<l.length
 ·rw [getD_lt c];exact h.2 _ (List.getElem_mem _)
 ·rw [List.getD_eq_getElem?_getD,List.getElem?_eq_none (by omega)];exact⟨by decide,by decide⟩
theorem CRB:(∀q:Cer,gM .cer 0 q=q.base.pc)∧(∀q:Cer,gM .cer 1 q=q.base.len)∧(∀q:Cer,mK .cer 2 .iop q=q.base.ops)∧(∀q:Cer,gM .cer 3 q=q.base.fin)∧(∀q:Cer,gM .cer 4 q=q.base.x)∧(∀q:Cer,gM .cer 5 q=q.base.y)∧(∀q:Cer,gM .cer 6 q=q.base.k)∧
  (∀q:Cer,gM .cer 7 q=q.made.pc)∧(∀q:Cer,gM .cer 8 q=q.made.len)∧(∀q:Cer,mK .cer 9 .iop q=q.made.ops)∧(∀q:Cer,gM .cer 10 q=q.made.fin)∧(∀q:Cer,gM .cer 11 q=q.made.x)∧(∀q:Cer,gM .cer 12 q=q.made.y)∧(∀q:Cer,gM .cer 13 q=q.made.k)∧
  (∀x,Co.mk .blk x=⟨x.1,x.2.1,x.2.2.1,x.2.2.2.1,x.2.2.2.2.1,x.2.2.2.2.2.1,x.2.2.2.2.2.2.1⟩):=
 ⟨fun _=>rfl,fun _=>rfl,fun _=>rfl,fun _=>rfl,fun _=>rfl,fun _=>rfl,fun _=>rfl,fun _=>rfl,fun _=>rfl,fun _=>rfl,fun _=>rfl,fun _=>rfl,fun _=>rfl,fun _=>rfl,fun _=>rfl⟩
theorem U2 {α:Type} {d:α} {l:List α} {i:Nat} {G:α→Prop} (h:i<l.length):(∃q∈l.take (i+1),G q)↔(∃q∈l.take i,G q)∨G (l.getD i d):=by
 rw [List.take_succ_eq_append_getElem h,getD_lt h]
 constructor
 ·rintro⟨q,h1,h2⟩
  rw [List.mem_append,List.mem_singleton]at h1
  rcases h1 with h1 | rfl
  ·exact Or.inl ⟨q,h1,h2⟩
  ·exact Or.inr h2
 ·rintro(⟨q,h1,h2⟩ | h)
  ·exact⟨q,List.mem_append_left _ h1,h2⟩
  ·exact⟨_,List.mem_append_right _ (List.mem_singleton.2 rfl),h⟩
theorem atK {p1:Blk×Blk×Unit→Bool} {f1:Blk×Blk×Unit→Bool×Unit} (hp1:∀b c,b.ops.length<1000000000→c.ops.length<1000000000→p1 (b,c,())=true) (hf1:∀b c,b.ops.length<1000000000→c.ops.length<1000000000→f1 (b,c,())=(chk b c,())) (q:Cer) (h1:q.base.ops.length<1000000000) (h2:q.made.ops.length<1000000000):agC (std 0) p1 f1 (q,()) (fun y=>y=(!chk q.base q.made,())):=by
 have mE:∀c:Blk,Co.mk .blk (c.pc,c.len,c.ops,c.fin,c.x,c.y,c.k,())=c:=fun _=>rfl
 dsimp only [agC,Alg.cl,Alg.cg,Alg.rb,Alg.bd,Alg.l1,Tup.q,Tup.o,Alg.cl,Alg.cg,Alg.rb,Alg.bd,Alg.l1,Tup.q,Tup.o,Dw]
 simp (disch:=omega) only [RR,CRB,mE,hp1 _ _ h1 h2,hf1 _ _ h1 h2]
theorem aiO {p1:Cer×Unit→Bool} {f1:Cer×Unit→Bool×Unit} (hp1:∀q,q.base.ops.length<1000000000→q.made.ops.length<1000000000→p1 (q,())=true) (hf1:∀q,q.base.ops.length<1000000000→q.made.ops.length<1000000000→f1 (q,())=(!chk q.base q.made,())) (l:List Cer) (h:ShD l):Si (std 0) p1 f1 (l,()) (fun y=>0≤y.1↔∃q∈l,chk q.base q.made=false):=by
 have hl:=h.1
 dsimp only [Si,Alg.cl,Alg.cg,Alg.rb,Alg.bd,Alg.l1,Tup.q,Tup.o]
 simp (disch:=omega) only [RR]
 refine ak (fun(y:List Cer×Int×Int×Unit)=>y.1=l∧y.2.1=l.length∧0≤y.2.2.1∧y.2.2.1≤l.length∧¬∃q∈l.take y.2.2.1.toNat,chk q.base q.made=false) (fun y=>(l.length-y.2.2.1).toNat) ⟨rfl,rfl,by simp,by simp,by rintro⟨q,h,_⟩;cases h⟩ ?_
 rintro⟨(l':List Cer),(n:Int),(i:Int),⟨⟩⟩ hI
 dsimp only at hI ⊢
 obtain⟨rfl,rfl,h1,h2,h3⟩:=hI
 have a:=h.at i.toNat
 simp (disch:=omega) only [RR,hp1 _ (show(((l').getD (i).toNat default)).base.ops.length<1000000000 by omega) (show(((l').getD (i).toNat default)).made.ops.length<1000000000 by omega),hf1 _ (show(((l').getD (i).toNat default)).base.ops.length<1000000000 by omega) (show(((l').getD (i).toNat default)).made.ops.length<1000000000 by omega)]
 refine⟨fun g=>⟨h1,g,fun e=> ?_,fun e=>⟨⟨by omega,by omega,?_⟩,by omega⟩⟩,fun g=> ?_⟩
 ·exact⟨fun _=>⟨_,dD h1 g,e⟩,fun _=>h1⟩
 ·rw [show(i+1).toNat=i.toNat+1 by omega]
  exact fun x=>((U2 (G:=fun q:Cer=>chk q.base q.made=false) (by omega)).1 x).elim h3 (fun z=>by rw [e]at z;cases z)
 ·rw [List.take_of_length_le (by omega)]at h3
  exact⟨fun x=>absurd x (by decide),fun x=>absurd x h3⟩
theorem ap3 {p1:List Cer×Unit→Bool} {f1:List Cer×Unit→Int×Unit} (hp1:∀l,ShD l→p1 (l,())=true) (hf1:∀l,ShD l→(0≤(f1 (l,())).1↔∃q∈l,chk q.base q.made=false)) (l:List Cer) (h:ShD l):ZN (std 0) p1 f1 (l,()) (fun y=>y=(bp (∃q∈l,chk q.base q.made=false),())):=by
 dsimp only [ZN,Alg.cl,Alg.cg,Alg.rb,Alg.bd,Alg.l1,Tup.q,Tup.o]
 simp (disch:=omega) only [RR,hp1 l h,AU,lI (hf1 l h)]
theorem atL {p1:List Cer×Unit→Bool} {f1:List Cer×Unit→Bool×Unit} (hp1:∀l,ShD l→p1 (l,())=true) (hf1:∀l,ShD l→f1 (l,())=(bp (∃q∈l,chk q.base q.made=false),())) (l:List Cer) (h:ShD l):agF (std 0) p1 f1 (l,()) (fun y=>y=(bp (O8 l),())):=by
 dsimp only [agF,Alg.cl,Alg.cg,Alg.rb,Alg.bd,Alg.l1,Tup.q,Tup.o]
 simp (disch:=omega) only [RR,hp1 l h,hf1 l h]
 have e:(!bp (∃q∈l,chk q.base q.made=false))=bp (∀q∈l,chk q.base q.made=true):=by
  by_cases c:∃q∈l,chk q.base q.made=false
  ·rw [dh c,bN]; · rfl
   intro g;obtain⟨q,q1,q2⟩:=c;rw [g q q1]at q2;cases q2
  ·rw [bN c,dh]; · rfl
   intro q q1
   by_cases d:chk q.base q.made=true
   ·exact d
   ·exact absurd ⟨q,q1,by simpa using d⟩ c
 rw [e,AU,←nu]
 exact Prod.ext (lI (by unfold O8;constructor<;>rintro⟨g1,g2⟩<;>exact⟨by omega,g2⟩)) rfl
theorem aax (a b:Blk) (ha:a.ops.length<1000000000):QB (std 0) (a,b,()) (fun y=>y=(bp (a=b),())):=by
 dsimp only [QB,Alg.cl,Alg.cg,Alg.rb,Alg.bd,Alg.l1,Tup.q,Tup.o]
 simp (disch:=omega) only [RR,RB]
 refine⟨fun h=> ?_,fun h=> ?_⟩
 ·rw [bN];rintro rfl;simp at h
 have hl:a.ops.length=b.ops.length:=by omega
 refine ak (fun(y:Int×Blk×Blk×Unit)=>y.2.1=a∧y.2.2.1=b∧0≤y.1∧y.1≤a.ops.length∧All y.1 (fun i=>a.ops.getD i.toNat default=b.ops.getD i.toNat default)) (fun y=>(a.ops.length-y.1).toNat) ⟨rfl,rfl,by simp,by simp,All.zero⟩ ?_
 rintro⟨(i:Int),(a':Blk),(b':Blk),⟨⟩⟩ hI
 dsimp only at hI ⊢
 obtain⟨rfl,rfl,h1,h2,h3⟩:=hI
 simp (disch:=omega) only [RR,RB,adL]
 refine⟨fun h4=>⟨by omega,by omega,by omega,by omega,fun h5=> ?_,fun h5=>⟨⟨by omega,by omega,h3.snoc h5⟩,by omega⟩⟩,fun h4=> ?_⟩
 ·rw [bN];rintro rfl;exact h5 rfl
 ·have e:=mg hl (h3.le (by omega))
  rw [dh]
  cases a';cases b';simp_all
end Go.TX.F
namespace Go.TX.F
open Go Go.AE Go.TX
theorem aiP {p1:List aj×Unit→Bool} {f1:List aj×Unit→List aj×Unit} (hp1:∀a,Sh a→p1 (a,())=true) (hf1:∀a,Sh a→f1 (a,())=(a,())) (a:List (List aj)) (ha:ShP a):Rw (std 0) p1 f1 (a,()) (fun y=>y=(a,())):=by
 have hlen:=ha.1
 dsimp only [Rw,Alg.cl,Alg.cg,Alg.rb,Alg.bd,Alg.l1,Tup.q,Tup.o]
 refine ak (fun(y:List (List aj)×Int×List (List aj)×Unit)=>y.1=a∧y.2.2.1=a.take y.2.1.toNat∧0≤y.2.1∧y.2.1≤a.length) (fun y=>(a.length-y.2.1).toNat) ⟨rfl,by simp,by simp,by simp⟩ ?_
 rintro⟨(l:List (List aj)),(i:Int),(o:List (List aj)),⟨⟩⟩ hI
 dsimp only at hI ⊢
 obtain⟨rfl,rfl,h1,h2⟩:=hI
 simp (disch:=omega) only [RR,hp1 _ (ha.at _),hf1 _ (ha.at _)]
 refine⟨fun h4=>⟨by omega,by omega,?_,⟨bW h1 h4 rfl,by omega,by omega⟩,by omega⟩,fun h4=>by rw [List.take_of_length_le (by omega)]⟩
 have:=List.length_take_le' i.toNat l
 simp only [List.length_cons,List.length_nil];omega
theorem aay (k:Int) (l:List (List aj)):Q0 (std 0) (k,l,()) (fun y=>y=(if k<0∨(l.length:Int)≤k then []else((l).getD (k).toNat default),l,())):=by
 dsimp only [Q0,Alg.cl,Alg.cg,Alg.rb,Alg.bd,Alg.l1,Tup.q,Tup.o]
 simp (disch:=omega) only [RR]
 refine⟨fun h=>by rw [if_pos (by omega)],fun h=>⟨by omega,by omega,by omega,by omega,by rw [if_neg (by omega)]⟩⟩
def pK (l:List Ev) (k:Int):Int:=((l.filter fun e=>decide (e.kind=k)).length:Int)
theorem vQ (l:List Ev) (e:Ev) (k:Int):pK (l++ [e]) k=if e.kind=k then pK l k+1 else pK l k:=by
 unfold pK
 rw [List.filter_append,List.length_append]
 by_cases c:e.kind=k
 ·rw [if_pos c,List.filter_cons_of_pos (by simpa using c)];simp
 ·rw [if_neg c,List.filter_cons_of_neg (by simpa using c)];simp
theorem aaz (l:List Ev) (k:Int) (hl:l.length<1000000000):Rt (std 0) (l,k,()) (fun y=>y=(pK l k,())):=by
 dsimp only [Rt,Alg.cl,Alg.cg,Alg.rb,Alg.bd,Alg.l1,Tup.q,Tup.o]
 refine ak (fun(y:List Ev×Int×Int×Int×Unit)=>y.1=l∧y.2.1=k∧y.2.2.1=pK (l.take y.2.2.2.1.toNat) k∧0≤y.2.2.2.1∧y.2.2.2.1≤l.length) (fun y=>(l.length-y.2.2.2.1).toNat) ⟨rfl,rfl,by simp;rfl,by simp,by simp⟩ ?_
 rintro⟨(l:List Ev),(k:Int),(n:Int),(i:Int),⟨⟩⟩ hI
 dsimp only at hI ⊢
 obtain⟨rfl,rfl,rfl,h1,h2⟩:=hI
 have b:0≤pK (l.take i.toNat) k∧pK (l.take i.toNat) k≤i:=by
  unfold pK
  have:=List.length_filter_le (fun e:Ev=>decide (e.kind=k)) (l.take i.toNat)
  have:=List.length_take_le i.toNat l
  omega
 simp (disch:=omega) only [RR,RB]
 refine⟨fun h4=>⟨by omega,by omega,?_⟩,fun h4=>by rw [List.take_of_length_le (by omega)]⟩
 have e:l.take (i+1).toNat=l.take i.toNat++ [((l).getD (i).toNat default)]:=by rw [show(i+1).toNat=i.toNat+1 by omega,List.take_succ_eq_append_getElem (by omega),getD_lt (show i.toNat<l.length by omega)]
 refine⟨fun g=>⟨⟨?_,by omega,by omega⟩,by omega⟩,fun g=>⟨⟨?_,by omega,by omega⟩,by omega⟩⟩
 ·rw [e,vQ,if_pos g]
 ·rw [e,vQ,if_neg g]
theorem aiQ {p1:Int×Unit→Bool} {f1:Int×Unit→List aj×Unit} (hp1:∀n,p1 (n,())=true) (hf1:∀n,f1 (n,())=(fF n,())) {p2:Atom×List Atom×Unit→Bool} {f2:Atom×List Atom×Unit→Int×List Atom×Unit} (hp2:∀a t,ShA a→ShT t→aF t→p2 (a,t,())=true) (hf2:∀a t,ShA a→ShT t→aF t→f2 (a,t,())=((aX t a).2,(aX t a).1,())) {p3:List Ev×Int×Unit→Bool} {f3:List Ev×Int×Unit→Int×Unit} (hp3:∀l k,l.length<1000000000→p3 (l,k,())=true) (hf3:∀l k,l.length<1000000000→f3 (l,k,())=(pK l k,())) (l:List Ev) (k:Int) (t:List Atom) (hl:l.length<1000000000) (ht:ShT t) (hk:aF t):Rv (std 0) p1 f1 p2 f2 p3 f3 (l,k,t,()) (fun y=>y=((aX t ⟨if k=6 then 3 else 2,pK l k,[],[]⟩).1,fF (aX t ⟨if k=6 then 3 else 2,pK l k,[],[]⟩).2,())):=by
 have sh:∀n:Int,ShA ⟨n,pK l k,[],[]⟩:=fun n=>⟨⟨by simp,fun m hm=>absurd hm (by simp)⟩,⟨by simp,fun m hm=>absurd hm (by simp)⟩⟩
 dsimp only [Rv,Alg.cl,Alg.cg,Alg.rb,Alg.bd,Alg.l1,Tup.q,Tup.o]
 simp (disch:=omega) only [RR,hp3 l k hl,hf3 l k hl,hp2 _ t (sh _) ht hk,hf2 _ t (sh _) ht hk,hp1,hf1]
 exact⟨fun h=>by rw [if_pos h],fun h=>by rw [if_neg h]⟩
theorem aiR {p1:List aj×Unit→Bool} {f1:List aj×Unit→List aj×Unit} (hp1:∀a,Sh a→p1 (a,())=true) (hf1:∀a,Sh a→f1 (a,())=(a,())) {p2:List (List aj)×Unit→Bool} {f2:List (List aj)×Unit→List (List aj)×Unit} (hp2:∀a,ShP a→p2 (a,())=true) (hf2:∀a,ShP a→f2 (a,())=(a,())) (o:IOp) (x y:List aj) (r:List (List aj)) (hx:Sh x) (hy:Sh y) (hr:ShP r):Rx (std 0) p1 f1 p2 f2 (o,x,y,r,()) (fun z=>z=(o.kind,o.at_,if o.kind=6 then []else x,if o.kind=5 then y else [],if o.kind=4∨o.kind=5 then r else [],())):=by
 dsimp only [Rx,Alg.cl,Alg.cg,Alg.rb,Alg.bd,Alg.l1,Tup.q,Tup.o]
 simp (disch:=omega) only [RR,RB,hp1 x hx,hf1 x hx,hp1 y hy,hf1 y hy,hp2 r hr,hf2 r hr]
 refine⟨fun h=>⟨fun g=> ?_,fun g=> ?_⟩,fun h=>⟨fun g=> ?_,fun g=> ?_⟩⟩
 all_goals refine⟨fun k=> ?_,fun k=> ?_⟩
 all_goals first | rw [if_pos h] | rw [if_neg h]
 all_goals first | rw [if_pos g] | rw [if_neg g]
 all_goals first | rw [if_pos k] | rw [if_neg (by omega)]
theorem aaA (s:Sym) (k:Int):RA (std 0) (s,k,()) (fun y=>y=(s.events,s.regs,1,k,())):=by
 dsimp only [RA,Alg.cl,Alg.cg,Alg.rb,Alg.bd,Alg.l1,Tup.q,Tup.o]
 simp (disch:=omega) only [RR,RB]
theorem aaB (b:Blk):Ry (std 0) (b,()) (fun y=>y=(if b.fin=1 then-1 else b.x,())):=by
 dsimp only [Ry,Alg.cl,Alg.cg,Alg.rb,Alg.bd,Alg.l1,Tup.q,Tup.o]
 simp (disch:=omega) only [RR,RB]
 exact⟨fun h=>by rw [if_pos h],fun h=>by rw [if_neg h]⟩
theorem aaC (b:Blk):Rz (std 0) (b,()) (fun y=>y=(if b.fin=1∨b.fin=2 then-1 else b.y,())):=by
 dsimp only [Rz,Alg.cl,Alg.cg,Alg.rb,Alg.bd,Alg.l1,Tup.q,Tup.o]
 simp (disch:=omega) only [RR,RB]
 exact⟨fun h=>by rw [if_pos h],fun h=>by rw [if_neg (by omega)]⟩
theorem aiS {p1:List aj×Unit→Bool} {f1:List aj×Unit→Int×Bool×Unit} (hp1:∀a,Sh a→p1 (a,())=true) (hf1:∀a,Sh a→f1 (a,())=((bM a).1,(bM a).2,())) {p2:List aj×List aj×Unit→Bool} {f2:List aj×List aj×Unit→Int×Unit} (hp2:∀a b,Sh a→p2 (a,b,())=true) (hf2:∀a b,Sh a→f2 (a,b,())=(eZ a b,())) {p3:Sym×Int×Unit→Bool} {f3:Sym×Int×Unit→List Ev×List (List aj)×Int×Int×Unit} (hp3:∀s k,p3 (s,k,())=true) (hf3:∀s k,f3 (s,k,())=(s.events,s.regs,1,k,())) (s:Sym) (n:Int) (hs:ShY s) (hx:aL s.x) (hy:aL s.y) (hf:s.fin=3∨s.fin=4):RD (std 0) p1 f1 p2 f2 p3 f3 (s,n,()) (fun y=>y=(symEnd s n,())):=by
 dsimp only [RD,Alg.cl,Alg.cg,Alg.rb,Alg.bd,Alg.l1,Tup.q,Tup.o]
 simp (disch:=omega) only [RR,RB,hp1 _ hs.x,hf1 _ hs.x,hp1 _ hs.y,hf1 _ hs.y,hp2 _ _ hs.x,hf2 _ _ hs.x,hp3,hf3]
 have z:eZ s.x s.y=0↔s.x=s.y:=iJ
 have key:(bM s.x).2=true→(bM s.y).2=true→(bM s.x).1=(bM s.y).1→s.x=s.y:=fun a b c=>(rJ a).2.1.trans ((congrArg dA c).trans (rJ b).2.1.symm)
 unfold symEnd
 rw [dh ⟨hx,hy⟩,if_neg (show¬(true=false) by decide),if_neg (show¬(s.fin=2∧(bM s.x).2=true) by omega),if_neg (show¬(s.fin≠3∧s.fin≠4) by omega)]
 simp only [z]
 by_cases c:s.x=s.y
 ·have l:¬(bM s.x).1< (bM s.y).1:=by rw [c];omega
  rcases hf with f | f<;>simp [c,f]
 ·rcases hf with f | f<;>by_cases nx:(bM s.x).2=true<;>by_cases ny:(bM s.y).2=true<;>by_cases l:(bM s.x).1< (bM s.y).1<;>by_cases g:0<eZ s.x s.y<;>simp [c,f,nx,ny,l,g]
  all_goals rw [if_neg fun e=>c (key nx ny e)]
theorem aiT {p1:List aj×Unit→Bool} {f1:List aj×Unit→Int×Bool×Unit} (hp1:∀a,Sh a→p1 (a,())=true) (hf1:∀a,Sh a→f1 (a,())=((bM a).1,(bM a).2,())) {p2:List aj×Unit→Bool} {f2:List aj×Unit→Bool×Unit} (hp2:∀a,Sh a→p2 (a,())=true) (hf2:∀a,Sh a→f2 (a,())=(bp (aL a),())) {p3:List aj×Unit→Bool} {f3:List aj×Unit→List aj×Unit} (hp3:∀a,Sh a→p3 (a,())=true) (hf3:∀a,Sh a→f3 (a,())=(a,())) {p4:Sym×Int×Unit→Bool} {f4:Sym×Int×Unit→List Ev×List (List aj)×Int×Int×Unit} (hp4:∀s k,p4 (s,k,())=true) (hf4:∀s k,f4 (s,k,())=(s.events,s.regs,1,k,())) {p5:Sym×Int×Unit→Bool} {f5:Sym×Int×Unit→Sym×Unit} (hp5:∀s n,ShY s→aL s.x→aL s.y→(s.fin=3∨s.fin=4)→p5 (s,n,())=true) (hf5:∀s n,ShY s→aL s.x→aL s.y→(s.fin=3∨s.fin=4)→f5 (s,n,())=(symEnd s n,())) {p6:List (List aj)×Unit→Bool} {f6:List (List aj)×Unit→List (List aj)×Unit} (hp6:∀a,ShP a→p6 (a,())=true) (hf6:∀a,ShP a→f6 (a,())=(a,())) (s:Sym) (n:Int) (hs:ShY s):RF (std 0) p1 f1 p2 f2 p3 f3 p4 f4 p5 f5 p6 f6 (s,n,()) (fun y=>y=(symEnd s n,())):=by
 dsimp only [RF,Alg.cl,Alg.cg,Alg.rb,Alg.bd,Alg.l1,Tup.q,Tup.o]
 simp (disch:=omega) only [RR,RB,hp2 _ hs.x,hf2 _ hs.x,hp2 _ hs.y,hf2 _ hs.y]
 have le:=hs.e.1
 have no:(bp (aL s.x)=false∨bp (aL s.y)=false)→symEnd s n=Wp:=fun h=>by
  unfold symEnd;rw [if_pos];rw [nu];rcases h with h | h<;>rw [h]<;>simp
 refine⟨fun h=>by rw [no h];rfl,fun h=> ?_⟩
 have hx:=aY.1 h.1
 have hy:=aY.1 h.2
 refine ak (fun(y:Int×Int×Sym×Int×Int×List (List aj)×Int×List aj×List aj×Int×List Ev×Unit)=>y.1=n∧y.2.2.1=s∧y.2.2.2.2.2.2.1=s.fin∧y.2.2.2.2.2.2.2.2.2.1=s.k∧0≤y.2.1∧y.2.1≤s.events.length∧y.2.2.2.2.2.2.2.2.2.2.1=s.events.take y.2.1.toNat) (fun y=>(s.events.length-y.2.1).toNat) ⟨rfl,rfl,rfl,rfl,by simp,by simp,by simp⟩ ?_
 rintro⟨(n':Int),(i:Int),(s':Sym),(z1:Int),(z2:Int),(z3:List (List aj)),(fin:Int),(z4:List aj),(z5:List aj),(k:Int),(ev:List Ev),⟨⟩⟩ hI
 dsimp only at hI ⊢
 obtain⟨rfl,rfl,rfl,rfl,h1,h2,rfl⟩:=hI
 have E:=hs.e.at i.toNat
 have tl:=List.length_take_le' i.toNat s'.events
 by_cases g:i<s'.events.length
 ·simp (disch:=omega) only [RR,RB,g,hp3 _ E.1,hf3 _ E.1,hp3 _ E.2.1,hf3 _ E.2.1,hp6 _ E.2.2,hf6 _ E.2.2]
  exact⟨h1,by simp only [List.length_cons,List.length_nil];omega,⟨by omega,by omega,bW h1 g rfl⟩,by omega⟩
 ·have ef:s'.events.take i.toNat=s'.events:=List.take_of_length_le (by omega)
  rw [ef]
  simp (disch:=omega) only [RR,RB,g,hp3 _ hs.x,hf3 _ hs.x,hp3 _ hs.y,hf3 _ hs.y,hp6 _ hs.r,hf6 _ hs.r,hp1 _ hs.x,hf1 _ hs.x,hp4,hf4]
  have b:¬bp (aL s'.x∧aL s'.y)=false:=by rw [dh ⟨hx,hy⟩];decide
  have P:=fun f=>hp5 s' n' hs hx hy f
  have F:=fun f=>hf5 s' n' hs hx hy f
  have pl:s'.fin≠3∧s'.fin≠4→¬(s'.fin=2∧(bM s'.x).2=true)→symEnd s' n'=s':=fun c d=>by unfold symEnd;rw [if_neg b,if_neg d,if_pos c]
  refine⟨fun f=>⟨fun g=> ?_,fun g=> ?_⟩,fun f=>⟨fun k=>⟨fun _=>⟨P (Or.inl k),?_⟩,fun e=>absurd k e⟩,fun k=>⟨fun l=>⟨P (Or.inr l),?_⟩,fun l=> ?_⟩⟩⟩
  ·unfold symEnd;rw [if_neg b,if_pos ⟨f,g⟩]
  ·rw [pl (by omega) (by rw [g];simp)]
  ·exact congrArg (fun z=>(z.1,())) (F (Or.inl k))
  ·exact congrArg (fun z=>(z.1,())) (F (Or.inr l))
  ·rw [pl ⟨k,l⟩ (fun h=>f h.1)]
end Go.TX.F
namespace Go.TX.F
open Go Go.AE Go.TX
structure Cn (s:SS):Prop where
 ld:s.ld=pK s.evs 4
 inn:s.inn=pK s.evs 6
theorem Cn.stp {s:SS} (h:Cn s) (o:IOp):Cn (stp s o):=by
 constructor
 ·show(if o.kind=4 then s.ld+1 else s.ld)=pK (nE s o) 4
  unfold nE
  by_cases c:evO o
  ·rw [if_pos c,vQ,h.ld]
  ·rw [if_neg c,if_neg (fun e=>c (by unfold evO;omega)),h.ld]
 ·show(if o.kind=6 then s.inn+1 else s.inn)=pK (nE s o) 6
  unfold nE
  by_cases c:evO o
  ·rw [if_pos c,vQ,h.inn]
  ·rw [if_neg c,if_neg (fun e=>c (by unfold evO;omega)),h.inn]
theorem Cn.run:∀(l:List IOp) (s:SS),Cn s→Cn (l.foldl Go.TX.F.stp s)
 | [],_,h=>h
 | o::r,s,h=>Cn.run r _ (h.stp o)
structure Pt2 (t:List Atom) (b:Blk) (i:Nat) (tb:List Atom) (V:List (List aj)) (ev:List Ev) (rg:List (List aj)):Prop where
 tb:tb=(SW t b i).t
 V:V=(SW t b i).vals
 ev:ev=(SW t b i).evs
 rg:rg=(SW t b i).regs
theorem Pt2.next {t:List Atom} {b:Blk} {i:Nat} {tb:List Atom} {V:List (List aj)} {ev:List Ev} {rg:List (List aj)} (h:Pt2 t b i tb V ev rg) (hi:i<b.ops.length) {o:IOp} (ho:b.ops.getD i default=o)
  {v:List aj} {tb':List Atom} {ev':List Ev} {rg':List (List aj)} (h3:tb'=nT (SW t b i) o) (h4:v=nV (SW t b i) o) (h5:ev'=nE (SW t b i) o) (h6:rg'=nR (SW t b i) o):Pt2 t b (i+1) tb' (V++ [v]) ev' rg':=by
 have e:=U1 (t:=t) hi
 rw [ho]at e
 refine⟨?_,?_,?_,?_⟩<;>rw [e]
 ·exact h3
 ·rw [h.V,h4];rfl
 ·exact h5
 ·exact h6
theorem Ia {α:Type} {l:List α} {i:Nat} (h:i<l.length) (v:α):(l.set i v).take (i+1)=l.take i++ [v]:=by
 rw [List.take_succ_eq_append_getElem (by rw [List.length_set];exact h),List.getElem_set_self,List.take_set_of_le (Nat.le_refl _)]
set_option maxHeartbeats 1000000 in
theorem aiU {p1:Blk×Unit→Bool} {f1:Blk×Unit→Bool×Unit} (hp1:∀b,b.ops.length<1000000000→p1 (b,())=true) (hf1:∀b,b.ops.length<1000000000→f1 (b,())=(bp (kX b),())) {p2:Int×Unit→Bool} {f2:Int×Unit→List aj×Unit} (hp2:∀n,p2 (n,())=true) (hf2:∀n,f2 (n,())=(fF n,())) {p3:Int×Unit→Bool} {f3:Int×Unit→List aj×Unit} (hp3:∀n,p3 (n,())=true) (hf3:∀n,f3 (n,())=(dA n,())) {p4:Sym×Int×Unit→Bool} {f4:Sym×Int×Unit→Sym×Unit} (hp4:∀s n,ShY s→p4 (s,n,())=true) (hf4:∀s n,ShY s→f4 (s,n,())=(symEnd s n,())) {p5:Unit→Bool} {f5:Unit→List Atom×List (List aj)×Unit} (hp5:p5 ()=true) (hf5:O4 4 (f5 ()).1∧(f5 ()).2.1.length=4∧∀p∈(f5 ()).2.1,Sh p) {p6:List Atom×Unit→Bool} {f6:List Atom×Unit→Bool×Unit} (hp6:∀a,ShT a→p6 (a,())=true) (hf6:∀a,ShT a→f6 (a,())=(bp (aF a),())) {p7:List aj×Unit→Bool} {f7:List aj×Unit→List aj×Unit} (hp7:∀a,Sh a→p7 (a,())=true) (hf7:∀a,Sh a→f7 (a,())=(a,())) {p8:List Atom×Unit→Bool} {f8:List Atom×Unit→List Atom×Unit} (hp8:∀a,ShT a→p8 (a,())=true) (hf8:∀a,ShT a→f8 (a,())=(a,())) {p9:Int×List aj×List aj×List Atom×Unit→Bool} {f9:Int×List aj×List aj×List Atom×Unit→List Atom×List aj×Unit} (hp9:∀op x y t,(1≤op∧op≤5)→Sh x→Sh y→ShT t→aF t→p9 (op,x,y,t,())=true) (hf9:∀op x y t,(1≤op∧op≤5)→Sh x→Sh y→ShT t→aF t→f9 (op,x,y,t,())=((tDo t op x y).1,(tDo t op x y).2,())) {p10:Atom×List Atom×Unit→Bool} {f10:Atom×List Atom×Unit→Int×List Atom×Unit} (acX:∀a t,ShA a→ShT t→aF t→p10 (a,t,())=true) (aiN:∀a t,ShA a→ShT t→aF t→f10 (a,t,())=((aX t a).2,(aX t a).1,())) {p11:List Ev×Int×List Atom×Unit→Bool} {f11:List Ev×Int×List Atom×Unit→List Atom×List aj×Unit} (acY:∀l k t,l.length<1000000000→ShT t→aF t→p11 (l,k,t,())=true) (acZ:∀l k t,l.length<1000000000→ShT t→aF t→f11 (l,k,t,())=((aX t ⟨if k=6 then 3 else 2,pK l k,[],[]⟩).1,fF (aX t ⟨if k=6 then 3 else 2,pK l k,[],[]⟩).2,())) {p12:IOp×List aj×List aj×List (List aj)×Unit→Bool} {f12:IOp×List aj×List aj×List (List aj)×Unit→Int×Int×List aj×List aj×List (List aj)×Unit} (Sw:∀o x y r,Sh x→Sh y→ShP r→p12 (o,x,y,r,())=true) (Sy:∀o x y r,Sh x→Sh y→ShP r→f12 (o,x,y,r,())=(o.kind,o.at_,if o.kind=6 then []else x,if o.kind=5 then y else [],if o.kind=4∨o.kind=5 then r else [],())) {p13:Int×List (List aj)×Unit→Bool} {f13:Int×List (List aj)×Unit→List aj×List (List aj)×Unit} (Kk:∀k l,p13 (k,l,())=true) (ac0:∀k l,f13 (k,l,())=(if k<0∨(l.length:Int)≤k then []else((l).getD (k).toNat default),l,())) {p14:List (List aj)×Unit→Bool} {f14:List (List aj)×Unit→List (List aj)×Unit} (atM:∀a,ShP a→p14 (a,())=true) (atN:∀a,ShP a→f14 (a,())=(a,())) {p15:Blk×Unit→Bool} {f15:Blk×Unit→Int×Unit} (atO:∀b,p15 (b,())=true) (atP:∀b,f15 (b,())=(if b.fin=1 then-1 else b.x,())) {p16:Blk×Unit→Bool} {f16:Blk×Unit→Int×Unit} (atQ:∀b,p16 (b,())=true) (atS:∀b,f16 (b,())=(if b.fin=1∨b.fin=2 then-1 else b.y,())) (t:List Atom) (b:Blk) (ht:ShT t) (hb:b.ops.length<1000000000):RG (std 0) p1 f1 p2 f2 p3 f3 p4 f4 p5 f5 p6 f6 p7 f7 p8 f8 p9 f9 p10 f10 p11 f11 p12 f12 p13 f13 p14 f14 p15 f15 p16 f16 (t,b,()) (fun y=>y=((bK t b).1,(bK t b).2,())):=by
 have hlt:=ht.1
 dsimp only [RG,Alg.cl,Alg.cg,Alg.rb,Alg.bd,Alg.l1,Tup.q,Tup.o]
 simp (disch:=omega) only [RR,RB,hp6 t ht,hf6 t ht,hp1 b hb,hf1 b hb,hp8 t ht,hf8 t ht,hp5]
 by_cases c:aF t∧t.length≤100∧kX b
 case neg=>
  refine⟨fun _=> ?_,fun h=> ?_⟩
  ·unfold bK;rw [bN c];rfl
  ·exact absurd ⟨aY.1 h.1.1,by omega,aY.1 h.1.2⟩ c
 obtain⟨c1,c2,c3⟩:=c
 simp (disch:=omega) only [RR,dh c1,dh c3]
 have sz:=c3.sz
 have hop:=c3.op
 have hk3:=c3.k3
 have i0:=I6 c1 (by omega)
 obtain⟨_,g5,_⟩:=hf5
 refine⟨fun h=>absurd h (by omega),fun _=> ?_⟩
 refine ak (fun(y:Int×Blk×Int×Int×Int×Int×List (List aj)×List Atom×Unit)=>0≤y.1∧y.1≤4∧y.2.1=b∧y.2.2.2.2.1=b.fin∧y.2.2.2.2.2.1=b.k∧y.2.2.2.2.2.2.1.length=4∧y.2.2.2.2.2.2.1.take y.1.toNat=(rN t y.1.toNat).2∧y.2.2.2.2.2.2.2.1=(rN t y.1.toNat).1) (fun y=>(4-y.1).toNat) ⟨by simp,by simp,rfl,rfl,rfl,g5,by simp;rfl,rfl⟩ ?_
 rintro⟨(r:Int),(b':Blk),(z1:Int),(z2:Int),(fin:Int),(kk:Int),(rg:List (List aj)),(tb:List Atom),⟨⟩⟩ hI
 dsimp only at hI ⊢
 obtain⟨r0,r1,rfl,rfl,rfl,r4,r5,rfl⟩:=hI
 have ok:=BU c1 (by omega) r.toNat (by omega)
 have okl:=ok.tl
 by_cases h:r<4
 ·have sA:ShA ⟨1,r,[],[]⟩:=⟨⟨by simp,fun m hm=>absurd hm (by simp)⟩,⟨by simp,fun m hm=>absurd hm (by simp)⟩⟩
  have er:((r.toNat:Nat):Int)=r:=by omega
  simp (disch:=omega) only [RR,h,acX _ _ sA ok.tok.sh ok.tok,aiN _ _ sA ok.tok.sh ok.tok,hp2,hf2,r4,List.length_set]
  have es:rN t (r+1).toNat=((aX (rN t r.toNat).1 ⟨1,r,[],[]⟩).1,(rN t r.toNat).2++ [fF (aX (rN t r.toNat).1 ⟨1,r,[],[]⟩).2]):=by
   rw [show(r+1).toNat=r.toNat+1 by omega,CF,er]
  refine⟨r0,by omega,r0,by omega,⟨by omega,by omega,?_,by rw [es]⟩,by omega⟩
  rw [es,show(r+1).toNat=r.toNat+1 by omega,Ia (by omega),r5]
 ·have e4:r.toNat=4:=by omega
  rw [e4]at r5 ok
  have eg:rg=(rN t 4).2:=by rw [←r5,List.take_of_length_le (by omega)]
  subst eg
  rw [e4]
  simp (disch:=omega) only [RR,h]
  refine ak (fun(y:Int×Blk×Int×Int×Int×Int×List (List aj)×List (List aj)×List Atom×List Ev×Unit)=>0≤y.1∧y.1≤b'.ops.length∧y.2.1=b'∧y.2.2.2.2.1=b'.fin∧y.2.2.2.2.2.1=b'.k∧Pt2 t b' y.1.toNat y.2.2.2.2.2.2.2.2.1 y.2.2.2.2.2.2.2.1 y.2.2.2.2.2.2.2.2.2.1 y.2.2.2.2.2.2.1) (fun y=>(b'.ops.length-y.1).toNat) ⟨by simp,by simp,rfl,rfl,rfl,⟨rfl,rfl,rfl,rfl⟩⟩ ?_
  have siw:∀j:Nat,j≤b'.ops.length→SI (t.length+4) j (SW t b' j):=fun j hj=>by
   have:=(yE (b'.ops.take j) 0 (s0 t) i0 (fun o ho=>hk3 o (List.mem_of_mem_take ho)) (by rw [List.length_take];omega) (by rw [List.length_take];omega)).1
   rw [List.length_take,Nat.min_eq_left hj,Nat.zero_add]at this;exact this
  rintro⟨(i:Int),(b:Blk),(z1:Int),(z2:Int),(fin:Int),(kk:Int),(rg:List (List aj)),(V:List (List aj)),(tb:List Atom),(ev:List Ev),⟨⟩⟩ hI
  dsimp only at hI ⊢
  obtain⟨h1,h2,rfl,rfl,rfl,hA⟩:=hI
  have si:=siw i.toNat (by omega)
  have evl:=aav (t:=t) (b:=b) i.toNat (by omega)
  have cn:=Cn.run (b.ops.take i.toNat) (s0 t) ⟨rfl,rfl⟩
  have cn:Cn (SW t b i.toNat):=cn
  by_cases h7:i<b.ops.length
  case neg=>
   have en:=c3.en
   have hf:=en.f
   have hpc:=c3.pc
   have hln:=c3.ln
   have ein:i.toNat=b.ops.length:=by omega
   have eS:SW t b i.toNat=gP t b:=by unfold SW gP;rw [ein,List.take_of_length_le (Nat.le_refl _)]
   obtain⟨a3,a4,a5,a6⟩:=hA
   rw [eS]at a3 a4 a5 a6 si
   subst a3 a4 a5 a6
   have pk:=Ki (b:=b) si
   have eR:=rM c1 c2 c3
   have sh:ShY (zq b (gP t b)):=by
    have hs:=Kh b.ops 0 (s0 t) i0 hk3 (by omega) (by omega) ⟨by simp [s0],fun e he=>absurd he (by simp [s0])⟩
    exact⟨⟨by have:=hs.1;show(b.ops.foldl stp (s0 t)).evs.length<_;omega,hs.2⟩,si.regs,pk.1.sh,pk.2.sh⟩
   have sl:=si.vl
   have x1:=en.x1
   have y1:=en.y1
   have EX:f13 (if b.fin=1 then-1 else b.x,(gP t b).vals,())=((zq b (gP t b)).x,(gP t b).vals,()):=by
    rw [ac0]
    show _=(if b.fin=1 then []else(((gP t b).vals).getD (b.x).toNat default),_)
    by_cases c:b.fin=1
    ·rw [if_pos c,if_pos c,if_pos (by omega)]
    ·obtain⟨v1,v2,_⟩:=x1 c
     rw [if_neg c,if_neg c,if_neg (by omega)]
   have EY:f13 (if b.fin=1∨b.fin=2 then-1 else b.y,(gP t b).vals,())=((zq b (gP t b)).y,(gP t b).vals,()):=by
    rw [ac0]
    show _=(if 3≤b.fin then(((gP t b).vals).getD (b.y).toNat default)else [],_)
    by_cases c:b.fin=1∨b.fin=2
    ·rw [if_pos c,if_pos (Or.inl (by decide)),if_neg (show¬3≤b.fin by omega)]
    ·obtain⟨v1,v2,_⟩:=y1 (by omega)
     rw [if_neg c,if_neg (show¬(b.y<0∨((gP t b).vals.length:Int)≤b.y) by omega),if_pos (show 3≤b.fin by have:=hf;omega)]
   have shr:ShP (gP t b).regs:=sh.r
   simp (disch:=omega) only [RR,RB,h7,atM _ shr,atN _ shr,atO,atP,atQ,atS,Kk,EX,EY,hp7 _ sh.x,hf7 _ sh.x,hp7 _ sh.y,hf7 _ sh.y]
   exact⟨hp4 _ _ sh,by rw [eR];exact congrArg (fun z=>((gP t b).t,z.1,())) (hf4 (zq b (gP t b)) (b.pc+b.len) sh)⟩
  have hok:=hop i h1 h7
  have nxt:=fun {v:List aj} {tb':List Atom} {ev':List Ev} {rg':List (List aj)}=>Pt2.next (o:=((b.ops).getD (i).toNat default)) hA (by omega) rfl (v:=v) (tb':=tb') (ev':=ev') (rg':=rg')
  obtain⟨a3,a4,a5,a6⟩:=hA
  have ei:(i+1).toNat=i.toNat+1:=by omega
  obtain⟨sn,so⟩:=Hl (o:=((b.ops).getD (i).toNat default)) si hok.k3 (by omega) (by omega)
  have vl:=si.vl
  have shv:∀k:Int,Sh (if k<0∨(V.length:Int)≤k then []else((V).getD (k).toNat default)):=fun k=>by
   split
   ·exact⟨by simp,fun m hm=>absurd hm (by simp)⟩
   ·rw [a4];exact(AQ si.vok k).1.sh
  obtain⟨X,eX⟩:∃X,X=if(((b.ops).getD (i).toNat default)).x<0∨(V.length:Int)≤(((b.ops).getD (i).toNat default)).x then []else((V).getD ((((b.ops).getD (i).toNat default)).x).toNat default):=⟨_,rfl⟩
  obtain⟨Y,eY⟩:∃Y,Y=if(((b.ops).getD (i).toNat default)).y<0∨(V.length:Int)≤(((b.ops).getD (i).toNat default)).y then []else((V).getD ((((b.ops).getD (i).toNat default)).y).toNat default):=⟨_,rfl⟩
  have F1:f13 ((((b.ops).getD (i).toNat default)).x,V,())=(X,V,()):=by rw [ac0,eX]
  have F2:f13 ((((b.ops).getD (i).toNat default)).y,V,())=(Y,V,()):=by rw [ac0,eY]
  have shx:Sh X:=eX▸shv _
  have shy:Sh Y:=eY▸shv _
  have ex:hX ((b.ops).getD (i).toNat default)→X=xOf (SW t b i.toNat) ((b.ops).getD (i).toNat default):=fun h=>by
   have v:=hok.x1 h
   have v2:=v.2.1
   unfold xOf;rw [if_pos h,eX,if_neg (by rw [a4,vl];have:=v.1;omega),a4]
  have ey:hY ((b.ops).getD (i).toNat default)→Y=yOf (SW t b i.toNat) ((b.ops).getD (i).toNat default):=fun h=>by
   have v:=hok.y1 h
   have v2:=v.2.1
   unfold yOf;rw [if_pos h,eY,if_neg (by rw [a4,vl];have:=v.1;omega),a4]
  clear eX eY shv
  have vl':V.length=i.toNat:=by rw [a4];exact vl
  generalize hs:SW t b i.toNat=s at*
  generalize ho:((b.ops).getD (i).toNat default)=o at*
  have kd:=hok.kd
  subst a3 a5 a6
  have r4:s.regs.length=4:=si.r4
  have tsh:=si.tok.sh
  have cnl:=cn.ld
  have cni:=cn.inn
  have rsh:ShP s.regs:=si.regs
  have dn:=fun {v:List aj} {tb':List Atom} {ev':List Ev} {rg':List (List aj)} (h3:tb'=nT s o) (h4:v=nV s o) (h5:ev'=nE s o) (h6:rg'=nR s o)=>show((V.length:Int)+([v].length:Int)≤1073741824)∧(0≤i+1∧i+1≤b.ops.length∧Pt2 t b (i+1).toNat tb' (V++ [v]) ev' rg')∧(b.ops.length- (i+1)).toNat< (b.ops.length-i).toNat from⟨by simp only [List.length_cons,List.length_nil];omega,⟨by omega,by omega,by rw [ei];exact nxt h3 h4 h5 h6⟩,by omega⟩
  have el1:∀e:Ev,(s.evs.length:Int)+([e].length:Int)≤1073741824:=fun e=>by simp only [List.length_cons,List.length_nil];omega
  have T0:o.kind≠3→o.kind≠4→o.kind≠6→s.t=nT s o:=fun h3 h4 h6=>by unfold nT;rw [if_neg h3,if_neg (by omega)]
  have R0:o.kind≠8→s.regs=nR s o:=fun h=>by unfold nR;rw [if_neg h]
  have E0:¬evO o→s.evs=nE s o:=fun h=>by unfold nE;rw [if_neg h]
  have V0:o.kind=5∨o.kind=7∨o.kind=8→[]=nV s o:=fun h=>by unfold nV;rw [if_neg (by omega),if_neg (by omega),if_neg (by omega),if_neg (by omega)]
  rcases(by omega:o.kind=1∨o.kind=2∨o.kind=3∨o.kind=4∨o.kind=5∨o.kind=6∨o.kind=7∨o.kind=8)with c | c | c | c | c | c | c | c
  ·simp (disch:=omega) only [RR,RB,ho,h7,Kk,F1,F2,c,Int.reduceEq,hp3,hf3]
   exact⟨h1,dn (T0 (by omega) (by omega) (by omega)) (show dA o.k=nV s o by unfold nV;rw [if_pos c]) (E0 (by unfold evO;omega)) (R0 (by omega))⟩
  ·have k2:=hok.k2 (Or.inl c)
   simp (disch:=omega) only [RR,RB,ho,h7,Kk,F1,F2,c,Int.reduceEq,r4]
   exact⟨h1,k2.1,by omega,k2.1,by omega,dn (T0 (by omega) (by omega) (by omega)) (show((s.regs).getD (o.k).toNat default)=nV s o by unfold nV;rw [if_neg (by omega),if_pos c]) (E0 (by unfold evO;omega)) (R0 (by omega))⟩
  ·have d9:=hok.k3 c
   simp (disch:=omega) only [RR,RB,ho,h7,Kk,F1,F2,c,Int.reduceEq,hp9 o.k _ _ _ d9 shx shy tsh si.tok,hf9 o.k _ _ _ d9 shx shy tsh si.tok]
   have e1:=ex (by unfold hX;omega)
   have e2:=ey (by unfold hY;omega)
   exact⟨h1,dn (show(tDo s.t o.k X Y).1=nT s o by unfold nT;rw [if_pos c,e1,e2]) (show(tDo s.t o.k X Y).2=nV s o by unfold nV;rw [if_neg (by omega),if_neg (by omega),if_pos c,e1,e2]) (E0 (by unfold evO;omega)) (R0 (by omega))⟩
  ·have el:s.evs.length<1000000000:=by omega
   have ea:aOf s o=⟨2,pK s.evs 4,[],[]⟩:=by unfold aOf;rw [if_pos c,cnl]
   have e1:=ex (by unfold hX;omega)
   have e2:yOf s o=[]:=by unfold yOf;rw [if_neg (by unfold hY;omega)]
   simp (disch:=omega) only [RR,RB,ho,h7,Kk,F1,F2,c,Int.reduceEq,acY s.evs 4 s.t el tsh si.tok,acZ s.evs 4 s.t el tsh si.tok,Sw o X Y s.regs shx shy rsh,Sy o X Y s.regs shx shy rsh,el1]
   exact⟨h1,dn (by unfold nT;rw [if_neg (by omega),if_pos (Or.inl c),ea]) (by unfold nV;rw [if_neg (by omega),if_neg (by omega),if_neg (by omega),if_pos (Or.inl c),ea]) (by unfold nE;rw [if_pos (by unfold evO;omega),if_pos (Or.inl c),c,e1,e2]) (R0 (by omega))⟩
  ·have e1:=ex (by unfold hX;omega)
   have e2:=ey (by unfold hY;omega)
   simp (disch:=omega) only [RR,RB,ho,h7,Kk,F1,F2,c,Int.reduceEq,Sw o X Y s.regs shx shy rsh,Sy o X Y s.regs shx shy rsh,el1]
   exact⟨h1,dn (T0 (by omega) (by omega) (by omega)) (V0 (by omega)) (by unfold nE;rw [if_pos (by unfold evO;omega),if_pos (Or.inr c),c,e1,e2]) (R0 (by omega))⟩
  ·have el:s.evs.length<1000000000:=by omega
   have ea:aOf s o=⟨3,pK s.evs 6,[],[]⟩:=by unfold aOf;rw [if_neg (by omega),cni]
   have e1:xOf s o=[]:=by unfold xOf;rw [if_neg (by unfold hX;omega)]
   have e2:yOf s o=[]:=by unfold yOf;rw [if_neg (by unfold hY;omega)]
   simp (disch:=omega) only [RR,RB,ho,h7,Kk,F1,F2,c,Int.reduceEq,acY s.evs 6 s.t el tsh si.tok,acZ s.evs 6 s.t el tsh si.tok,Sw o X Y s.regs shx shy rsh,Sy o X Y s.regs shx shy rsh,el1]
   exact⟨h1,dn (by unfold nT;rw [if_neg (by omega),if_pos (Or.inr c),ea]) (by unfold nV;rw [if_neg (by omega),if_neg (by omega),if_neg (by omega),if_pos (Or.inr c),ea]) (by unfold nE;rw [if_pos (by unfold evO;omega),if_neg (by omega),c,e1,e2]) (R0 (by omega))⟩
  ·have e1:=ex (by unfold hX;omega)
   have e2:yOf s o=[]:=by unfold yOf;rw [if_neg (by unfold hY;omega)]
   simp (disch:=omega) only [RR,RB,ho,h7,Kk,F1,F2,c,Int.reduceEq,Sw o X Y s.regs shx shy rsh,Sy o X Y s.regs shx shy rsh,el1]
   exact⟨h1,dn (T0 (by omega) (by omega) (by omega)) (V0 (by omega)) (by unfold nE;rw [if_pos (by unfold evO;omega),if_neg (by omega),c,e1,e2]) (R0 (by omega))⟩
  ·have k2:=hok.k2 (Or.inr c)
   have e1:=ex (by unfold hX;omega)
   simp (disch:=omega) only [RR,RB,ho,h7,Kk,F1,F2,c,Int.reduceEq,r4]
   exact⟨h1,k2.1,by omega,k2.1,by omega,dn (T0 (by omega) (by omega) (by omega)) (V0 (by omega)) (E0 (by unfold evO;omega)) (by unfold nR;rw [if_pos c,e1])⟩
end Go.TX.F
namespace Go.TX.F
open Go Go.AE Go.TX
theorem aiV {α:Type} [Inhabited α] (l:List α) (a:α) (i:Int) (h:0≤i):((l++ [a]).getD (i).toNat default)=if i=l.length then a else((l).getD (i).toNat default):=by
 by_cases c:i=l.length
 ·rw [if_pos c,c,List.getD_eq_getElem?_getD];simp
 ·rw [if_neg c,List.getD_eq_getElem?_getD,List.getD_eq_getElem?_getD]
  by_cases d:i.toNat<l.length
  ·rw [List.getElem?_append_left d]
  ·rw [List.getElem?_eq_none (by rw [List.length_append,List.length_singleton];omega),List.getElem?_eq_none (by omega)]
theorem Wt {n:Int} {t u:List Atom} (h:O4 n t) (g:O4 n u):t=u:=by
 obtain⟨h1,h2⟩:=h
 obtain⟨g1,g2⟩:=g
 exact mg (by omega) fun i i0 i1=>by
  have a:=h2 i i0 (by omega)
  have b:=g2 i i0 (by omega)
  exact a.trans b.symm
theorem U3:∀n:Nat,n≤4→O4 n (rN [] n).1
 | 0,_=>⟨rfl,All.zero⟩
 | n+1,hn=>by
  obtain⟨h1,h2⟩:=U3 n (by omega)
  have ok:=BU vP (by simp) n (by omega)
  have e:aX (rN [] n).1 ⟨1,n,[],[]⟩=((rN [] n).1++ [⟨1,n,[],[]⟩],((rN [] n).1.length:Int)):=by
   rcases jE (rN [] n).1 ⟨1,n,[],[]⟩with⟨f1,f2⟩ | ⟨f1,f2,f3,_⟩
   ·unfold aX
    rw [if_neg (by omega),if_neg]
    rintro(g | g)
    ·exact g (by unfold iq;rw [if_neg (by simp)];exact⟨⟨rfl,rfl⟩,Or.inl ⟨rfl,by dsimp only;omega,by dsimp only;omega⟩⟩)
    ·omega
   ·exfalso
    have a:=h2 _ f1 (by omega)
    dsimp only at a f3
    rw [a]at f3
    injection f3 with _ g
    omega
  have e2:(rN [] (n+1)).1=(rN [] n).1++ [⟨1,n,[],[]⟩]:=by rw [CF,e]
  rw [e2]
  refine⟨by rw [List.length_append,List.length_singleton];omega,fun i i0 i1=> ?_⟩
  dsimp only
  rw [aiV _ _ _ i0]
  by_cases c:i=((rN [] n).1.length:Int)
  ·rw [if_pos c,c,h1]
  ·rw [if_neg c];exact h2 i i0 (by omega)
theorem ap4 {t:List Atom} (h:O4 4 t):t=t4:=Wt h (U3 4 (Nat.le_refl _))
end Go.TX.F
namespace Go.TX.F
open Go Go.AE Go.TX
theorem aiW {p1:List aj×List aj×Unit→Bool} {f1:List aj×List aj×Unit→Int×Unit} (hp1:∀a b,Sh a→p1 (a,b,())=true) (hf1:∀a b,Sh a→f1 (a,b,())=(eZ a b,())) (a b:List (List aj)) (ha:ShP a):RL (std 0) p1 f1 (a,b,()) (fun y=>y=(bp (a=b),())):=by
 have hlen:=ha.1
 dsimp only [RL,Alg.cl,Alg.cg,Alg.rb,Alg.bd,Alg.l1,Tup.q,Tup.o]
 simp (disch:=omega) only [RR]
 refine⟨fun h=> ?_,fun h=> ?_⟩
 ·rw [bN (fun e=>h (by rw [e]))]
 have hl:a.length=b.length:=by omega
 refine ak (fun(y:List (List aj)×List (List aj)×Int×Unit)=>y.1=a∧y.2.1=b∧0≤y.2.2.1∧y.2.2.1≤a.length∧All y.2.2.1 (fun i=>a.getD i.toNat default=b.getD i.toNat default)) (fun y=>(a.length-y.2.2.1).toNat) ⟨rfl,rfl,by simp,by simp,All.zero⟩ ?_
 rintro⟨(l1:List (List aj)),(l2:List (List aj)),(i:Int),⟨⟩⟩ hI
 dsimp only at hI ⊢
 obtain⟨rfl,rfl,h1,h2,h3⟩:=hI
 simp (disch:=omega) only [RR,hp1 _ _ (ha.at _),hf1 _ _ (ha.at _),iJ]
 refine⟨fun h4=>⟨by omega,by omega,by omega,by omega,fun h5=> ?_,fun h5=>⟨⟨by omega,by omega,h3.snoc h5⟩,by omega⟩⟩,fun h4=> ?_⟩
 ·rw [bN]
  intro e;rw [e]at h5;exact h5 rfl
 ·rw [dh (mg hl (h3.le (by omega)))]
theorem aiX {p1:List aj×List aj×Unit→Bool} {f1:List aj×List aj×Unit→Int×Unit} (hp1:∀a b,Sh a→p1 (a,b,())=true) (hf1:∀a b,Sh a→f1 (a,b,())=(eZ a b,())) {p2:List (List aj)×List (List aj)×Unit→Bool} {f2:List (List aj)×List (List aj)×Unit→Bool×Unit} (hp2:∀a b,ShP a→p2 (a,b,())=true) (hf2:∀a b,ShP a→f2 (a,b,())=(bp (a=b),())) (a b:Ev) (ha:ShE a):RN (std 0) p1 f1 p2 f2 (a,b,()) (fun y=>y=(bp (a=b),())):=by
 dsimp only [RN,Alg.cl,Alg.cg,Alg.rb,Alg.bd,Alg.l1,Tup.q,Tup.o]
 simp (disch:=omega) only [RR,RB,hp1 _ _ ha.1,hf1 _ _ ha.1,hp1 _ _ ha.2.1,hf1 _ _ ha.2.1,hp2 _ _ ha.2.2,hf2 _ _ ha.2.2,iJ]
 simp only [AU,←nu]
 refine Prod.ext (lI ?_) rfl
 cases a;cases b;simp only [Ev.mk.injEq]
 constructor<;>(intro h;simp only [h,and_self])
theorem aiY {p1:List aj×List aj×Unit→Bool} {f1:List aj×List aj×Unit→Int×Unit} (hp1:∀a b,Sh a→p1 (a,b,())=true) (hf1:∀a b,Sh a→f1 (a,b,())=(eZ a b,())) {p2:Ev×Ev×Unit→Bool} {f2:Ev×Ev×Unit→Bool×Unit} (hp2:∀a b,ShE a→p2 (a,b,())=true) (hf2:∀a b,ShE a→f2 (a,b,())=(bp (a=b),())) {p3:List (List aj)×List (List aj)×Unit→Bool} {f3:List (List aj)×List (List aj)×Unit→Bool×Unit} (hp3:∀a b,ShP a→p3 (a,b,())=true) (hf3:∀a b,ShP a→f3 (a,b,())=(bp (a=b),())) (a b:Sym) (ha:ShY a):RQ (std 0) p1 f1 p2 f2 p3 f3 (a,b,()) (fun y=>y=(bp (a=b),())):=by
 dsimp only [RQ,Alg.cl,Alg.cg,Alg.rb,Alg.bd,Alg.l1,Tup.q,Tup.o]
 simp (disch:=omega) only [RR,RB,hp1 _ _ ha.x,hf1 _ _ ha.x,hp1 _ _ ha.y,hf1 _ _ ha.y,hp3 _ _ ha.r,hf3 _ _ ha.r,iJ,aY,iM]
 have hlen:=ha.e.1
 refine⟨fun h=> ?_,fun h=> ?_⟩
 ·rw [bN];rintro rfl
  revert h;simp
 refine ak (fun(y:Int×Sym×Sym×Unit)=>y.2.1=a∧y.2.2.1=b∧0≤y.1∧y.1≤a.events.length∧All y.1 (fun i=>a.events.getD i.toNat default=b.events.getD i.toNat default)) (fun y=>(a.events.length-y.1).toNat) ⟨rfl,rfl,by simp,by simp,All.zero⟩ ?_
 rintro⟨(i:Int),(a':Sym),(b':Sym),⟨⟩⟩ hI
 dsimp only at hI ⊢
 obtain⟨rfl,rfl,h1,h2,h3⟩:=hI
 have hl:a'.events.length=b'.events.length:=by
  have:=h.1.1.1.1.1;omega
 simp (disch:=omega) only [RR,RB,hp2 _ _ (ha.e.at _),hf2 _ _ (ha.e.at _),aY,iM]
 refine⟨fun h4=>⟨by omega,by omega,by omega,by omega,fun h5=> ?_,fun h5=>⟨⟨by omega,by omega,h3.snoc h5⟩,by omega⟩⟩,fun h4=> ?_⟩
 ·rw [bN]
  rintro rfl;exact h5 rfl
 ·rw [dh]
  obtain⟨⟨⟨⟨⟨g1,g2⟩,g3⟩,g4⟩,g5⟩,g6⟩:=h
  exact Sym.ext (mg hl (h3.le (by omega))) g2 (by omega) g5 g6 (by omega)
theorem aiZ {p1:Blk×Unit→Bool} {f1:Blk×Unit→Bool×Unit} (hp1:∀b,b.ops.length<1000000000→p1 (b,())=true) (hf1:∀b,b.ops.length<1000000000→f1 (b,())=(bp (kX b),())) {p2:Blk×Blk×Unit→Bool} {f2:Blk×Blk×Unit→Bool×Unit} (hp2:∀a b,a.ops.length<1000000000→p2 (a,b,())=true) (hf2:∀a b,a.ops.length<1000000000→f2 (a,b,())=(bp (a=b),())) {p3:Unit→Bool} {f3:Unit→List Atom×List (List aj)×Unit} (hp3:p3 ()=true) (hf3:O4 4 (f3 ()).1∧(f3 ()).2.1.length=4∧∀p∈(f3 ()).2.1,Sh p) {p4:List Atom×Blk×Unit→Bool} {f4:List Atom×Blk×Unit→List Atom×Sym×Unit} (hp4:∀t b,ShT t→b.ops.length<1000000000→p4 (t,b,())=true) (hf4:∀t b,ShT t→b.ops.length<1000000000→f4 (t,b,())=((bK t b).1,(bK t b).2,())) {p5:Sym×Sym×Unit→Bool} {f5:Sym×Sym×Unit→Bool×Unit} (hp5:∀a b,ShY a→p5 (a,b,())=true) (hf5:∀a b,ShY a→f5 (a,b,())=(bp (a=b),())) (b c:Blk) (hb:b.ops.length<1000000000) (hc:c.ops.length<1000000000):RS (std 0) p1 f1 p2 f2 p3 f3 p4 f4 p5 f5 (b,c,()) (fun y=>y=(chk b c,())):=by
 have s4:ShT t4:=UZ.1.sh
 have y1:=zw t4 b
 have hf3:=ap4 hf3.1
 dsimp only [RS,Alg.cl,Alg.cg,Alg.rb,Alg.bd,Alg.l1,Tup.q,Tup.o]
 simp (disch:=omega) only [RR,RB,hp1 b hb,hf1 b hb,hp1 c hc,hf1 c hc,hp2 b c hb,hf2 b c hb,hp3,hf3,hp4 t4 b s4 hb,hf4 t4 b s4 hb,hp4 _ c y1.2 hc,hf4 _ c y1.2 hc,hp5 _ _ y1.1,hf5 _ _ y1.1,aY,iM]
 unfold chk
 refine⟨fun h=> ?_,fun h=>⟨fun e=> ?_,fun e=> ?_⟩⟩
 ·rw [bN];rintro⟨h1,h2,h3,h4,_⟩;simp_all
 ·rw [dh];exact⟨h.1.1.1,h.1.1.2,by simp_all,by simp_all,Or.inl e⟩
 ·refine Prod.ext (lI ⟨fun g=>⟨h.1.1.1,h.1.1.2,by simp_all,by simp_all,Or.inr g⟩,fun g=>g.2.2.2.2.resolve_left e⟩) rfl
def ai0 (q:Cer):Int×Int×Int×Int×Int×Int×Int×Int×Int×Int×Int×Int×List IOp×List IOp×Unit:=(q.base.pc,q.base.len,q.base.fin,q.base.x,q.base.y,q.base.k,q.made.pc,q.made.len,q.made.fin,q.made.x,q.made.y,q.made.k,q.base.ops,q.made.ops,())
theorem ai1 {p1:Blk×Blk×Unit→Bool} {f1:Blk×Blk×Unit→Bool×Unit} (hp1:∀b c,b.ops.length<1000000000→c.ops.length<1000000000→p1 (b,c,())=true) (hf1:∀b c,b.ops.length<1000000000→c.ops.length<1000000000→f1 (b,c,())=(chk b c,())) (l:List Cer) (h:ShD l):Sg (std 0) p1 f1 (l,()) (fun y=>y=(bp (O8 l),())):=by
 have mE:∀c:Blk,Co.mk .blk (c.pc,c.len,c.ops,c.fin,c.x,c.y,c.k,())=c:=fun _=>rfl
 dsimp only [Sg,Alg.cl,Alg.cg,Alg.rb,Alg.bd,Alg.l1,Tup.q,Tup.o,Alg.cl,Alg.cg,Alg.rb,Alg.bd,Alg.l1,Tup.q,Tup.o,Dw]
 have L:=h.1
 simp (disch:=omega) only [RR,CRB,mE]
 refine⟨fun g=>by rw [bN (fun e=>by have:=e.1;omega)],fun g=> ?_⟩
 refine ak (fun(y:List Cer×Int×Unit)=>y.1=l∧0≤y.2.1∧y.2.1≤l.length∧¬∃q∈l.take y.2.1.toNat,chk q.base q.made=false) (fun y=>(l.length-y.2.1).toNat) ⟨rfl,by simp,by simp,by rintro⟨q,h,_⟩;cases h⟩ ?_
 rintro⟨(l':List Cer),(i:Int),⟨⟩⟩ hI
 dsimp only at hI ⊢
 obtain⟨rfl,h1,h2,h3⟩:=hI
 have a:=h.at i.toNat
 simp (disch:=omega) only [RR,CRB,mE,hp1 (((l').getD (i).toNat default)).base (((l').getD (i).toNat default)).made (by omega) (by omega),hf1 (((l').getD (i).toNat default)).base (((l').getD (i).toNat default)).made (by omega) (by omega)]
 refine⟨fun g4=>⟨h1,g4,h1,g4,fun e=> ?_,fun e=>⟨⟨by omega,by omega,?_⟩,by omega⟩⟩,fun g4=> ?_⟩
 ·rw [bN];intro v;have:=v.2 _ (dD h1 g4 (d:=default));rw [e]at this;cases this
 ·rw [show(i+1).toNat=i.toNat+1 by omega]
  exact fun x=>((U2 (G:=fun q:Cer=>chk q.base q.made=false) (by omega)).1 x).elim h3 (fun z=>by rw [e]at z;cases z)
 ·rw [List.take_of_length_le (by omega)]at h3
  rw [dh]
  exact⟨by omega,fun q hq=>by
   cases c:chk q.base q.made with
   | true=>rfl
   | false=>exact absurd ⟨q,hq,c⟩ h3⟩
end Go.TX.F
namespace Go.TX.F
open Go Go.AE Go.TX
def o5 (o:IOp):Int×Int×Int×Int×Int×Unit:=(o.kind,o.x,o.y,o.k,o.at_,())
theorem set_mid {α:Type} {l:List α} {z d x:α} {i:Int} (h0:0≤i) (h:i<l.length) (e:x=l.getD i.toNat d):(l.take i.toNat++List.replicate (l.length-i.toNat) z).set i.toNat x=l.take (i+1).toNat++List.replicate (l.length- (i+1).toNat) z:=by
 have ht:(l.take i.toNat).length=i.toNat:=by rw [List.length_take];omega
 rw [List.set_append_right _ _ (by omega),ht,Nat.sub_self,show l.length-i.toNat=(l.length- (i+1).toNat)+1 by omega,List.replicate_succ,List.set_cons_zero,←bW h0 h e,List.append_assoc];rfl
theorem U4 {α:Type} {l:List α} {z:α} {i:Nat} (h:i≤l.length):(l.take i++List.replicate (l.length-i) z).length=l.length:=by
 rw [List.length_append,List.length_take,List.length_replicate];omega
theorem adN (o:IOp):XW (std 0) (o,()) (fun y=>y=o5 o):=by
 dsimp only [XW,Alg.cl,Alg.cg,Alg.rb,Alg.bd,Alg.l1,Tup.q,Tup.o]
 simp (disch:=omega) only [RR,RB];rfl
theorem ap5 {p1:IOp×Unit→Bool} {f1:IOp×Unit→Int×Int×Int×Int×Int×Unit} (hp1:∀o,p1 (o,())=true) (hf1:∀o,f1 (o,())=o5 o) (l:List IOp) (h:l.length<1000000000):XY (std 0) p1 f1 (l,()) (fun y=>y=(l,())):=by
 dsimp only [XY,Alg.cl,Alg.cg,Alg.rb,Alg.bd,Alg.l1,Tup.q,Tup.o]
 simp (disch:=omega) only [RR]
 refine⟨by omega,by omega,ak (fun(y:List IOp×Int×List IOp×Unit)=>y.1=l∧0≤y.2.1∧y.2.1≤l.length∧y.2.2.1=l.take y.2.1.toNat++List.replicate (l.length-y.2.1.toNat) ⟨0,0,0,0,0⟩) (fun y=>(l.length-y.2.1).toNat) ⟨rfl,by simp,by simp,rfl⟩ ?_⟩
 rintro⟨(l:List IOp),(i:Int),(o:List IOp),⟨⟩⟩ hI
 dsimp only at hI ⊢
 obtain⟨rfl,h1,h2,rfl⟩:=hI
 have ml:=U4 (l:=l) (z:=(⟨0,0,0,0,0⟩:IOp)) (i:=i.toNat) (by omega)
 simp (disch:=omega) only [RR,hp1,hf1,ml]
 refine⟨fun g=>⟨by omega,by omega,by omega,by omega,by omega,by omega,⟨by omega,by omega,set_mid h1 g rfl⟩,by omega⟩,fun g=> ?_⟩
 rw [List.take_of_length_le (by omega),show l.length-i.toNat=0 by omega];simp
theorem ap6 {p1:List IOp×Unit→Bool} {f1:List IOp×Unit→List IOp×Unit} (hp1:∀l,l.length<1000000000→p1 (l,())=true) (hf1:∀l,l.length<1000000000→f1 (l,())=(l,())) (b:Blk) (h:b.ops.length<1000000000):XZ (std 0) p1 f1 (b,()) (fun y=>y=bk7 b):=by
 dsimp only [XZ,Alg.cl,Alg.cg,Alg.rb,Alg.bd,Alg.l1,Tup.q,Tup.o]
 simp (disch:=omega) only [RR,RB,hp1 _ h,hf1 _ h]
theorem adO (a b:IOp):ZG (std 0) (a,b,()) (fun y=>y=(bp (a=b),())):=by
 dsimp only [ZG,Alg.cl,Alg.cg,Alg.rb,Alg.bd,Alg.l1,Tup.q,Tup.o]
 simp (disch:=omega) only [RR,RB]
 refine⟨fun h=> ?_,fun h=>⟨fun h2=> ?_,fun h2=>⟨fun h3=> ?_,fun h3=>⟨fun h4=> ?_,fun h4=>⟨fun h5=> ?_,fun h5=> ?_⟩⟩⟩⟩⟩
 all_goals first | (rw [bN];rintro rfl;simp_all;done) | (rw [dh];cases a;cases b;simp_all)
theorem ap7 {p1:IOp×IOp×Unit→Bool} {f1:IOp×IOp×Unit→Bool×Unit} (hp1:∀a b,p1 (a,b,())=true) (hf1:∀a b,f1 (a,b,())=(bp (a=b),())) (a b:List IOp) (hlen:a.length<1000000000):ZH (std 0) p1 f1 (a,b,()) (fun y=>y=(bp (a=b),())):=by
 dsimp only [ZH,Alg.cl,Alg.cg,Alg.rb,Alg.bd,Alg.l1,Tup.q,Tup.o]
 simp (disch:=omega) only [RR]
 refine⟨fun h=> ?_,fun h=> ?_⟩
 ·rw [bN (fun e=>h (by rw [e]))]
 have hl:a.length=b.length:=by omega
 refine ak (fun(y:List IOp×List IOp×Int×Unit)=>y.1=a∧y.2.1=b∧0≤y.2.2.1∧y.2.2.1≤a.length∧All y.2.2.1 (fun i=>a.getD i.toNat default=b.getD i.toNat default)) (fun y=>(a.length-y.2.2.1).toNat) ⟨rfl,rfl,by simp,by simp,All.zero⟩ ?_
 rintro⟨(l1:List IOp),(l2:List IOp),(i:Int),⟨⟩⟩ hI
 dsimp only at hI ⊢
 obtain⟨rfl,rfl,h1,h2,h3⟩:=hI
 simp (disch:=omega) only [RR,hp1,hf1,aY,iM]
 refine⟨fun h4=>⟨by omega,by omega,by omega,by omega,fun h5=> ?_,fun h5=>⟨⟨by omega,by omega,h3.snoc h5⟩,by omega⟩⟩,fun h4=> ?_⟩
 ·rw [bN]
  intro e;rw [e]at h5;exact h5 rfl
 ·rw [dh (mg hl (h3.le (by omega)))]
theorem ap8 {p1:List IOp×List IOp×Unit→Bool} {f1:List IOp×List IOp×Unit→Bool×Unit} (hp1:∀a b,a.length<1000000000→p1 (a,b,())=true) (hf1:∀a b,a.length<1000000000→f1 (a,b,())=(bp (a=b),())) (a b:Blk) (h:a.ops.length<1000000000):ZI (std 0) p1 f1 (a,b,()) (fun y=>y=(bp (a=b),())):=by
 dsimp only [ZI,Alg.cl,Alg.cg,Alg.rb,Alg.bd,Alg.l1,Tup.q,Tup.o]
 simp (disch:=omega) only [RR,RB,hp1 _ b.ops h,hf1 _ b.ops h,aY,iM]
 have e:a=b↔a.pc=b.pc∧a.len=b.len∧a.ops=b.ops∧a.fin=b.fin∧a.x=b.x∧a.y=b.y∧a.k=b.k:=by
  cases a;cases b;simp only [Blk.mk.injEq]
 by_cases e1:a.pc=b.pc
 ·by_cases e2:a.len=b.len
  ·by_cases e3:a.ops=b.ops
   ·by_cases e4:a.fin=b.fin
    ·by_cases e5:a.x=b.x
     ·by_cases e6:a.y=b.y
      ·by_cases e7:a.k=b.k
       ·rw [dh (e.2 ⟨e1,e2,e3,e4,e5,e6,e7⟩)];simp [e1,e2,e3,e4,e5,e6,e7]
       ·rw [bN (fun g=>e7 (e.1 g).2.2.2.2.2.2)];simp [e7]
      ·rw [bN (fun g=>e6 (e.1 g).2.2.2.2.2.1)];simp [e6]
     ·rw [bN (fun g=>e5 (e.1 g).2.2.2.2.1)];simp [e5]
    ·rw [bN (fun g=>e4 (e.1 g).2.2.2.1)];simp [e4]
   ·rw [bN (fun g=>e3 (e.1 g).2.2.1)];simp [e3]
  ·rw [bN (fun g=>e2 (e.1 g).2.1)];simp [e2]
 ·rw [bN (fun g=>e1 (e.1 g).1)];simp [e1]
def szL (n m:Int):Int:=if m-n<0 then-1 else m-n
theorem adP (l:List IOp) (m:Int) (h:l.length<9223372036854775808) (h0:0≤m) (h1:m≤1048576):XH (std 0) (l,m,()) (fun y=>y=(szL l.length m,())):=by
 dsimp only [XH,Alg.cl,Alg.cg,Alg.rb,Alg.bd,Alg.l1,Tup.q,Tup.o]
 simp (disch:=omega) only [RR]
 unfold szL
 refine⟨fun g=>by rw [if_pos g],fun g=>by rw [if_neg (by omega)]⟩
theorem Ho {n:Nat} {m:Int} (h1:m≤1048576):(szL n m<0→szL n m= -1)∧(0≤szL n m→(n:Int)≤1048576∧szL n m≤1048576):=by
 unfold szL
 split<;>exact⟨fun _=>by omega,fun _=>by omega⟩
theorem ap9 {p1:List IOp×Int×Unit→Bool} {f1:List IOp×Int×Unit→Int×Unit} (hp1:∀l m,l.length<9223372036854775808→0≤m→m≤1048576→p1 (l,m,())=true) (hf1:∀l m,l.length<9223372036854775808→0≤m→m≤1048576→f1 (l,m,())=(szL l.length m,())) (b:Blk) (m:Int) (h:b.ops.length<9223372036854775808) (h0:0≤m) (h1:m≤1048576):XI (std 0) p1 f1 (b,m,()) (fun y=>y=(szL b.ops.length m,())):=by
 dsimp only [XI,Alg.cl,Alg.cg,Alg.rb,Alg.bd,Alg.l1,Tup.q,Tup.o]
 simp (disch:=omega) only [RR,RB,hp1 _ m h h0 h1,hf1 _ m h h0 h1]
 exact fun g=>by rw [(Ho h1).1 g]
def szP (q:Cer) (m:Int):Int:=if szL q.base.ops.length m<0 then-1 else szL q.made.ops.length (szL q.base.ops.length m)
def ShI (q:Cer):Prop:=q.base.ops.length<9223372036854775808∧q.made.ops.length<9223372036854775808
theorem aaD {q:Cer} {m:Int} (h1:m≤1048576):(szP q m<0→szP q m= -1)∧(0≤szP q m→q.base.ops.length<1000000000∧q.made.ops.length<1000000000∧szP q m≤1048576):=by
 unfold szP
 have s1:=Ho (n:=q.base.ops.length) h1
 split
 ·exact⟨fun _=>rfl,fun _=>by omega⟩
 ·have g:=s1.2 (by omega)
  have s2:=Ho (n:=q.made.ops.length) g.2
  exact⟨s2.1,fun k=>by have:=s2.2 k;omega⟩
theorem aqa {p1:Blk×Int×Unit→Bool} {f1:Blk×Int×Unit→Int×Unit} (hp1:∀b m,b.ops.length<9223372036854775808→0≤m→m≤1048576→p1 (b,m,())=true) (hf1:∀b m,b.ops.length<9223372036854775808→0≤m→m≤1048576→f1 (b,m,())=(szL b.ops.length m,())) (q:Cer) (m:Int) (h:ShI q) (h0:0≤m) (h1:m≤1048576):ZJ (std 0) p1 f1 (q,m,()) (fun y=>y=(szP q m,())):=by
 have mB:∀c:Blk,Co.mk .blk (c.pc,c.len,c.ops,c.fin,c.x,c.y,c.k,())=c:=fun _=>rfl
 dsimp only [ZJ,Alg.cl,Alg.cg,Alg.rb,Alg.bd,Alg.l1,Tup.q,Tup.o,Alg.cl,Alg.cg,Alg.rb,Alg.bd,Alg.l1,Tup.q,Tup.o,Dw,List.cons_append,List.nil_append,List.map_cons,List.map_nil]at*
 have s1:=Ho (n:=q.base.ops.length) h1
 simp (disch:=omega) only [RR,CRB,mB,hp1 q.base m h.1 h0 h1,hf1 q.base m h.1 h0 h1]
 unfold szP
 refine⟨fun g=>by rw [if_pos g],fun g=> ?_⟩
 rw [if_neg (by omega)]
 obtain⟨u1,u2⟩:=s1.2 (by omega)
 have g:0≤szL q.base.ops.length m:=by omega
 have s2:=Ho (n:=q.made.ops.length) u2
 simp (disch:=omega) only [RR,hp1 q.made _ h.2 g u2,hf1 q.made _ h.2 g u2]
 exact fun g=>by rw [s2.1 g]
def Hq:List Cer→Int→Int
 | [],m=>m
 | q::l,m=>if szP q m<0 then-1 else Hq l (szP q m)
theorem aaE (l:List Cer) {i:Nat} (h:l.length≤i) (m:Int):Hq (l.drop i) m=m:=by rw [List.drop_eq_nil_of_le h];rfl
theorem Wu (l:List Cer) {i:Nat} (h:i<l.length) (m:Int):Hq (l.drop i) m=if szP (l.getD i default) m<0 then-1 else Hq (l.drop (i+1)) (szP (l.getD i default) m):=by
 rw [List.drop_eq_getElem_cons h,getD_lt h];rfl
theorem U5:∀(l:List Cer) (m:Int),m≤1048576→(Hq l m<0→m<0∨Hq l m= -1)∧(0≤Hq l m→∀q∈l,q.base.ops.length<1000000000∧q.made.ops.length<1000000000)
 | [],m,_=>⟨fun h=>Or.inl h,fun _ q hq=>by cases hq⟩
 | q::l,m,h=>by
  have s:=aaD (q:=q) h
  rw [Hq]
  split
  ·exact⟨fun _=>Or.inr rfl,fun g=>by omega⟩
  ·have g:=s.2 (by omega)
   have ih:=U5 l (szP q m) g.2.2
   refine⟨fun k=> ?_,fun k c hc=> ?_⟩
   ·rcases ih.1 k with e | e
    ·omega
    ·exact Or.inr e
   ·rcases List.mem_cons.1 hc with rfl | hc
    ·exact⟨g.1,g.2.1⟩
    ·exact ih.2 k c hc
def U6 (l:List Cer) (m:Int):Int:=if m-l.length<0 then-1 else Hq l (m-l.length)
theorem aqb {p1:Cer×Int×Unit→Bool} {f1:Cer×Int×Unit→Int×Unit} (hp1:∀q m,ShI q→0≤m→m≤1048576→p1 (q,m,())=true) (hf1:∀q m,ShI q→0≤m→m≤1048576→f1 (q,m,())=(szP q m,())) (l:List Cer) (m:Int) (h:l.length<9223372036854775808∧∀q∈l,ShI q) (h0:0≤m) (h1:m≤1048576):ZK (std 0) p1 f1 (l,m,()) (fun y=>y=(U6 l m,())):=by
 obtain⟨hl,hq⟩:=h
 dsimp only [ZK,Alg.cl,Alg.cg,Alg.rb,Alg.bd,Alg.l1,Tup.q,Tup.o]
 simp (disch:=omega) only [RR]
 unfold U6
 refine⟨fun g=>by rw [if_pos g],fun g=> ?_⟩
 rw [if_neg (by omega)]
 refine ak (fun(y:List Cer×Int×Int×Unit)=>y.1=l∧0≤y.2.1∧y.2.1≤1048576∧0≤y.2.2.1∧y.2.2.1≤l.length∧Hq l (m-l.length)=Hq (l.drop y.2.2.1.toNat) y.2.1) (fun y=>(l.length-y.2.2.1).toNat) ⟨rfl,by dsimp only;omega,by dsimp only;omega,by simp,by simp,rfl⟩ ?_
 rintro⟨(l:List Cer),(k:Int),(i:Int),⟨⟩⟩ hI
 dsimp only at hI ⊢
 obtain⟨rfl,k1,k2,i1,i2,e⟩:=hI
 rw [e]
 have A:i<l.length→ShI (((l).getD (i).toNat default)):=fun c=>hq _ (dD i1 c)
 by_cases c:i<l.length
 ·have s:=aaD (q:=((l).getD (i).toNat default)) k2
  rw [Wu l (by omega)]
  simp (disch:=omega) only [RR,c,hp1 _ k (A c) k1 k2,hf1 _ k (A c) k1 k2]
  refine⟨i1,fun g=>by rw [if_pos g],fun g=>⟨⟨by omega,by have:=s.2 (by omega);omega,by omega,by omega,?_⟩,by omega⟩⟩
  rw [if_neg (by omega),show(i+1).toNat=i.toNat+1 by omega]
 ·simp (disch:=omega) only [RR,c,aaE l (show l.length≤i.toNat by omega)]
theorem aqc {p1:Blk×Unit→Bool} {f1:Blk×Unit→Int×Int×Int×Int×Int×Int×List IOp×Unit} (hp1:∀b,b.ops.length<1000000000→p1 (b,())=true) (hf1:∀b,b.ops.length<1000000000→f1 (b,())=bk7 b) (q:Cer) (h1:q.base.ops.length<1000000000) (h2:q.made.ops.length<1000000000):ZL (std 0) p1 f1 (q,()) (fun y=>y=ai0 q):=by
 have mE:∀c:Blk,Co.mk .blk (c.pc,c.len,c.ops,c.fin,c.x,c.y,c.k,())=c:=fun _=>rfl
 dsimp only [ZL,Alg.cl,Alg.cg,Alg.rb,Alg.bd,Alg.l1,Tup.q,Tup.o,Alg.cl,Alg.cg,Alg.rb,Alg.bd,Alg.l1,Tup.q,Tup.o,Dw]
 simp (disch:=omega) only [RR,CRB,mE,hp1 _ h1,hf1 _ h1,hp1 _ h2,hf1 _ h2];rfl
theorem aqd {p1:Cer×Unit→Bool} {f1:Cer×Unit→Int×Int×Int×Int×Int×Int×Int×Int×Int×Int×Int×Int×List IOp×List IOp×Unit} (hp1:∀q,q.base.ops.length<1000000000→q.made.ops.length<1000000000→p1 (q,())=true) (hf1:∀q,q.base.ops.length<1000000000→q.made.ops.length<1000000000→f1 (q,())=ai0 q) (l:List Cer) (h:ShD l):ZM (std 0) p1 f1 (l,()) (fun y=>y=(l,())):=by
 have hl:=h.1
 have mC:∀q:Cer,Co.mk .cer (q.base.pc,q.base.len,q.base.ops,q.base.fin,q.base.x,q.base.y,q.base.k,q.made.pc,q.made.len,q.made.ops,q.made.fin,q.made.x,q.made.y,q.made.k,())=q:=fun _=>rfl
 unfold ai0 at hf1
 dsimp only [ZM,Alg.cl,Alg.cg,Alg.rb,Alg.bd,Alg.l1,Tup.q,Tup.o,Alg.cl,Alg.cg,Alg.rb,Alg.bd,Alg.l1,Tup.q,Tup.o,Dw,List.cons_append,List.nil_append,List.map_cons,List.map_nil]at*
 simp (disch:=omega) only [RR]
 refine⟨by omega,by omega,ak (fun(y:List Cer×Int×List Cer×Unit)=>y.1=l∧0≤y.2.1∧y.2.1≤l.length∧y.2.2.1=l.take y.2.1.toNat++List.replicate (l.length-y.2.1.toNat) ⟨⟨0,0,[],0,0,0,0⟩,⟨0,0,[],0,0,0,0⟩⟩) (fun y=>(l.length-y.2.1).toNat) ⟨rfl,by simp,by simp,rfl⟩ ?_⟩
 rintro⟨(l:List Cer),(i:Int),(o:List Cer),⟨⟩⟩ hI
 dsimp only at hI ⊢
 obtain⟨rfl,i1,i2,rfl⟩:=hI
 have a:=h.at i.toNat
 have ml:=U4 (l:=l) (z:=(⟨⟨0,0,[],0,0,0,0⟩,⟨0,0,[],0,0,0,0⟩⟩:Cer)) (i:=i.toNat) (by omega)
 simp (disch:=omega) only [RR,hp1 _ a.1 a.2,hf1 _ a.1 a.2,mC,ml]
 refine⟨fun g=>⟨by omega,by omega,by omega,by omega,by omega,by omega,⟨by omega,by omega,set_mid i1 g rfl⟩,by omega⟩,fun g=> ?_⟩
 rw [List.take_of_length_le (by omega),show l.length-i.toNat=0 by omega];simp
theorem aqe {p1:Blk×Blk×Unit→Bool} {f1:Blk×Blk×Unit→Bool×Unit} (hp1:∀a b,a.ops.length<1000000000→p1 (a,b,())=true) (hf1:∀a b,a.ops.length<1000000000→f1 (a,b,())=(bp (a=b),())) (a b:Cer) (h1:a.base.ops.length<1000000000) (h2:a.made.ops.length<1000000000):ZO (std 0) p1 f1 (a,b,()) (fun y=>y=(bp (a=b),())):=by
 have mE:∀c:Blk,Co.mk .blk (c.pc,c.len,c.ops,c.fin,c.x,c.y,c.k,())=c:=fun _=>rfl
 dsimp only [ZO,Alg.cl,Alg.cg,Alg.rb,Alg.bd,Alg.l1,Tup.q,Tup.o,Alg.cl,Alg.cg,Alg.rb,Alg.bd,Alg.l1,Tup.q,Tup.o,Dw]
 simp (disch:=omega) only [RR,CRB,mE,hp1 _ b.base h1,hf1 _ b.base h1,hp1 _ b.made h2,hf1 _ b.made h2,aY,iM]
 refine⟨fun e=> ?_,fun e=>⟨fun f=> ?_,fun f=> ?_⟩⟩
 ·rw [bN (fun g=>e (by rw [g]))]
 ·rw [bN (fun g=>f (by rw [g]))]
 ·rw [dh (Cer.ext e f)]
theorem aqf {p1:Cer×Cer×Unit→Bool} {f1:Cer×Cer×Unit→Bool×Unit} (hp1:∀a b,a.base.ops.length<1000000000→a.made.ops.length<1000000000→p1 (a,b,())=true) (hf1:∀a b,a.base.ops.length<1000000000→a.made.ops.length<1000000000→f1 (a,b,())=(bp (a=b),())) (a b:List Cer) (hD:ShD a):ZP (std 0) p1 f1 (a,b,()) (fun y=>y=(bp (a=b),())):=by
 have hlen:=hD.1
 dsimp only [ZP,Alg.cl,Alg.cg,Alg.rb,Alg.bd,Alg.l1,Tup.q,Tup.o]
 simp (disch:=omega) only [RR]
 refine⟨fun h=> ?_,fun h=> ?_⟩
 ·rw [bN (fun e=>h (by rw [e]))]
 have hl:a.length=b.length:=by omega
 refine ak (fun(y:List Cer×List Cer×Int×Unit)=>y.1=a∧y.2.1=b∧0≤y.2.2.1∧y.2.2.1≤a.length∧All y.2.2.1 (fun i=>a.getD i.toNat default=b.getD i.toNat default)) (fun y=>(a.length-y.2.2.1).toNat) ⟨rfl,rfl,by simp,by simp,All.zero⟩ ?_
 rintro⟨(l1:List Cer),(l2:List Cer),(i:Int),⟨⟩⟩ hI
 dsimp only at hI ⊢
 obtain⟨rfl,rfl,h1,h2,h3⟩:=hI
 have A:=hD.at i.toNat
 simp (disch:=omega) only [RR,hp1 _ (((l2).getD (i).toNat default)) A.1 A.2,hf1 _ (((l2).getD (i).toNat default)) A.1 A.2,aY,iM]
 refine⟨fun h4=>⟨by omega,by omega,by omega,by omega,fun h5=> ?_,fun h5=>⟨⟨by omega,by omega,h3.snoc h5⟩,by omega⟩⟩,fun h4=> ?_⟩
 ·rw [bN]
  intro e;rw [e]at h5;exact h5 rfl
 ·rw [dh (mg hl (h3.le (by omega)))]
theorem aqg {p1:List Cer×Unit→Bool} {f1:List Cer×Unit→Bool×Unit} (hp1:∀l,ShD l→p1 (l,())=true) (hf1:∀l,ShD l→f1 (l,())=(bp (O8 l),())) {p2:List Cer×List Cer×Unit→Bool} {f2:List Cer×List Cer×Unit→Bool×Unit} (hp2:∀a b,ShD a→p2 (a,b,())=true) (hf2:∀a b,ShD a→f2 (a,b,())=(bp (a=b),())) {p3:List Cer×Int×Unit→Bool} {f3:List Cer×Int×Unit→Int×Unit} (hp3:∀l m,(l.length<9223372036854775808∧∀q∈l,ShI q)→0≤m→m≤1048576→p3 (l,m,())=true) (hf3:∀l m,(l.length<9223372036854775808∧∀q∈l,ShI q)→0≤m→m≤1048576→f3 (l,m,())=(U6 l m,())) {p4:List Cer×Unit→Bool} {f4:List Cer×Unit→List Cer×Unit} (hp4:∀l,ShD l→p4 (l,())=true) (hf4:∀l,ShD l→f4 (l,())=(l,())) {p5:List Cer×Unit→Bool} {f5:List Cer×Unit→Bool×Unit} (hp5:∀l,ShD l→p5 (l,())=true) (hf5:∀l,ShD l→f5 (l,())=(bp (O8 l),())) (l:List Cer) (h:l.length<9223372036854775808∧∀q∈l,ShI q):ZQ (std 0) p1 f1 p2 f2 p3 f3 p4 f4 p5 f5 (l,()) (fun y=>y=(true,())):=by
 dsimp only [ZQ,Alg.cl,Alg.cg,Alg.rb,Alg.bd,Alg.l1,Tup.q,Tup.o]
 simp (disch:=omega) only [RR,hp3 l 1048576 h (by omega) (by omega),hf3 l 1048576 h (by omega) (by omega)]
 intro g
 have D:ShD l:=by
  unfold U6 at g
  split at g
  ·omega
  ·exact⟨by omega,(U5 l (1048576-l.length) (by omega)).2 (by omega)⟩
 simp (disch:=omega) only [RR,hp4 l D,hf4 l D,hp1 l D,hf1 l D,hp5 l D,hf5 l D,hp2 l l D,hf2 l l D]
 simp [bp]
end Go.TX.F
namespace Go.TX
open Go Go.AE
theorem enters_of {P:Program} {f:FuncId} {fn:Func} {c:Code} (hf:P.funcs[f]? =some fn) (hname:(fn.name== "runtime.NumGoroutine")=false) (hb:fn.body=some c):Enters P f:=by
 intro args w
 have h1:fn.name≠ "runtime.NumGoroutine" :=by simpa using hname
 simp [callFunc,hf,h1,hb,mark]
def U7 (P:Program):Nat→List Field→Bool
 | _,[]=>true
 | k,f::fs=> !(f.name== "_")&&f.offset==k&& (match P.underlying f.type with | some (.int _)=>true | _=>false)&&U7 P (k+1) fs
theorem U8 {P:Program} (w:World) (d:Nat) (xs ys:List Int) (hl:xs.length=ys.length):∀(fs:List Field) (k:Nat),U7 P k fs=true→k+fs.length=xs.length→
  (Op.eqFields (d+1) (xs.map (Value.int .i64)).toArray (ys.map (Value.int .i64)).toArray fs).run P w= .ok (xs.drop k==ys.drop k) w
 | [],k,_,h2=>by
  rw [List.drop_eq_nil_of_le (show xs.length≤k by simp only [List.length_nil]at h2;omega),List.drop_eq_nil_of_le (show ys.length≤k by simp only [List.length_nil]at h2;omega)]
  simp [Op.eqFields]
 | f::fs,k,h1,h2=>by
  simp only [List.length_cons]at h2
  simp only [U7,Bool.and_eq_true,Bool.not_eq_true',beq_eq_false_iff_ne,beq_iff_eq]at h1
  obtain⟨⟨⟨n1,n2⟩,n3⟩,n4⟩:=h1
  have hk:k<xs.length:=by omega
  have hk':k<ys.length:=by omega
  obtain⟨kd,hu⟩:∃kd,P.underlying f.type=some (.int kd):=by
   cases hu:P.underlying f.type with
   | none=>rw [hu]at n3;cases n3
   | some z=>cases z<;>(first | exact⟨_,rfl⟩ | (rw [hu]at n3;cases n3))
  have pk:P.plainKey f.type=true:=by unfold Program.plainKey;rw [hu]
  have p1:=run_part_plain w pk (xs:=(xs.map (Value.int .i64)).toArray) (off:=f.offset) (v:= .int .i64 xs[k]) (by rw [n2];simp [hk])
  have p2:=run_part_plain w pk (xs:=(ys.map (Value.int .i64)).toArray) (off:=f.offset) (v:= .int .i64 ys[k]) (by rw [n2];simp [hk'])
  have ih:=U8 w d xs ys hl fs (k+1) n4 (by omega)
  simp only [Op.eqFields,if_pos n1,Sem.run_bind,p1,p2,Result.andThen_ok,run_equalIn_int w d f.type .i64 kd _ _ hu]
  have e:(xs.drop k==ys.drop k)=((xs[k]==ys[k])&& (xs.drop (k+1)==ys.drop (k+1))):=by rw [List.drop_eq_getElem_cons hk,List.drop_eq_getElem_cons hk'];rfl
  rw [e]
  by_cases c:(xs[k]==ys[k])=true
  ·rw [c]
   simp only [Bool.not_true,Bool.false_eq_true,if_false,ih,Bool.true_and]
  ·have c2:(xs[k]==ys[k])=false:=by simpa using c
   rw [c2]
   simp only [Bool.not_false,if_true,Sem.run_pure,Bool.false_and]
theorem ai2 {P:Program} {t:TypeId} {n:Nat} (hu:P.underlying t=some (.struct (P.fieldsOf t))) (hs:P.stoodInHeld t=false) (hg:P.eqGuardType P.depth t=false) (hf:U7 P 0 (P.fieldsOf t).toList=true) (hn:(P.fieldsOf t).size=n) (xs ys:List Int) (hx:xs.length=n) (hy:ys.length=n) (w:World):
  (Op.equal t (.agg (xs.map (Value.int .i64)).toArray) (.agg (ys.map (Value.int .i64)).toArray)).run P w= .ok (xs==ys) w∧
  (eqGuard .eql t (.tmp 0) (.tmp 0) (.agg (xs.map (Value.int .i64)).toArray) (.agg (ys.map (Value.int .i64)).toArray)).run P w= .ok () w:=by
 refine⟨?_,run_eqGuard_agg w _ _ _ _ _ _ hg⟩
 show(Op.equalIn (9999+1) t _ _).run P w=_
 rw [run_equalIn_struct w 9999 t _ _ hu hs,U8 w 9998 xs ys (by omega) _ 0 hf (by rw [Array.length_toList];omega)]
 rfl
noncomputable def never (s:Sig):Ct aB s:={pre:=fun _=>false,fn:=fun _=>Classical.choice (uf _)}
theorem j6 {E:Tab} {f:FuncId} {s:Sig} (h:Enters E.P f):dw E f (bZ (never s)) where
 enters:=h
 calls:=by
  rintro args hh n K ⟨m,vs,h2,h3,h4,h5,cr,h6,h7,h8⟩
  exfalso
  unfold qY at h6
  split at h6
  ·split at h6
   ·split at h6
    ·split at h6
     ·cases h6
      have:=h7 false (List.mem_append_right _ (List.mem_singleton.2 rfl))
      cases this
     ·cases h6
    ·cases h6
   ·cases h6
  ·cases h6
def entry (W:World):Ctx:={K:=fun _ b=>b<W.heap.size,μ:=fun _=>none,n:=0}
theorem Sz (W:World):bG (entry W) W []:=
 ⟨fun l o h=>(by cases h),fun l o l' o' b h=>(by cases h),fun f b ⟨l,o,h,_⟩=>(by cases h),fun f b h=>h,fun b h=>h⟩
theorem O9 {W W':World} {c':Ctx} {h':Heap} (g:Grow (entry W) W [] c' W' h'):RowKit.Below W.heap.size W W':=
 ⟨g.os,g.tape,g.output,g.size,fun k hk=>g.kept k hk fun⟨l,o,h,_⟩=>by cases h⟩
theorem ac1 {c:Ctx} {w:World} {v:Value} {r:PV} {N:NM} {b:Bool} (h1:bF c w v r) (h2:PVR N r (.c (.d true (.bool b)))):v= .bool b:=by
 cases h2 with
 | one h=>
  cases h with
  | c h=>
   cases h with
   | d h3 _=>
    subst h3
    cases h1 with
    | c _ _ h4=>cases h4 with
     | d _ _ _ h5=>cases h5;rfl
  | agg h=>cases h
end Go.TX
namespace Go.TX
open Go Go.AE Go.ChangeShapes Go.WideShapes Go.ChangeAt
inductive DS:Sh→D→Prop
 | int (k:IntKind) (n:Int):DS (.int k) (.int k n)
 | ops (xs:List IOp):xs.length<9223372036854775808→DS (.rows .iop) (.rows 5 (aJ .iop xs))
section
variable {H:Type} (enc:TypeId×Value→H) (P:Program) (W:World)
abbrev tr (fuel:Nat) (t:TypeId) (cs:List Value):Option (DataW H×List MemPlace):=DataW.trod enc P W 0 (fun _=>true) true fuel t cs
abbrev inW (W:World) (p:List MemPlace):Prop:=∀x∈p,x.block<W.heap.size
def CO (s:Sh) (t:TypeId):Prop:=∀fuel cs x,tr enc P W fuel t cs=some x→inW W x.2→∃v d,cs=[v]∧dz (fun b=>b<W.heap.size) W v d∧DS s d
def EO (c:Co) (G:c.den→Prop) (t:TypeId):Prop:=∀fuel cs x,tr enc P W fuel t cs=some x→inW W x.2→∃z:c.den,F2 (dz (fun b=>b<W.heap.size) W) cs (c.row z)∧G z
variable {enc P W}
theorem ai3 {k:IntKind} {t:TypeId} (ht:P.underlying t=some (.int k)):CO enc P W (.int k) t:=by
 intro fuel cs x h _
 obtain⟨n,rfl,rfl,_⟩:=DataW.trod_int ht h
 exact⟨_,_,rfl,.int k n,.int k n⟩
theorem ai4 {α β:Type} {R:α→β→Prop} {l:List α} {m:List β} (h:F2 R l m) {j:Nat} (a:α) (b:β) (hj:j<m.length):R (l.getD j a) (m.getD j b):=by
 obtain⟨x,h1,h2⟩:=F2.get h (List.getElem?_eq_getElem hj)
 rw [List.getD_eq_getElem?_getD,h1,List.getD_eq_getElem?_getD,List.getElem?_eq_getElem hj];exact h2
theorem I9 {c:Co} {G:c.den→Prop} {t e:TypeId} (ht:P.underlying t=some (.slice e)) (hc:P.cellsOf e=c.size) (hs:0<c.size) (hE:EO enc P W c G e) {fuel:Nat} {cs:List Value} {x:DataW H×List MemPlace}
  (h:tr enc P W fuel t cs=some x) (hp:inW W x.2):∃v xs,cs=[v]∧dz (fun b=>b<W.heap.size) W v (.rows c.size (aJ c xs))∧xs.length<9223372036854775808∧∀z∈xs,G z:=by
 rcases Deep.open_slice ht h with⟨rfl,rfl⟩ | ⟨a,len,cap,m,n,D,Pl,rfl,_,hl,hm,hmm,rfl,hx⟩
 ·exact⟨_,[],rfl,.none _ _ _,Nat.zero_lt_of_ne_zero (by decide),fun _ h=>by cases h⟩
 have em:m=cap:=by simpa using hmm
 have each:∀i,i<len→∃q:List Value×c.den,W.cells? 0 (a.add (i*c.size)) c.size=some q.1∧F2 (dz (fun b=>b<W.heap.size) W) q.1 (c.row q.2)∧G q.2:=fun i hi=>by
  obtain⟨cs',h1,h2⟩:=hx i (by omega)
  obtain⟨z,z1,z2⟩:=hE n cs' _ h2 (fun p hp'=>hp p (List.mem_append_right _ (List.mem_flatMap.2 ⟨i,List.mem_range.2 (by omega),hp'⟩)))
  exact⟨(cs',z),by rw [←hc];exact h1,z1,z2⟩
 obtain⟨q,hq⟩:=Deep.choose_lt each
 have ml:(maxLen:Nat)=9223372036854775807:=by decide
 refine⟨_,(List.range len).map fun i=>(q i).2,rfl,?_,by rw [List.length_map,List.length_range];omega,fun z hz=> ?_⟩
 ·by_cases h0:len=0
  ·subst h0;exact .none _ _ _
  obtain⟨b,off,spot⟩:=a
  have cell:∀i j,i<len→j<c.size→W.cell? (((⟨b,off,spot⟩:Addr).add (i*c.size)).add j)=(q i).1[j]? :=fun i j hi hj=>(World.cells?_some (hq i hi).1).2.2 j hj
  have ql:∀i,i<len→(q i).1.length=c.size:=fun i hi=>(World.cells?_some (hq i hi).1).2.1
  have hspot:spot=none:=by
   have:=cell 0 0 (by omega) hs
   rw [List.getElem?_eq_getElem (by rw [ql 0 (by omega)];exact hs)]at this
   simpa [Addr.add]using World.cell?_spot this
  subst hspot
  have hbW:b<W.heap.size:=hp (.cell b (off+0)) (List.mem_append_left _ (MemPlace.mem_row.2 ⟨0,by rw [hc];exact Nat.mul_pos (by omega) hs,rfl⟩))
  have len':(aJ c ((List.range len).map fun i=>(q i).2)).length=len:=by rw [aJ,List.length_map,List.length_map,List.length_range]
  have hget:∀i,i<len→(aJ c ((List.range len).map fun i=>(q i).2)).getD i []=c.row (q i).2:=fun i hi=>by
   rw [List.getD_eq_getElem?_getD,aJ,List.map_map,List.getElem?_map,List.getElem?_range hi];rfl
  refine .rows b off cap c.size len _ (fun i j=>(q i).1.getD j undef) hbW len'.symm hl (fun i j hi hj=> ?_) (fun i hi=> ?_) (fun i j hi hj=> ?_)
  ·rw [len']at hi
   have:=cell i j hi hj
   rw [add_plain,add_plain]at this
   rw [this,List.getD_eq_getElem?_getD,List.getElem?_eq_getElem (by rw [ql i hi];exact hj)];rfl
  ·rw [len']at hi;rw [hget i hi];exact nS c _
  ·rw [len']at hi
   unfold gd;rw [hget i hi]
   exact ai4 (hq i hi).2.1 _ _ (by rw [nS];exact hj)
 ·obtain⟨i,hi,rfl⟩:=List.mem_map.1 hz
  exact(hq i (List.mem_range.1 hi)).2.2
def fsB (P:Program) (tR:Option TypeId):Nat→List Field→List Sh→Bool
 | _,[],[]=>true
 | k,f::fs,s::S=>f.offset==k&&P.cellsOf f.type==1&& (match s with | .int q=>(match P.underlying f.type with | some (.int q')=>decide (q'=q) | _=>false) | .rows .iop=>some f.type==tR | _=>false)&&fsB P tR (k+1) fs S
 | _,_,_=>false
theorem aaF {tR:Option TypeId} {k:Nat} {f:Field} {fs:List Field} {s:Sh} {S:List Sh} (h:fsB P tR k (f::fs) (s::S)=true) (hR:∀t,tR=some t→CO enc P W (.rows .iop) t):
  f.offset=k∧P.cellsOf f.type=1∧CO enc P W s f.type∧fsB P tR (k+1) fs S=true:=by
 simp only [fsB,Bool.and_eq_true,beq_iff_eq]at h
 obtain⟨⟨⟨h1,h2⟩,h3⟩,h4⟩:=h
 refine⟨h1,h2,?_,h4⟩
 cases s with
 | int q=>
  dsimp only at h3
  split at h3
  ·rename_i q' hu
   have e:q'=q:=by simpa using h3
   subst e;exact ai3 hu
  ·cases h3
 | rows c=>
  cases c<;>dsimp only at h3<;>first | (cases h3;done) | skip
  rw [beq_iff_eq]at h3;exact hR _ h3.symm
 | bool=>cases h3
 | str=>cases h3
theorem U9 {tR:Option TypeId} (hR:∀t,tR=some t→CO enc P W (.rows .iop) t) {cs:List Value} {n:Nat}:∀(fs:List Field) (S:List Sh) (k:Nat) (xs:List (DataW H×List MemPlace)),fsB P tR k fs S=true→xs.length=fs.length→
  (∀(i:Nat) (f:Field),fs[i]? =some f→tr enc P W n f.type ((cs.drop f.offset).take (P.cellsOf f.type))=xs[i]?)→inW W (xs.flatMap (·.2))→cs.length=k+fs.length→
  ∃ds,F2 (dz (fun b=>b<W.heap.size) W) (cs.drop k) ds∧F2 DS S ds
 | [],S,k,xs,h1,_,_,_,h5=>by
  cases S with
  | nil=>exact⟨[],by rw [List.drop_eq_nil_of_le (by simp at h5;omega)];exact .nil,.nil⟩
  | cons s S=>cases h1
 | f::fs,[],k,xs,h1,_,_,_,_=>by cases h1
 | f::fs,s::S,k,[],_,h2,_,_,_=>by cases h2
 | f::fs,s::S,k,y::xs,h1,h2,h3,h4,h5=>by
  obtain⟨a1,a2,a3,a4⟩:=aaF h1 hR
  have b:=h3 0 f rfl
  rw [a1,a2]at b
  obtain⟨v,d,e,r1,r2⟩:=a3 n _ y b (fun p hp=>h4 p (List.mem_flatMap.2 ⟨y,List.mem_cons_self ..,hp⟩))
  simp only [List.length_cons]at h5 h2
  obtain⟨ds,i1,i2⟩:=U9 hR fs S (k+1) xs a4 (by omega) (fun i g hg=>h3 (i+1) g hg) (fun p hp=>h4 p (by rw [List.flatMap_cons];exact List.mem_append_right _ hp)) (by omega)
  have hk:k<cs.length:=by omega
  rw [List.drop_eq_getElem_cons hk]at e ⊢
  rw [List.take_succ_cons,List.take_zero]at e
  cases e
  exact⟨d::ds,.cons r1 i1,.cons r2 i2⟩
theorem Va {t:TypeId} {tR:Option TypeId} {fs:Array Field} {S:List Sh} (ht:P.underlying t=some (.struct fs)) (hn:P.cellsOf t=fs.toList.length) (hf:fsB P tR 0 fs.toList S=true) (hR:∀t,tR=some t→CO enc P W (.rows .iop) t) {fuel:Nat} {cs:List Value} {x:DataW H×List MemPlace}
  (h:tr enc P W fuel t cs=some x) (hp:inW W x.2):∃ds,F2 (dz (fun b=>b<W.heap.size) W) cs ds∧F2 DS S ds:=by
 obtain⟨xs,n,_,rfl,hl,hlen,hf'⟩:=DataW.trod_struct ht h
 exact U9 hR fs.toList S 0 xs hf (by rw [hlen,Array.length_toList]) (fun i f hi=>hf' i f (by rw [←Array.getElem?_toList];exact hi)) hp (by omega)
theorem f2c {α β:Type} {R:α→β→Prop} {a:α} {l:List α} {m:List β} (h:F2 R (a::l) m):∃b m',m=b::m'∧R a b∧F2 R l m':=by cases h with | cons h1 h2=>exact⟨_,_,rfl,h1,h2⟩
theorem f2n {α β:Type} {R:α→β→Prop} {m:List β} (h:F2 R [] m):m=[]:=by cases h;rfl
theorem dsi {d:D} (h:DS .i d):∃n,d= .int .i64 n:=by cases h;exact⟨_,rfl⟩
theorem dso {d:D} (h:DS (.rows .iop) d):∃xs:List IOp,d= .rows 5 (aJ .iop xs)∧xs.length<9223372036854775808:=by cases h with | ops xs h=>exact⟨xs,rfl,h⟩
theorem ai5 {t:TypeId} {fs:Array Field} (ht:P.underlying t=some (.struct fs)) (hn:P.cellsOf t=fs.toList.length) (hf:fsB P none 0 fs.toList [.i,.i,.i,.i,.i]=true):EO enc P W .iop (fun _=>True) t:=by
 intro fuel cs x h hp
 obtain⟨ds,h1,h2⟩:=Va ht hn hf (fun _ h=>by cases h) h hp
 obtain⟨d0,m0,rfl,e0,h2⟩:=f2c h2
 obtain⟨d1,m1,rfl,e1,h2⟩:=f2c h2
 obtain⟨d2,m2,rfl,e2,h2⟩:=f2c h2
 obtain⟨d3,m3,rfl,e3,h2⟩:=f2c h2
 obtain⟨d4,m4,rfl,e4,h2⟩:=f2c h2
 obtain rfl:=f2n h2
 obtain⟨n0,rfl⟩:=dsi e0
 obtain⟨n1,rfl⟩:=dsi e1
 obtain⟨n2,rfl⟩:=dsi e2
 obtain⟨n3,rfl⟩:=dsi e3
 obtain⟨n4,rfl⟩:=dsi e4
 exact⟨⟨n0,n1,n2,n3,n4⟩,h1,trivial⟩
theorem ai6 {tR t:TypeId} {fs:Array Field} (hr:P.underlying tR=some (.slice t)) (ht:P.underlying t=some (.struct fs)) (hn:P.cellsOf t=fs.toList.length) (h5:fs.toList.length=5) (hf:fsB P none 0 fs.toList [.i,.i,.i,.i,.i]=true):CO enc P W (.rows .iop) tR:=by
 intro fuel cs x h hp
 obtain⟨v,xs,e,r,l,_⟩:=I9 (c:= .iop) hr (hn.trans h5) (by decide) (ai5 ht hn hf) h hp
 exact⟨v,_,e,r,.ops xs l⟩
abbrev BG (b:Blk):Prop:=b.ops.length<9223372036854775808
theorem ai7 {t tR:TypeId} {fs:Array Field} (ht:P.underlying t=some (.struct fs)) (hn:P.cellsOf t=fs.toList.length) (hf:fsB P (some tR) 0 fs.toList Dw=true) (hR:CO enc P W (.rows .iop) tR):EO enc P W .blk BG t:=by
 intro fuel cs x h hp
 obtain⟨ds,h1,h2⟩:=Va ht hn hf (fun _ h=>by cases h;exact hR) h hp
 obtain⟨d0,m0,rfl,e0,h2⟩:=f2c h2
 obtain⟨d1,m1,rfl,e1,h2⟩:=f2c h2
 obtain⟨d2,m2,rfl,e2,h2⟩:=f2c h2
 obtain⟨d3,m3,rfl,e3,h2⟩:=f2c h2
 obtain⟨d4,m4,rfl,e4,h2⟩:=f2c h2
 obtain⟨d5,m5,rfl,e5,h2⟩:=f2c h2
 obtain⟨d6,m6,rfl,e6,h2⟩:=f2c h2
 obtain rfl:=f2n h2
 obtain⟨n0,rfl⟩:=dsi e0
 obtain⟨n1,rfl⟩:=dsi e1
 obtain⟨xs,rfl,l⟩:=dso e2
 obtain⟨n3,rfl⟩:=dsi e3
 obtain⟨n4,rfl⟩:=dsi e4
 obtain⟨n5,rfl⟩:=dsi e5
 obtain⟨n6,rfl⟩:=dsi e6
 exact⟨⟨n0,n1,xs,n3,n4,n5,n6⟩,h1,l⟩
abbrev CG (q:Cer):Prop:=q.base.ops.length<9223372036854775808∧q.made.ops.length<9223372036854775808
theorem ai8 {t e:TypeId} {f0 f1:Field} (ht:P.underlying t=some (.struct #[f0,f1])) (hn:P.cellsOf t=14) (h0:f0.offset=0∧f0.type=e) (h1:f1.offset=7∧f1.type=e) (he:P.cellsOf e=7) (hE:EO enc P W .blk BG e):EO enc P W .cer CG t:=by
 intro fuel cs x h hp
 obtain⟨y0,y1,n,rfl,hl,k0,k1⟩:=trod_struct2 ht h
 rw [h0.1,h0.2,he]at k0
 rw [h1.1,h1.2,he]at k1
 obtain⟨b,b1,b2⟩:=hE _ _ _ k0 (fun p q=>hp p (List.mem_append_left _ q))
 obtain⟨c,c1,c2⟩:=hE _ _ _ k1 (fun p q=>hp p (List.mem_append_right _ q))
 refine⟨⟨b,c⟩,?_,b2,c2⟩
 have e:cs=(cs.drop 0).take 7++(cs.drop 7).take 7:=by
  rw [List.drop_zero,List.take_of_length_le (l:=cs.drop 7) (by rw [List.length_drop];omega),List.take_append_drop]
 rw [e]
 exact b1.append c1
end
abbrev atT:Sig:={args:=[.c (.rows false .cer)],objs:=[],res:=[.c .bool],dS:=[]}
theorem aaG {E:Tab} {f:FuncId} {c:Ct aB atT} (hc:dw E f (bZ c)) {xs:List Cer} {W:World} {v:Value} (hv:dz (fun b=>b<W.heap.size) W v (.rows 14 (aJ .cer xs)))
  (hg:qL E (entry W) W) (hp:c.pre (xs,())=true):Go.Calls E.P f #[v] W fun e W'=>e= .returned (.bool (c.fn (xs,())).1)∧RowKit.Below W.heap.size W W':=by
 refine(hc.calls [.c (.d true (.rows 14 (aJ .cer xs)))] [] 0 (fun r _ _=>PVR (nmh []) r (.c (.d true (.bool (c.fn (xs,())).1)))) ?_ (entry W) W [v] rfl (.cons (.c _ _ (.d true _ _ hv)) .nil) (Sz W) hg).mono ?_
 ·refine⟨0,[.c (.d false (.rows .cer xs))],[],.cons (.one (.c (.d rfl fun h=>by cases h))) .nil,⟨fun l o h=>(by cases h),fun _ _=>rfl⟩,rfl,_,rfl,?_,_,_,rfl,?_⟩
  ·intro b hb
   rcases List.mem_append.1 hb with h | h
   ·cases h
   ·rw [List.mem_singleton]at h;rw [h];exact hp
  ·intro r _ _ h _ _ _;exact h
 ·rintro e W' he
  cases e with
  | returned u=>
   obtain⟨c',r,h',j,g,_,_,h1,h2⟩:=he
   exact⟨by rw [ac1 h1 h2],O9 g⟩
  | outgrown=>exact he.elim
  | panicked _=>exact he.elim
end Go.TX
namespace Go.TX.Seat
open Go Go.AE Go.TX Go.TX.F Go.Proofs
set_option maxRecDepth 100000
theorem atU:∀t n,E.ieq t=some n→∀(xs ys:List Int),xs.length=n→ys.length=n→∀w,
  (Op.equal t (.agg (xs.map (Value.int .i64)).toArray) (.agg (ys.map (Value.int .i64)).toArray)).run E.P w= .ok (xs==ys) w∧
  (eqGuard .eql t (.tmp 0) (.tmp 0) (.agg (xs.map (Value.int .i64)).toArray) (.agg (ys.map (Value.int .i64)).toArray)).run E.P w= .ok () w:=by
 intro t n h
 obtain⟨c,hc,rfl⟩:∃c,ieq t=some c∧c.size=n:=by
  have h':(ieq t).map (fun c=>c.size)=some n:=h
  cases hi:ieq t with
  | none=>rw [hi]at h';cases h'
  | some c=>rw [hi]at h';cases h';exact⟨c,rfl,rfl⟩
 unfold ieq at hc
 split at hc
 all_goals first | (cases hc;exact ai2 (by kernel_rfl) (by kernel_rfl) (by kernel_rfl) (by kernel_rfl) (by kernel_rfl)) | cases hc
theorem hE:aF E:=⟨atz,atU⟩
theorem atV:∀t c,X.ieq t=some c→(c= .ins∧E.ieq t=some 4)∨(c= .iop∧E.ieq t=some 5):=by
 intro t c h
 have h:ieq t=some c:=h
 have e:E.ieq t=(ieq t).map fun c=>c.size:=rfl
 rw [e,h]
 unfold ieq at h
 split at h
 all_goals first | (cases h;first | exact Or.inl ⟨rfl,rfl⟩ | exact Or.inr ⟨rfl,rfl⟩) | cases h
theorem xok:XOK X E:=⟨rfl,fun g c h=>(by cases h),atV⟩
theorem hm:E.P.follows .mixedOrders=true:=by kernel_rfl
theorem hlN:∀p∈([]:List (FuncId×Sigma (Ct aB))),dw E p.1 (bZ p.2.2):=fun _ h=>by cases h
theorem hlC {f:FuncId} {s:Sig} {c:Ct aB s} {l:List (FuncId×Sigma (Ct aB))} (h:dw E f (bZ c)) (r:∀p∈l,dw E p.1 (bZ p.2.2)):∀p∈(f,⟨s,c⟩)::l,dw E p.1 (bZ p.2.2):=fun p hp=>by
 rcases List.mem_cons.1 hp with rfl | hp
 ·exact h
 ·exact r p hp
@[reducible] def _root_.Go.TX.Fn.c {E : Tab} {f : FuncId} {s : Sig} {F : iC s.inp → (iC s.out → Prop) → Prop} {c : Ct aB s} (_ : Fn E f F c) : Ct aB s := c
theorem mk {lk:aG} {f:FuncId} {fn:Func} (hf:E.P.funcs[f]? =some fn) {l:List (FuncId×Sigma (Ct aB))} (hl:∀p∈l,dw E p.1 (bZ p.2.2)) {ord:List (Nat×List fP)} {s:Sig} {an:Ann}
 {F:iC s.inp→(iC s.out→Prop)→Prop} (h:Ru X E (std 0) ord an s fn l F) (hb:fn.body.isSome=true:=by rfl) (hn:(fn.name== "runtime.NumGoroutine")=false:=by kernel_rfl):Fn E f F (cn F):=asP hE xok hm hf hb (fun _=>enters_of hf hn) hl h
theorem aaH {E:Tab} {f:FuncId} {c:Ct aB {args:=[.c (.int .u64)],objs:=[],res:=[.c (.int .i64)],dS:=[]}} {g:Int→Int} (hent:Enters E.P f) (hg:(fun x:Int=>(c.fn (x,())).1)=g)
  (h:∀(x:Int) (w:World),c.pre (x,())=true→Go.Calls E.P f #[.int .u64 x] w fun e w'=>e= .returned (.int .i64 (g x))∧w'=w):dw E f (bZ c) where
 enters:=hent
 calls:=by
  rintro args hh n K ⟨m,qs,hs,hargs,HR,hlen,cr,hcall,acv,v,kT,hvk,hK⟩ c1 w vs hcn qw Hh Gl
  have key:∀f0 (x:Int),qs=[.c (.d f0 (.int .u64 x))]→qY (std m) hs {args:=[.c (.int .u64)],objs:=[],res:=[.c (.int .i64)],dS:=[]} c qs=some {ck:=[c.pre (x,())],ts:=[.i],y:=c.fn (x,()),touched:=[],pure:=true,k:=fun y=>some (.c (.d true (.int .i64 y.1)),hs)}:=by
   intro f0 x e;subst e;rfl
  have hq:∃f0 x,qs=[.c (.d f0 (.int .u64 x))]:=by
   unfold qY at hcall
   cases qs with
   | nil=>simp [nQ]at hcall
   | cons q r=>
    cases r with
    | cons q2 r2=>
     exfalso
     simp only [nQ]at hcall
     cases hx:H7 (std m) hs (.c (.int .u64)) q (es0 (std m) 0 [])with
     | none=>rw [hx]at hcall;simp at hcall
     | some s=>rw [hx]at hcall;simp [nQ]at hcall
    | nil=>
     simp only [nQ]at hcall
     cases q with
     | c y=>
      simp only [H7,extC]at hcall
      cases y with
      | d f0 y=>
       cases y with
       | int k x=>
        by_cases hk:IntKind.u64=k
        ·subst hk;exact⟨f0,x,rfl⟩
        ·simp [hk]at hcall
       | _=>simp at hcall
      | _=>simp at hcall
     | _=>simp [H7]at hcall
  obtain⟨f0,x,rfl⟩:=hq
  rw [key f0 x rfl]at hcall
  simp only [Option.some.injEq]at hcall
  subst hcall
  simp only [Option.some.injEq,Prod.mk.injEq]at hvk
  obtain⟨rfl,rfl⟩:=hvk
  have hpre:=acv _ (List.mem_singleton.2 rfl)
  have hv:vs=[.int .u64 x]:=by
   cases hargs with
   | cons h1 h2=>
    cases h2
    cases qw with
    | cons h3 h4=>
     cases h4
     cases h1 with
     | one h1=>
      cases h1 with
      | c h1=>
       cases h1 with
       | d h5 _=>
        subst h5
        cases h3 with
        | c _ _ h6=>cases h6 with
         | d _ _ _ h7=>cases h7;rfl
      | agg h1=>cases h1
  subst hv
  refine(h x w hpre).mono ?_
  rintro e w' ⟨rfl,rfl⟩
  refine⟨c1,.c (.d true (.int .i64 (g x))),hh,0,.refl _ _ _,Hh,hcn,.c _ _ (.d _ _ _ (.int _ _)),hK _ _ _ ?_ HR (.refl _ _ _) hlen⟩
  rw [←hg]
  exact .one (.c (.d rfl fun _=> .inl rfl))
end Go.TX.Seat
namespace Go.TX.F
open Go Go.AE Go.TX Go.TX.Seat Go.Proofs
set_option maxRecDepth 100000
def Vb:=mk Tryz.func21 hlN (anH (std 0))
noncomputable def NP:=Vb.c
def aqh:=fun l m h h0 h1=>(Vb.cs (adP l m h h0 h1)).1
def aqi:=fun l m h h0 h1=>(Vb.cs (adP l m h h0 h1)).2
def aaI:=mk Tryz.func6 (hlC Vb.ok hlN) (anI (std 0) NP)
noncomputable def OJ:=aaI.c
def qB:=fun b m h h0 h1=>aaI.cs (ap9 aqh aqi b m h h0 h1)
def aqj:=fun b m h h0 h1=>(qB b m h h0 h1).1
def aqk:=fun b m h h0 h1=>(qB b m h h0 h1).2
def pO:=mk Tryz.func47 hlN (agI (std 0))
noncomputable def bQ:=pO.c
def yF:=fun a b c=>(pO.cs (aac a b c)).1
def yG:=fun a b c=>(pO.cs (aac a b c)).2
def yH:=mk Tryz.func99 hlN (agJ (std 0))
noncomputable def gX:=yH.c
def Kl:=fun a=>(yH.cs (aad a)).1
def Km:=fun a=>(yH.cs (aad a)).2
def SA:=mk Tryz.func136 (hlC pO.ok hlN) (agK (std 0) bQ)
noncomputable def FV:=SA.c
def uQ:=fun k=>SA.cs (aiI yF yG k)
def ai9:=fun k=>(uQ k).1
def aja:=fun k=>(uQ k).2
def Kn:=mk Tryz.func100 (hlC SA.ok hlN) (agL (std 0) FV)
noncomputable def oV:=Kn.c
def zy:=fun ops x n h1=>Kn.cs (aiJ ai9 aja ops x n h1)
def aaJ:=fun ops x n h1=>(zy ops x n h1).1
def aaK:=fun ops x n h1=>(zy ops x n h1).2
def SB:=mk Tryz.func48 (hlC yH.ok (hlC pO.ok (hlC Kn.ok hlN))) (agM (std 0) gX bQ oV)
noncomputable def FX:=SB.c
def BX:=fun ops i len h0 h1 h3=>SB.cs (aiK Kl Km yF yG aaJ aaK ops i len h0 h1 h3)
def ajb:=fun ops i len h0 h1 h3=>(BX ops i len h0 h1 h3).1
def ajc:=fun ops i len h0 h1 h3=>(BX ops i len h0 h1 h3).2
def SE:=mk Tryz.func49 (hlC yH.ok (hlC Kn.ok hlN)) (agN (std 0) gX oV)
noncomputable def FW:=SE.c
def zB:=fun b=>SE.cs (aiL Kl Km aaJ aaK b)
def ajd:=fun b=>(zB b).1
def aje:=fun b=>(zB b).2
def Ko:=mk Tryz.func22 (hlC pO.ok (hlC SE.ok (hlC SB.ok hlN))) (agO (std 0) bQ FW FX)
noncomputable def pE:=Ko.c
def BZ:=fun b h2=>Ko.cs (aiM yF yG ajd aje ajb ajc b h2)
def aaL:=fun b h2=>(BZ b h2).1
def aaM:=fun b h2=>(BZ b h2).2
def Kq:=mk Tryz.func23 hlN (agP (std 0))
noncomputable def Gs:=Kq.c
def ajf:=fun a b ha=>(Kq.cs (aax a b ha)).1
def ajg:=fun a b ha=>(Kq.cs (aax a b ha)).2
def AV:=mk Tryz.func50 (hlC pO.ok hlN) (agQ (std 0) bQ)
noncomputable def gY:=AV.c
def uR:=fun a=>AV.cs (aic yF yG a)
def Kr:=fun a=>(uR a).1
def Kt:=fun a=>(uR a).2
def Ku:=mk Tryz.func24 (hlC AV.ok hlN) (agR (std 0) gY)
noncomputable def pF:=Ku.c
def wT:=Ku.cs (aiB Kr Kt)
def aaN:=(wT).1
def aaO:=(wT).2
def AX:=mk Tryz.func111 hlN (agS (std 0))
noncomputable def jA:=AX.c
def SF:=fun a b ha=>(AX.cs (aag a b ha)).1
def SG:=fun a b ha=>(AX.cs (aag a b ha)).2
def SH:=mk Tryz.func144 (hlC pO.ok hlN) (agT (std 0) bQ)
noncomputable def FY:=SH.c
def wU:=fun m hm=>SH.cs (aie yF yG m hm)
def ajh:=fun m hm=>(wU m hm).1
def aji:=fun m hm=>(wU m hm).2
def uS:=mk Tryz.func107 (hlC SH.ok (hlC AX.ok hlN)) (agU (std 0) FY jA)
noncomputable def dI:=uS.c
def zC:=fun a ha=>uS.cs (aif ajh aji SF SG a ha)
def AY:=fun a ha=>(zC a ha).1
def AZ:=fun a ha=>(zC a ha).2
def Kv:=mk Tryz.func137 hlN (agV (std 0))
noncomputable def F3:=Kv.c
def ajj:=fun a=>(Kv.cs (aai a)).1
def ajk:=fun a=>(Kv.cs (aai a)).2
def Kw:=mk Tryz.func138 hlN (agW (std 0))
noncomputable def FZ:=Kw.c
def ajl:=fun a n ha=>(Kw.cs (aah a n ha)).1
def ajm:=fun a n ha=>(Kw.cs (aah a n ha)).2
def Ky:=mk Tryz.func101 (hlC pO.ok (hlC uS.ok (hlC Kw.ok (hlC Kv.ok hlN)))) (agX (std 0) bQ dI FZ F3)
noncomputable def oW:=Ky.c
def wV:=fun a n ha=>Ky.cs (aij yF yG AY AZ ajl ajm ajj ajk a n ha)
def aaP:=fun a n ha=>(wV a n ha).1
def aaQ:=fun a n ha=>(wV a n ha).2
def rO:=mk Tryz.func65 (hlC AX.ok hlN) (agY (std 0) jA)
noncomputable def bR:=rO.c
def su:=fun a b ha=>rO.cs (aii SF SG a b ha)
def yI:=fun a b ha=>(su a b ha).1
def yJ:=fun a b ha=>(su a b ha).2
def Kz:=mk Tryz.func102 (hlC rO.ok hlN) (agZ (std 0) bR)
noncomputable def oZ:=Kz.c
def wW:=fun a b ha=>Kz.cs (aik yI yJ a b ha)
def aaR:=fun a b ha=>(wW a b ha).1
def aaS:=fun a b ha=>(wW a b ha).2
def SK:=mk Tryz.func51 (hlC Ky.ok (hlC Kz.ok hlN)) (ag0 (std 0) oW oZ)
noncomputable def Gg:=SK.c
def zD:=fun a ha=>SK.cs (ail aaP aaQ aaR aaS a ha)
def ajn:=fun a ha=>(zD a ha).1
def ajo:=fun a ha=>(zD a ha).2
def lM:=mk Tryz.func60 hlN (ag1 (std 0))
noncomputable def bA:=lM.c
def rP:=fun a ha=>(lM.cs (aak a ha)).1
def rQ:=fun a ha=>(lM.cs (aak a ha)).2
def KA:=mk Tryz.func103 (hlC lM.ok hlN) (ag2 (std 0) bA)
noncomputable def o7:=KA.c
def wX:=fun a ha=>KA.cs (aiq rP rQ a ha)
def aaT:=fun a ha=>(wX a ha).1
def aaU:=fun a ha=>(wX a ha).2
def SL:=mk Tryz.func52 (hlC KA.ok hlN) (ag3 (std 0) o7)
noncomputable def Gh:=SL.c
def wY:=fun a ha=>SL.cs (air aaT aaU a ha)
def ajp:=fun a ha=>(wY a ha).1
def ajq:=fun a ha=>(wY a ha).2
def Hr:=mk Tryz.func53 (hlC Ky.ok (hlC Kz.ok (hlC KA.ok hlN))) (ag4 (std 0) oW oZ o7)
noncomputable def jC:=Hr.c
def zF:=fun a t ha ht hok=>Hr.cs (ais aaP aaQ aaR aaS aaT aaU a t ha ht hok)
def SN:=fun a t ha ht hok=>(zF a t ha ht hok).1
def SQ:=fun a t ha ht hok=>(zF a t ha ht hok).2
def KC:=mk Tryz.func54 hlN (ag5 (std 0))
noncomputable def Gn:=KC.c
def ajr:=fun k l=>(KC.cs (aay k l)).1
def ajs:=fun k l=>(KC.cs (aay k l)).2
def KD:=mk Tryz.func55 (hlC pO.ok hlN) (ag6 (std 0) bQ)
noncomputable def pq:=KD.c
def sw:=fun a=>KD.cs (aib yF yG a)
def aaV:=fun a=>(sw a).1
def aaW:=fun a=>(sw a).2
def yK:=mk Tryz.func173 hlN (ag7 (std 0))
noncomputable def gZ:=yK.c
def KE:=fun a=>(yK.cs (aaf a)).1
def KF:=fun a=>(yK.cs (aaf a)).2
def KG:=mk Tryz.func171 (hlC AX.ok (hlC yK.ok hlN)) (ag8 (std 0) jA gZ)
noncomputable def o8:=KG.c
def wZ:=fun l m hl hn hm hma=>KG.cs (aix SF SG KE KF l m hl hn hm hma)
def aaX:=fun l m hl hn hm hma=>(wZ l m hl hn hm hma).1
def aaY:=fun l m hl hn hm hma=>(wZ l m hl hn hm hma).2
def KH:=mk Tryz.func172 (hlC lM.ok hlN) (ag9 (std 0) bA)
noncomputable def o9:=KH.c
def zG:=fun a ha=>KH.cs (aip rP rQ a ha)
def aaZ:=fun a ha=>(zG a ha).1
def aa0:=fun a ha=>(zG a ha).2
def SX:=mk Tryz.func139 (hlC uS.ok (hlC KG.ok (hlC KH.ok hlN))) (aha (std 0) dI o8 o9)
noncomputable def F6:=SX.c
def w9:=fun a b ha hb=>SX.cs (aiy AY AZ aaX aaY aaZ aa0 a b ha hb)
def ajt:=fun a b ha hb=>(w9 a b ha hb).1
def aju:=fun a b ha hb=>(w9 a b ha hb).2
def SY:=mk Tryz.func140 (hlC uS.ok (hlC yK.ok (hlC lM.ok (hlC yH.ok hlN)))) (ahb (std 0) dI gZ bA gX)
noncomputable def F7:=SY.c
def sD:=fun a n ha=>SY.cs (aiA AY AZ KE KF rP rQ Kl Km a n ha)
def ajv:=fun a n ha=>(sD a n ha).1
def ajw:=fun a n ha=>(sD a n ha).2
def KJ:=mk Tryz.func174 hlN (ahc (std 0))
noncomputable def F4:=KJ.c
def ajx:=fun a b ha hb sa sb=>(KJ.cs (aan a b ha hb sa sb)).1
def ajy:=fun a b ha hb sa sb=>(KJ.cs (aan a b ha hb sa sb)).2
def S9:=mk Tryz.func141 (hlC uS.ok (hlC yK.ok (hlC KG.ok (hlC KJ.ok (hlC KH.ok hlN))))) (ahd (std 0) dI gZ o8 F4 o9)
noncomputable def F5:=S9.c
def xg:=fun a b ha hb=>S9.cs (aiz AY AZ KE KF aaX aaY ajx ajy aaZ aa0 a b ha hb)
def ajz:=fun a b ha hb=>(xg a b ha hb).1
def ajA:=fun a b ha hb=>(xg a b ha hb).2
def Ta:=mk Tryz.func104 (hlC S9.ok (hlC SX.ok (hlC SY.ok hlN))) (ahe (std 0) F5 F6 F7)
noncomputable def Ga:=Ta.c
def xk:=fun op x y hx hy=>Ta.cs (aiv ajz ajA ajt aju ajv ajw op x y hx hy)
def ajB:=fun op x y hx hy=>(xk op x y hx hy).1
def ajC:=fun op x y hx hy=>(xk op x y hx hy).2
def Ht:=mk Tryz.func108 (hlC uS.ok hlN) (ahf (std 0) dI)
noncomputable def jB:=Ht.c
def xq:=fun a ha=>Ht.cs (aio AY AZ a ha)
def Tc:=fun a ha=>(xq a ha).1
def Td:=fun a ha=>(xq a ha).2
def Te:=mk Tryz.func142 (hlC yK.ok (hlC yH.ok hlN)) (ahg (std 0) gZ gX)
noncomputable def F8:=Te.c
def zH:=fun op a b=>Te.cs (ain Kl Km KE KF op a b)
def ajD:=fun op a b=>(zH op a b).1
def ajE:=fun op a b=>(zH op a b).2
def Tf:=mk Tryz.func143 (hlC lM.ok hlN) (ahh (std 0) bA)
noncomputable def F9:=Tf.c
def xu:=fun op n y hy=>Tf.cs (ait rP rQ op n y hy)
def ajF:=fun op n y hy=>(xu op n y hy).1
def ajG:=fun op n y hy=>(xu op n y hy).2
def Tg:=mk Tryz.func105 (hlC rO.ok (hlC lM.ok (hlC Te.ok (hlC KD.ok (hlC Ht.ok (hlC Tf.ok hlN)))))) (ahi (std 0) bR bA F8 pq jB F9)
noncomputable def Gb:=Tg.c
def xw:=fun op x y hx hy=>Tg.cs (aiu yI yJ rP rQ ajD ajE aaV aaW Tc Td ajF ajG op x y hx hy)
def ajH:=fun op x y hx hy=>(xw op x y hx hy).1
def ajI:=fun op x y hx hy=>(xw op x y hx hy).2
def Ti:=mk Tryz.func56 (hlC AV.ok (hlC rO.ok (hlC Ta.ok (hlC Tg.ok (hlC Hr.ok hlN))))) (ahj (std 0) gY bR Ga Gb jC)
noncomputable def Gi:=Ti.c
def Ca:=fun op x y t hop hx hy ht hok=>Ti.cs (aiw Kr Kt yI yJ ajB ajC ajH ajI SN SQ op x y t hop hx hy ht hok)
def ajJ:=fun op x y t hop hx hy ht hok=>(Ca op x y t hop hx hy ht hok).1
def ajK:=fun op x y t hop hx hy ht hok=>(Ca op x y t hop hx hy ht hok).2
def KL:=mk Tryz.func106 hlN (ahk (std 0))
noncomputable def Gc:=KL.c
def ajL:=fun l k hl=>(KL.cs (aaz l k hl)).1
def ajM:=fun l k hl=>(KL.cs (aaz l k hl)).2
def Tj:=mk Tryz.func57 (hlC AV.ok (hlC Hr.ok (hlC KL.ok hlN))) (ahl (std 0) gY jC Gc)
noncomputable def Gj:=Tj.c
def uT:=fun l k t hl ht hk=>Tj.cs (aiQ Kr Kt SN SQ ajL ajM l k t hl ht hk)
def ajN:=fun l k t hl ht hk=>(uT l k t hl ht hk).1
def ajO:=fun l k t hl ht hk=>(uT l k t hl ht hk).2
def Hu:=mk Tryz.func59 (hlC lM.ok hlN) (ahm (std 0) bA)
noncomputable def jD:=Hu.c
def uU:=fun a ha=>Hu.cs (aiP rP rQ a ha)
def Tk:=fun a ha=>(uU a ha).1
def Tm:=fun a ha=>(uU a ha).2
def Tn:=mk Tryz.func58 (hlC lM.ok (hlC Hu.ok hlN)) (ahn (std 0) bA jD)
noncomputable def Gm:=Tn.c
def uV:=fun o x y r hx hy hr=>Tn.cs (aiR rP rQ Tk Tm o x y r hx hy hr)
def ajP:=fun o x y r hx hy hr=>(uV o x y r hx hy hr).1
def ajQ:=fun o x y r hx hy hr=>(uV o x y r hx hy hr).2
def KM:=mk Tryz.func61 hlN (aho (std 0))
noncomputable def Gp:=KM.c
def ajR:=fun b=>(KM.cs (aaB b)).1
def ajS:=fun b=>(KM.cs (aaB b)).2
def KN:=mk Tryz.func62 hlN (ahp (std 0))
noncomputable def Gq:=KN.c
def ajT:=fun b=>(KN.cs (aaC b)).1
def ajU:=fun b=>(KN.cs (aaC b)).2
end Go.TX.F
namespace Go.TX.F
open Go Go.AE Go.TX Go.TX.Seat Go.Proofs
set_option maxRecDepth 100000
def Hw:=mk Tryz.func109 hlN (ahq (std 0))
noncomputable def pz:=Hw.c
def aa1:=fun s k=>(Hw.cs (aaA s k)).1
def aa2:=fun s k=>(Hw.cs (aaA s k)).2
def Tp:=mk Tryz.func110 (hlC Ht.ok (hlC rO.ok (hlC Hw.ok hlN))) (ahr (std 0) jB bR pz)
noncomputable def Gd:=Tp.c
def Cc:=fun s n hs hx hy hf=>Tp.cs (aiS Tc Td yI yJ aa1 aa2 s n hs hx hy hf)
def ajV:=fun s n hs hx hy hf=>(Cc s n hs hx hy hf).1
def ajW:=fun s n hs hx hy hf=>(Cc s n hs hx hy hf).2
def Tq:=mk Tryz.func63 (hlC Ht.ok (hlC uS.ok (hlC lM.ok (hlC Hw.ok (hlC Tp.ok (hlC Hu.ok hlN)))))) (ahs (std 0) jB dI bA pz Gd jD)
noncomputable def Gf:=Tq.c
def xA:=fun s n hs=>Tq.cs (aiT Tc Td AY AZ rP rQ aa1 aa2 ajV ajW Tk Tm s n hs)
def ajX:=fun s n hs=>(xA s n hs).1
def ajY:=fun s n hs=>(xA s n hs).2
def Tt:=mk Tryz.func25 (hlC Ko.ok (hlC AV.ok (hlC KD.ok (hlC Tq.ok (hlC Ku.ok (hlC SK.ok (hlC lM.ok (hlC SL.ok (hlC Ti.ok (hlC Hr.ok (hlC Tj.ok (hlC Tn.ok (hlC KC.ok (hlC Hu.ok (hlC KM.ok (hlC KN.ok hlN)))))))))))))))) (aht (std 0) pE gY pq Gf pF Gg bA Gh Gi jC Gj Gm Gn jD Gp Gq)
noncomputable def Gt:=Tt.c
def xB:=fun t b ht hb=>Tt.cs (aiU aaL aaM Kr Kt aaV aaW ajX ajY aaN aaO ajn ajo rP rQ ajp ajq ajJ ajK SN SQ ajN ajO ajP ajQ ajr ajs Tk Tm ajR ajS ajT ajU t b ht hb)
def ajZ:=fun t b ht hb=>(xB t b ht hb).1
def aj0:=fun t b ht hb=>(xB t b ht hb).2
def KO:=mk Tryz.func64 (hlC rO.ok hlN) (ahu (std 0) bR)
noncomputable def pG:=KO.c
def uW:=fun a b ha=>KO.cs (aiW yI yJ a b ha)
def aa3:=fun a b ha=>(uW a b ha).1
def aa4:=fun a b ha=>(uW a b ha).2
def Tv:=mk Tryz.func66 (hlC rO.ok (hlC KO.ok hlN)) (ahv (std 0) bR pG)
noncomputable def Gr:=Tv.c
def uX:=fun a b ha=>Tv.cs (aiX yI yJ aa3 aa4 a b ha)
def aj1:=fun a b ha=>(uX a b ha).1
def aj2:=fun a b ha=>(uX a b ha).2
def Tw:=mk Tryz.func26 (hlC rO.ok (hlC Tv.ok (hlC KO.ok hlN))) (ahw (std 0) bR Gr pG)
noncomputable def Gu:=Tw.c
def uY:=fun a b ha=>Tw.cs (aiY yI yJ aj1 aj2 aa3 aa4 a b ha)
def aj3:=fun a b ha=>(uY a b ha).1
def aj4:=fun a b ha=>(uY a b ha).2
def Tx:=mk Tryz.func7 (hlC Ko.ok (hlC Kq.ok (hlC Ku.ok (hlC Tt.ok (hlC Tw.ok hlN))))) (ahx (std 0) pE Gs pF Gt Gu)
noncomputable def GQ:=Tx.c
def uZ:=fun b c hb hc=>Tx.cs (aiZ aaL aaM ajf ajg aaN aaO ajZ aj0 aj3 aj4 b c hb hc)
def aj5:=fun b c hb hc=>(uZ b c hb hc).1
def aj6:=fun b c hb hc=>(uZ b c hb hc).2
def Vd:=mk Tryz.func67 hlN (anJ (std 0))
noncomputable def NQ:=Vd.c
def aql:=fun o=>(Vd.cs (adN o)).1
def aqm:=fun o=>(Vd.cs (adN o)).2
def aa5:=mk Tryz.func27 (hlC Vd.ok hlN) (anK (std 0) NQ)
noncomputable def NR:=aa5.c
def u6:=fun l h=>aa5.cs (ap5 aql aqm l h)
def aqn:=fun l h=>(u6 l h).1
def aqo:=fun l h=>(u6 l h).2
def aa6:=mk Tryz.func8 (hlC aa5.ok hlN) (anL (std 0) NR)
noncomputable def OM:=aa6.c
def qC:=fun b h=>aa6.cs (ap6 aqn aqo b h)
def aqp:=fun b h=>(qC b h).1
def aqr:=fun b h=>(qC b h).2
def kY:=mk Tryz.func68 hlN (anM (std 0))
noncomputable def aV:=kY.c
def kZ:=fun a b c=>(kY.cs (adB a b c)).1
def lg:=fun a b c=>(kY.cs (adB a b c)).2
def Ve:=mk Tryz.func75 (hlC kY.ok hlN) (anN (std 0) aV)
noncomputable def wB:=Ve.c
def sF:=fun o=>Ve.cs (apF kZ lg o)
def adQ:=fun o=>(sF o).1
def adR:=fun o=>(sF o).2
def Ce:=mk Tryz.func112 (hlC kY.ok hlN) (anO (std 0) aV)
noncomputable def iH:=Ce.c
def Pb:=fun a=>(Ce.cs (adC kZ lg a)).1
def Pf:=fun a=>(Ce.cs (adC kZ lg a)).2
def Pg:=mk Tryz.func113 (hlC kY.ok hlN) (anP (std 0) aV)
noncomputable def wD:=Pg.c
def adS:=fun a=>(Pg.cs (adE kZ lg a)).1
def adT:=fun a=>(Pg.cs (adE kZ lg a)).2
def Ph:=mk Tryz.func114 (hlC kY.ok hlN) (anQ (std 0) aV)
noncomputable def wC:=Ph.c
def adU:=fun a=>(Ph.cs (adD kZ lg a)).1
def adV:=fun a=>(Ph.cs (adD kZ lg a)).2
def aa7:=mk Tryz.func145 (hlC kY.ok hlN) (anR (std 0) aV)
noncomputable def NS:=aa7.c
def lu:=fun o=>aa7.cs (apG kZ lg o)
def aqs:=fun o=>(lu o).1
def aqt:=fun o=>(lu o).2
def Vf:=mk Tryz.func115 (hlC aa7.ok (hlC kY.ok hlN)) (anS (std 0) NS aV)
noncomputable def wz:=Vf.c
def lC:=fun b x n h0 h1 h2=>Vf.cs (apI aqs aqt kZ lg b x n h0 h1 h2)
def adW:=fun b x n h0 h1 h2=>(lC b x n h0 h1 h2).1
def adX:=fun b x n h0 h1 h2=>(lC b x n h0 h1 h2).2
def aa8:=mk Tryz.func69 (hlC Vf.ok (hlC Ve.ok (hlC Ce.ok (hlC kY.ok (hlC Ph.ok (hlC Pg.ok hlN)))))) (anT (std 0) wz wB iH aV wC wD)
noncomputable def NU:=aa8.c
def lU:=fun b i h0 h1 h2 h3=>aa8.cs (apJ adW adX adQ adR Pb Pf kZ lg adU adV adS adT b i h0 h1 h2 h3)
def aqu:=fun b i h0 h1 h2 h3=>(lU b i h0 h1 h2 h3).1
def aqv:=fun b i h0 h1 h2 h3=>(lU b i h0 h1 h2 h3).2
def Pj:=mk Tryz.func81 hlN (anU (std 0))
noncomputable def wE:=Pj.c
def adY:=fun b=>(Pj.cs (adK b)).1
def adZ:=fun b=>(Pj.cs (adK b)).2
def aa9:=mk Tryz.func70 (hlC Pj.ok (hlC Vf.ok (hlC Ce.ok (hlC kY.ok hlN)))) (anV (std 0) wE wz iH aV)
noncomputable def NT:=aa9.c
def lD:=fun b h2=>aa9.cs (apK adY adZ adW adX Pb Pf kZ lg b h2)
def aqw:=fun b h2=>(lD b h2).1
def aqx:=fun b h2=>(lD b h2).2
def Vg:=mk Tryz.func28 (hlC aa9.ok (hlC aa8.ok (hlC kY.ok hlN))) (anW (std 0) NT NU aV)
noncomputable def wR:=Vg.c
def Cg:=fun b h2=>Vg.cs (apL aqw aqx aqu aqv kZ lg b h2)
def ad1:=fun b h2=>(Cg b h2).1
def ad2:=fun b h2=>(Cg b h2).2
def Vh:=mk Tryz.func71 hlN (anX (std 0))
noncomputable def NV:=Vh.c
def aqy:=fun a b ha=>(Vh.cs (adM a b ha)).1
def aqz:=fun a b ha=>(Vh.cs (adM a b ha)).2
def abb:=mk Tryz.func29 (hlC Vh.ok hlN) (anY (std 0) NV)
noncomputable def OC:=abb.c
def xC:=fun a b ha=>abb.cs (apV aqy aqz a b ha)
def aqA:=fun a b ha=>(xC a b ha).1
def aqB:=fun a b ha=>(xC a b ha).2
def Vi:=mk Tryz.func176 hlN (anZ (std 0))
noncomputable def NW:=Vi.c
def aqC:=fun a n=>(Vi.cs (adF a n)).1
def aqD:=fun a n=>(Vi.cs (adF a n)).2
def Tz:=mk Tryz.func198 (hlC Vi.ok hlN) (ahy (std 0) NW)
noncomputable def Gw:=Tz.c
def iX:=fun a n ha=>Tz.cs (ah3 aqC aqD a n ha)
def aj7:=fun a n ha=>(iX a n ha).1
def aj8:=fun a n ha=>(iX a n ha).2
def abd:=mk Tryz.func175 (hlC Tz.ok hlN) (an0 (std 0) Gw)
noncomputable def NY:=abd.c
def iw:=fun a n ha=>abd.cs (ao7 aj7 aj8 a n ha)
def aqE:=fun a n ha=>(iw a n ha).1
def aqF:=fun a n ha=>(iw a n ha).2
def Vj:=mk Tryz.func147 (hlC abd.ok hlN) (an1 (std 0) NY)
noncomputable def wF:=Vj.c
def sG:=fun a n ha=>Vj.cs (ao8 aqE aqF a n ha)
def ad3:=fun a n ha=>(sG a n ha).1
def ad4:=fun a n ha=>(sG a n ha).2
def abe:=mk Tryz.func182 hlN (atA (std 0))
noncomputable def H8:=abe.c
def aqG:=fun a=>(abe.cs (ao3 a)).1
def aqH:=fun a=>(abe.cs (ao3 a)).2
def abf:=mk Tryz.func155 (hlC abe.ok hlN) (atB (std 0) H8)
noncomputable def yA:=abf.c
def oq:=fun a b=>abf.cs (atH aqG aqH a b)
def aj9:=fun a b=>(oq a b).1
def akb:=fun a b=>(oq a b).2
def abg:=mk Tryz.func156 hlN (atC (std 0))
noncomputable def H9:=abg.c
def aqI:=fun a b=>(abg.cs (ao4 a b)).1
def aqJ:=fun a b=>(abg.cs (ao4 a b)).2
def abh:=mk Tryz.func183 (hlC abf.ok hlN) (an2 (std 0) yA)
noncomputable def NZ:=abh.c
def jk:=fun a b ha=>abh.cs (ao5 aj9 akb a b ha)
def aqK:=fun a b ha=>(jk a b ha).1
def aqL:=fun a b ha=>(jk a b ha).2
def Ja:=mk Tryz.func157 (hlC abg.ok (hlC abf.ok (hlC abh.ok hlN))) (an3 (std 0) H9 yA NZ)
noncomputable def jM:=Ja.c
def ou:=fun a b ha=>Ja.cs (ao6 aj9 akb aqK aqL aqI aqJ a b ha)
def Vk:=fun a b ha=>(ou a b ha).1
def Vm:=fun a b ha=>(ou a b ha).2
def abj:=mk Tryz.func184 (hlC abe.ok hlN) (atD (std 0) H8)
noncomputable def yB:=abj.c
def u7:=fun a b=>abj.cs (atI aqG aqH a b)
def aqM:=fun a b=>(u7 a b).1
def aqN:=fun a b=>(u7 a b).2
def TA:=mk Tryz.func159 (hlC abj.ok hlN) (ahz (std 0) yB)
noncomputable def Gy:=TA.c
def jh:=fun a ha=>TA.cs (ah2 aqM aqN a ha)
def akc:=fun a ha=>(jh a ha).1
def akd:=fun a ha=>(jh a ha).2
def Vn:=mk Tryz.func161 hlN (an4 (std 0))
noncomputable def N7:=Vn.c
def aqO:=fun m=>(Vn.cs (adG m)).1
def aqP:=fun m=>(Vn.cs (adG m)).2
def TB:=mk Tryz.func185 (hlC Vn.ok hlN) (ahA (std 0) N7)
noncomputable def Gx:=TB.c
def dG:=fun a ha=>TB.cs (ah4 (G:=(fun m:aj=>0<m.atoms.length∧m.atoms.getD 0 default<0)) aqO aqP a ha)
def ake:=fun a ha=>(dG a ha).1
def akf:=fun a ha=>(dG a ha).2
def abk:=mk Tryz.func160 (hlC TB.ok hlN) (an5 (std 0) Gx)
noncomputable def N8:=abk.c
def cB:=fun a ha=>abk.cs (ao9 (G:=(fun m:aj=>0<m.atoms.length∧m.atoms.getD 0 default<0)) ake akf a ha)
def aqQ:=fun a ha=>(cB a ha).1
def aqR:=fun a ha=>(cB a ha).2
end Go.TX.F
namespace Go.TX.F
open Go Go.AE Go.TX Go.TX.Seat Go.Proofs
set_option maxRecDepth 100000
def zI:=mk Tryz.func123 (hlC kY.ok (hlC Vj.ok (hlC TA.ok (hlC Ja.ok (hlC abk.ok hlN))))) (an6 (std 0) aV wF Gy jM N8)
noncomputable def eP:=zI.c
def zJ:=fun a ha=>zI.cs (apa kZ lg ad3 ad4 akc akd Vk Vm aqQ aqR a ha)
def Hy:=fun a ha=>(zJ a ha).1
def Hz:=fun a ha=>(zJ a ha).2
def Vo:=mk Tryz.func117 (hlC kY.ok (hlC Ph.ok (hlC Vj.ok (hlC zI.ok (hlC Pg.ok hlN))))) (an7 (std 0) aV wC wF eP wD)
noncomputable def wG:=Vo.c
def kg:=fun a n ha=>Vo.cs (apq kZ lg adU adV ad3 ad4 Hy Hz adS adT a n ha)
def ad5:=fun a n ha=>(kg a n ha).1
def ad6:=fun a n ha=>(kg a n ha).2
def Pk:=mk Tryz.func120 (hlC abg.ok (hlC abf.ok (hlC Ja.ok hlN))) (an8 (std 0) H9 yA jM)
noncomputable def mX:=Pk.c
def sH:=fun a b ha=>Pk.cs (apb aqI aqJ aj9 akb Vk Vm a b ha)
def abl:=fun a b ha=>(sH a b ha).1
def abm:=fun a b ha=>(sH a b ha).2
def Ch:=mk Tryz.func85 (hlC Pk.ok hlN) (an9 (std 0) mX)
noncomputable def gq:=Ch.c
def lV:=fun a b ha=>Ch.cs (apc abl abm a b ha)
def Jb:=fun a b ha=>(lV a b ha).1
def Jc:=fun a b ha=>(lV a b ha).2
def abn:=mk Tryz.func150 (hlC Ch.ok hlN) (aoa (std 0) gq)
noncomputable def N9:=abn.c
def lW:=fun a b ha=>abn.cs (apm Jb Jc a b ha)
def aqS:=fun a b ha=>(lW a b ha).1
def aqT:=fun a b ha=>(lW a b ha).2
def abo:=mk Tryz.func149 (hlC abn.ok hlN) (aob (std 0) N9)
noncomputable def Oa:=abo.c
def lF:=fun a b hb=>abo.cs (apn aqS aqT a b hb)
def aqU:=fun a b hb=>(lF a b hb).1
def aqV:=fun a b hb=>(lF a b hb).2
def TD:=mk Tryz.func148 (hlC abo.ok hlN) (ahB (std 0) Oa)
noncomputable def Gz:=TD.c
def dH:=fun a b ha hb=>TD.cs (ah5 aqU aqV a b ha hb)
def akg:=fun a b ha hb=>(dH a b ha hb).1
def akh:=fun a b ha hb=>(dH a b ha hb).2
def Vp:=mk Tryz.func118 (hlC TD.ok hlN) (aoc (std 0) Gz)
noncomputable def wH:=Vp.c
def nH:=fun a b ha hb=>Vp.cs (apo akg akh a b ha hb)
def ad7:=fun a b ha hb=>(nH a b ha hb).1
def ad8:=fun a b ha hb=>(nH a b ha hb).2
def abp:=mk Tryz.func158 hlN (aod (std 0))
noncomputable def Ob:=abp.c
def eD:=fun a=>abp.cs (apl a)
def aqW:=fun a=>(eD a).1
def aqX:=fun a=>(eD a).2
def Vq:=mk Tryz.func121 (hlC Vo.ok (hlC Vp.ok (hlC abp.ok hlN))) (aoe (std 0) wG wH Ob)
noncomputable def wJ:=Vq.c
def ow:=fun t a ht ha=>Vq.cs (aps ad5 ad6 ad7 ad8 aqW aqX t a ht ha)
def ad9:=fun t a ht ha=>(ow t a ht ha).1
def aea:=fun t a ht ha=>(ow t a ht ha).2
def Vr:=mk Tryz.func122 (hlC kY.ok hlN) (aof (std 0) aV)
noncomputable def wI:=Vr.c
def vg:=fun a=>Vr.cs (apf kZ lg a)
def aeb:=fun a=>(vg a).1
def aec:=fun a=>(vg a).2
def Vs:=mk Tryz.func80 (hlC Vr.ok (hlC Vq.ok hlN)) (aog (std 0) wI wJ)
noncomputable def wK:=Vs.c
def qD:=fun kd k t fl ht=>Vs.cs (apP aeb aec ad9 aea kd k t fl ht)
def aed:=fun kd k t fl ht=>(qD kd k t fl ht).1
def aee:=fun kd k t fl ht=>(qD kd k t fl ht).2
def Vt:=mk Tryz.func72 (hlC Vs.ok hlN) (aoh (std 0) wK)
noncomputable def wN:=Vt.c
def oC:=fun t fl ht hl=>Vt.cs (apQ aed aee t fl ht hl)
def aef:=fun t fl ht hl=>(oC t fl ht hl).1
def aeg:=fun t fl ht hl=>(oC t fl ht hl).2
def Pm:=mk Tryz.func146 hlN (aoi (std 0))
noncomputable def wL:=Pm.c
def aeh:=fun a ha=>(Pm.cs (adI a ha)).1
def aei:=fun a ha=>(Pm.cs (adI a ha)).2
def Pn:=mk Tryz.func116 (hlC Pm.ok hlN) (aoj (std 0) wL)
noncomputable def mY:=Pn.c
def lG:=fun a ha=>Pn.cs (aph aeh aei a ha)
def abq:=fun a ha=>(lG a ha).1
def abr:=fun a ha=>(lG a ha).2
def Vu:=mk Tryz.func73 (hlC Pn.ok hlN) (aol (std 0) mY)
noncomputable def wM:=Vu.c
def lX:=fun a ha=>Vu.cs (apj abq abr a ha)
def aej:=fun a ha=>(lX a ha).1
def aek:=fun a ha=>(lX a ha).2
def abt:=mk Tryz.func30 (hlC Vu.ok (hlC Vt.ok hlN)) (aom (std 0) wM wN)
noncomputable def OD:=abt.c
def xD:=abt.cs (apS aej aek aef aeg)
def aqY:=(xD).1
def aqZ:=(xD).2
def abu:=mk Tryz.func74 (hlC Vo.ok (hlC Vp.ok hlN)) (aon (std 0) wG wH)
noncomputable def Ov:=abu.c
def zK:=fun a ha=>abu.cs (apr ad5 ad6 ad7 ad8 a ha)
def aq0:=fun a ha=>(zK a ha).1
def aq1:=fun a ha=>(zK a ha).2
def abv:=mk Tryz.func76 (hlC kY.ok hlN) (aoo (std 0) aV)
noncomputable def Oq:=abv.c
def oD:=fun o=>abv.cs (apH kZ lg o)
def aq2:=fun o=>(oD o).1
def aq3:=fun o=>(oD o).2
def abw:=mk Tryz.func77 hlN (aop (std 0))
noncomputable def Ox:=abw.c
def dV:=fun a h0 h1=>abw.cs (apR a h0 h1)
def aq4:=fun a h0 h1=>(dV a h0 h1).1
def aq5:=fun a h0 h1=>(dV a h0 h1).2
def Po:=mk Tryz.func78 (hlC kY.ok hlN) (aoq (std 0) aV)
noncomputable def ni:=Po.c
def sI:=fun a=>Po.cs (ape kZ lg a)
def abx:=fun a=>(sI a).1
def aby:=fun a=>(sI a).2
def Vv:=mk Tryz.func125 (hlC zI.ok hlN) (aor (std 0) eP)
noncomputable def wQ:=Vv.c
def xE:=fun a ha=>Vv.cs (apg Hy Hz a ha)
def ael:=fun a ha=>(xE a ha).1
def aem:=fun a ha=>(xE a ha).2
def Jd:=mk Tryz.func181 hlN (aos (std 0))
noncomputable def mZ:=Jd.c
def abz:=fun a=>(Jd.cs (adH a)).1
def abA:=fun a=>(Jd.cs (adH a)).2
def Vw:=mk Tryz.func200 (hlC Ja.ok hlN) (aot (std 0) jM)
noncomputable def nZ:=Vw.c
def zL:=fun a b ha=>Vw.cs (apk Vk Vm a b ha)
def aen:=fun a b ha=>(zL a b ha).1
def aeo:=fun a b ha=>(zL a b ha).2
def TF:=mk Tryz.func217 (hlC Vw.ok hlN) (ahC (std 0) nZ)
noncomputable def GD:=TF.c
def dN:=fun a b d hd h1 h2 h3=>TF.cs (ah7 aen aeo a b d hd h1 h2 h3)
def aki:=fun a b d hd h1 h2 h3=>(dN a b d hd h1 h2 h3).1
def akj:=fun a b d hd h1 h2 h3=>(dN a b d hd h1 h2 h3).2
def KQ:=mk Tryz.func226 hlN (ahD (std 0))
noncomputable def GA:=KQ.c
def akk:=fun a b n d hl h1 h2 h3 h4=>(KQ.cs (Z6 a b n d hl h1 h2 h3 h4)).1
def akl:=fun a b n d hl h1 h2 h3 h4=>(KQ.cs (Z6 a b n d hl h1 h2 h3 h4)).2
def TG:=mk Tryz.func224 (hlC KQ.ok hlN) (ahE (std 0) GA)
noncomputable def rF:=TG.c
def fM:=fun a m b d hl h1 h2 h3 h4=>TG.cs (ah6 akk akl a m b d hl h1 h2 h3 h4)
def akm:=fun a m b d hl h1 h2 h3 h4=>(fM a m b d hl h1 h2 h3 h4).1
def akn:=fun a m b d hl h1 h2 h3 h4=>(fM a m b d hl h1 h2 h3 h4).2
noncomputable def cK:Nat→Ct aB mW
 | 0=>never mW
 | k+1=>cn (FP (std 0) nZ.pre nZ.fn rF.pre rF.fn (cK k).pre (cK k).fn)
theorem kK:∀k:Nat,dw E 218 (bZ (cK k))∧∀(a m b:Int) (d:List aj),AL a m b d→b-a<k→(cK k).pre (a,m,b,d,())=true∧Mrg d ((cK k).fn (a,m,b,d,())).1 a b
 | 0=>⟨j6 (enters_of Tryz.func218 (by kernel_rfl) rfl),fun a m b d h1 h2=>(by have g1:=h1.h2;have g2:=h1.h3;omega)⟩
 | k+1=>by
  have ih:=kK k
  have t:Fn E 218 (FP (std 0) nZ.pre nZ.fn rF.pre rF.fn (cK k).pre (cK k).fn) (cK (k+1)):=mk Tryz.func218 (hlC Vw.ok (hlC TG.ok (hlC ih.1 hlN))) (ahF (std 0) nZ rF (cK k))
  exact⟨t.ok,fun a m b d h1 h2=>t.cs (ah8 aen aeo akm akn (k:Int) (fun a m b d h1 h2=>(ih.2 a m b d h1 h2).1) (fun a m b d h1 h2=>(ih.2 a m b d h1 h2).2) a m b d h1 (by omega))⟩
noncomputable def pI:Ct aB mW:=cK 1000000000
theorem ako:dw E 218 (bZ pI):=(kK 1000000000).1
theorem aep {a m b:Int} {d:List aj} (h:AL a m b d):b-a< ((1000000000:Nat):Int):=by have g0:=h.sh.1;have g1:=h.h1;have g2:=h.h4;omega
def akp:=fun a m b d h=>((kK 1000000000).2 a m b d h (aep h)).1
def akq:=fun a m b d h=>((kK 1000000000).2 a m b d h (aep h)).2
def TH:=mk Tryz.func206 (hlC TF.ok (hlC ako hlN)) (ahG (std 0) GD pI)
noncomputable def GH:=TH.c
def fO:=fun n d hd hn=>TH.cs (ah9 aki akj akp akq n d hd hn)
def akr:=fun n d hd hn=>(fO n d hd hn).1
def aks:=fun n d hd hn=>(fO n d hd hn).2
def TI:=mk Tryz.func199 (hlC TH.ok hlN) (ahH (std 0) GH)
noncomputable def GI:=TI.c
def bV:=fun d hd=>TI.cs (aia akr aks d hd)
def akt:=fun d hd=>(bV d hd).1
def aku:=fun d hd=>(bV d hd).2
def Vx:=mk Tryz.func177 (hlC Ja.ok (hlC zI.ok (hlC Jd.ok (hlC Pm.ok (hlC TI.ok hlN))))) (aou (std 0) jM eP mZ wL GI)
noncomputable def wO:=Vx.c
def HV:=fun l hl hc=>Vx.cs (apu Vk Vm Hy Hz abz abA aeh aei akt aku l hl hc)
def aer:=fun l hl hc=>(HV l hl hc).1
def aes:=fun l hl hc=>(HV l hl hc).2
end Go.TX.F
namespace Go.TX.F
open Go Go.AE Go.TX Go.TX.Seat Go.Proofs
set_option maxRecDepth 100000
def abB:=mk Tryz.func201 hlN (aov (std 0))
noncomputable def Oc:=abB.c
def eF:=fun n h1 h2=>abB.cs (apv n h1 h2)
def aq6:=fun n h1 h2=>(eF n h1 h2).1
def aq7:=fun n h1 h2=>(eF n h1 h2).2
def abC:=mk Tryz.func178 (hlC abB.ok hlN) (aow (std 0) Oc)
noncomputable def Od:=abC.c
def dQ:=fun a b ha hb=>abC.cs (apw aq6 aq7 a b ha hb)
def aq8:=fun a b ha hb=>(dQ a b ha hb).1
def aq9:=fun a b ha hb=>(dQ a b ha hb).2
def abD:=mk Tryz.func151 (hlC zI.ok (hlC Vx.ok (hlC abC.ok hlN))) (aox (std 0) eP wO Od)
noncomputable def Oh:=abD.c
def xG:=fun a b ha hb=>abD.cs (apy Hy Hz aer aes aq8 aq9 a b ha hb)
def ara:=fun a b ha hb=>(xG a b ha hb).1
def arb:=fun a b ha hb=>(xG a b ha hb).2
def KR:=mk Tryz.func202 hlN (ahI (std 0))
noncomputable def GJ:=KR.c
def akv:=fun n h1 h2=>(KR.cs (Z7 n h1 h2)).1
def akw:=fun n h1 h2=>(KR.cs (Z7 n h1 h2)).2
def abE:=mk Tryz.func179 (hlC KR.ok hlN) (aoy (std 0) GJ)
noncomputable def Oe:=abE.c
def jP:=fun a b ha hb=>abE.cs (apx akv akw a b ha hb)
def ard:=fun a b ha hb=>(jP a b ha hb).1
def arf:=fun a b ha hb=>(jP a b ha hb).2
def TJ:=mk Tryz.func207 (hlC abj.ok hlN) (ahJ (std 0) yB)
noncomputable def GK:=TJ.c
def gu:=fun a b d hd h1 h2=>TJ.cs (aiC aqM aqN a b d hd h1 h2)
def akx:=fun a b d hd h1 h2=>(gu a b d hd h1 h2).1
def aky:=fun a b d hd h1 h2=>(gu a b d hd h1 h2).2
noncomputable def Aq:Ct aB Fp:=never Fp
theorem akz:dw E 208 (bZ Aq):=j6 (enters_of Tryz.func208 (by kernel_rfl) rfl)
noncomputable def Ar:Ct aB Fq:=never Fq
theorem akA:dw E 209 (bZ Ar):=j6 (enters_of Tryz.func209 (by kernel_rfl) rfl)
noncomputable def Au:Ct aB Fu:=never Fu
theorem akB:dw E 210 (bZ Au):=j6 (enters_of Tryz.func210 (by kernel_rfl) rfl)
noncomputable def Av:Ct aB Fv:=never Fv
theorem akC:dw E 211 (bZ Av):=j6 (enters_of Tryz.func211 (by kernel_rfl) rfl)
noncomputable def Aw:Ct aB Fw:=never Fw
theorem akD:dw E 212 (bZ Aw):=j6 (enters_of Tryz.func212 (by kernel_rfl) rfl)
noncomputable def Ay:Ct aB Fx:=never Fx
theorem akE:dw E 213 (bZ Ay):=j6 (enters_of Tryz.func213 (by kernel_rfl) rfl)
noncomputable def Az:Ct aB Fy:=never Fy
theorem akF:dw E 214 (bZ Az):=j6 (enters_of Tryz.func214 (by kernel_rfl) rfl)
noncomputable def iI:Ct aB oP:=never oP
theorem lN:dw E 203 (bZ iI):=j6 (enters_of Tryz.func203 (by kernel_rfl) rfl)
def TK:=mk Tryz.func203 (hlC abj.ok (hlC TJ.ok (hlC akz (hlC akA (hlC akB (hlC akC (hlC akD (hlC akE (hlC akF (hlC lN hlN)))))))))) (ahK (std 0) yB GK Aq Ar Au Av Aw Ay Az iI)
noncomputable def rG:=TK.c
def iO:=fun a b k d hd h1 h2=>TK.cs (aiD akx aky _ _ _ _ _ _ _ _ _ _ _ _ _ _ _ _ a b k d hd h1 h2)
def akG:=fun a b k d hd h1 h2=>(iO a b k d hd h1 h2).1
def akH:=fun a b k d hd h1 h2=>(iO a b k d hd h1 h2).2
noncomputable def GL:Ct aB UA:={pre:=fun x=>decide ((0:Int)≤x.1)&&decide ((x.1:Int)≤18446744073709551615),fn:=fun x=>((Lib.bitLen (x.1:Int).toNat:Int),())}
theorem arh (n:Int) (h1:0≤n) (h2:n≤18446744073709551615):GL.pre (n,())=true:=by
 show(decide _&&decide _)=true;simp only [Bool.and_eq_true,decide_eq_true_eq];exact⟨h1,h2⟩
theorem ari:dw E 204 (bZ GL):=
 aaH (enters_of Tryz.func204 (by kernel_rfl) rfl) rfl fun x w h=>by
  have h':(decide ((0:Int)≤x)&&decide (x≤18446744073709551615))=true:=h
  simp only [Bool.and_eq_true,decide_eq_true_eq]at h'
  exact bits_Len x w h'.1 h'.2
def TL:=mk Tryz.func180 (hlC TK.ok (hlC ari hlN)) (ahL (std 0) rG GL)
noncomputable def GN:=TL.c
def ku:=fun a ha=>TL.cs (aiE akG akH arh a ha)
def akI:=fun a ha=>(ku a ha).1
def akJ:=fun a ha=>(ku a ha).2
def Vy:=mk Tryz.func153 (hlC zI.ok (hlC Jd.ok (hlC Vx.ok (hlC abE.ok (hlC TL.ok hlN))))) (aoz (std 0) eP mZ wO Oe GN)
noncomputable def wP:=Vy.c
def xH:=fun a b ha hb=>Vy.cs (apz Hy Hz abz abA aer aes ard arf akI akJ a b ha hb)
def aeu:=fun a b ha hb=>(xH a b ha hb).1
def aev:=fun a b ha hb=>(xH a b ha hb).2
def abF:=mk Tryz.func152 (hlC zI.ok (hlC Po.ok (hlC Ce.ok (hlC Vy.ok hlN)))) (aoA (std 0) eP ni iH wP)
noncomputable def Oi:=abF.c
def sJ:=fun a n ha=>abF.cs (apA Hy Hz abx aby Pb Pf aeu aev a n ha)
def arj:=fun a n ha=>(sJ a n ha).1
def ark:=fun a n ha=>(sJ a n ha).2
def abG:=mk Tryz.func154 (hlC Ce.ok (hlC Jd.ok hlN)) (aoB (std 0) iH mZ)
noncomputable def Og:=abG.c
def zN:=fun op a b=>abG.cs (apd Pb Pf abz abA op a b)
def arl:=fun op a b=>(zN op a b).1
def arn:=fun op a b=>(zN op a b).2
def abH:=mk Tryz.func119 (hlC Ch.ok (hlC Po.ok (hlC abG.ok (hlC abD.ok (hlC Vy.ok (hlC abF.ok (hlC Vv.ok hlN))))))) (aoC (std 0) gq ni Og Oh wP Oi wQ)
noncomputable def Oj:=abH.c
def xI:=fun op x y hx hy=>abH.cs (apB Jb Jc abx aby arl arn ara arb aeu aev arj ark ael aem op x y hx hy)
def aro:=fun op x y hx hy=>(xI op x y hx hy).1
def arp:=fun op x y hx hy=>(xI op x y hx hy).2
def abI:=mk Tryz.func79 (hlC Pk.ok (hlC abH.ok (hlC Vq.ok (hlC Vr.ok hlN)))) (aoD (std 0) mX Oj wJ wI)
noncomputable def Ow:=abI.c
def qE:=fun t op x y ht hx hy=>abI.cs (apC abl abm aro arp ad9 aea aeb aec t op x y ht hx hy)
def arq:=fun t op x y ht hx hy=>(qE t op x y ht hx hy).1
def ars:=fun t op x y ht hx hy=>(qE t op x y ht hx hy).2
def abJ:=mk Tryz.func162 (hlC Pn.ok hlN) (aoE (std 0) mY)
noncomputable def Ol:=abJ.c
def oF:=fun a ha=>abJ.cs (apN abq abr a ha)
def aru:=fun a ha=>(oF a ha).1
def arv:=fun a ha=>(oF a ha).2
def abK:=mk Tryz.func124 (hlC Pn.ok (hlC abJ.ok hlN)) (aoF (std 0) mY Ol)
noncomputable def Om:=abK.c
def lY:=fun s hs=>abK.cs (apO abq abr aru arv s hs)
def arw:=fun s hs=>(lY s hs).1
def arx:=fun s hs=>(lY s hs).2
def abL:=mk Tryz.func126 (hlC Ce.ok hlN) (aoG (std 0) iH)
noncomputable def Oo:=abL.c
def xJ:=fun r a b=>abL.cs (apM Pb Pf r a b)
def arz:=fun r a b=>(xJ r a b).1
def arA:=fun r a b=>(xJ r a b).2
def abM:=mk Tryz.func82 (hlC Vv.ok (hlC zI.ok (hlC Pk.ok (hlC abK.ok (hlC Ch.ok (hlC abL.ok hlN)))))) (aoH (std 0) wQ eP mX Om gq Oo)
noncomputable def Ou:=abM.c
def xK:=fun s n hs h0 h1=>abM.cs (apT ael aem Hy Hz abl abm arw arx Jb Jc arz arA s n hs h0 h1)
def arB:=fun s n hs h0 h1=>(xK s n hs h0 h1).1
def arC:=fun s n hs h0 h1=>(xK s n hs h0 h1).2
def abN:=mk Tryz.func31 (hlC Pj.ok (hlC Vg.ok (hlC abv.ok (hlC Ve.ok (hlC Po.ok (hlC abM.ok (hlC abu.ok (hlC Vu.ok (hlC abI.ok (hlC Vs.ok (hlC Vt.ok (hlC abw.ok hlN)))))))))))) (aoI (std 0) wE wR Oq wB ni Ou Ov wM Ow wK wN Ox)
noncomputable def OE:=abN.c
def xL:=fun t b ht hb=>abN.cs (apU adY adZ ad1 ad2 aq2 aq3 adQ adR abx aby arB arC aq0 aq1 aej aek arq ars aed aee aef aeg aq4 aq5 t b ht hb)
def arD:=fun t b ht hb=>(xL t b ht hb).1
def arE:=fun t b ht hb=>(xL t b ht hb).2
def abO:=mk Tryz.func128 (hlC Ch.ok hlN) (aoJ (std 0) gq)
noncomputable def Oy:=abO.c
def nI:=fun a b ha=>abO.cs (apW Jb Jc a b ha)
def arF:=fun a b ha=>(nI a b ha).1
def arG:=fun a b ha=>(nI a b ha).2
def abP:=mk Tryz.func127 (hlC abO.ok hlN) (aoK (std 0) Oy)
noncomputable def Oz:=abP.c
def aZ:=fun a b ha=>abP.cs (apX arF arG a b ha)
def arH:=fun a b ha=>(aZ a b ha).1
def arI:=fun a b ha=>(aZ a b ha).2
def Vz:=mk Tryz.func86 (hlC abP.ok hlN) (aoL (std 0) Oz)
noncomputable def wS:=Vz.c
def qF:=fun a b ha=>Vz.cs (apY arH arI a b ha)
def aew:=fun a b ha=>(qF a b ha).1
def aex:=fun a b ha=>(qF a b ha).2
def abQ:=mk Tryz.func84 (hlC Ch.ok (hlC Vz.ok hlN)) (aoM (std 0) gq wS)
noncomputable def OA:=abQ.c
def qG:=fun a b ha=>abQ.cs (apZ Jb Jc aew aex a b ha)
def arJ:=fun a b ha=>(qG a b ha).1
def arK:=fun a b ha=>(qG a b ha).2
def abR:=mk Tryz.func83 (hlC abQ.ok hlN) (aoN (std 0) OA)
noncomputable def OB:=abR.c
def aT:=fun a b ha=>abR.cs (ap0 arJ arK a b ha)
def arL:=fun a b ha=>(aT a b ha).1
def arM:=fun a b ha=>(aT a b ha).2
end Go.TX.F
namespace Go.TX.F
open Go Go.AE Go.TX Go.TX.Seat Go.Proofs
set_option maxRecDepth 100000
def abS:=mk Tryz.func32 (hlC Ch.ok (hlC Vz.ok (hlC abR.ok hlN))) (aoO (std 0) gq wS OB)
noncomputable def OG:=abS.c
def vk:=fun a b ha=>abS.cs (ap1 Jb Jc aew aex arL arM a b ha)
def arN:=fun a b ha=>(vk a b ha).1
def arO:=fun a b ha=>(vk a b ha).2
def abT:=mk Tryz.func9 (hlC Vg.ok (hlC abb.ok (hlC abt.ok (hlC abN.ok (hlC abS.ok hlN))))) (aoP (std 0) wR OC OD OE OG)
noncomputable def OP:=abT.c
def vo:=fun b c hb hc=>abT.cs (ap2 ad1 ad2 aqA aqB aqY aqZ arD arE arN arO b c hb hc)
def arP:=fun b c hb hc=>(vo b c hb hc).1
def arQ:=fun b c hb hc=>(vo b c hb hc).2
def VA:=mk Tryz.func87 hlN (aoQ (std 0))
noncomputable def OH:=VA.c
def arR:=fun a b=>(VA.cs (adO a b)).1
def arS:=fun a b=>(VA.cs (adO a b)).2
def abU:=mk Tryz.func33 (hlC VA.ok hlN) (aoR (std 0) OH)
noncomputable def OI:=abU.c
def vw:=fun a b hlen=>abU.cs (ap7 arR arS a b hlen)
def arT:=fun a b hlen=>(vw a b hlen).1
def arU:=fun a b hlen=>(vw a b hlen).2
def abV:=mk Tryz.func10 (hlC abU.ok hlN) (aoS (std 0) OI)
noncomputable def OT:=abV.c
def qH:=fun a b h=>abV.cs (ap8 arT arU a b h)
def arV:=fun a b h=>(qH a b h).1
def arW:=fun a b h=>(qH a b h).2
def abW:=mk Tryz.func34 (hlC aaI.ok hlN) (aoT (std 0) OJ)
noncomputable def OL:=abW.c
def qI:=fun q m h h0 h1=>abW.cs (aqa aqj aqk q m h h0 h1)
def arX:=fun q m h h0 h1=>(qI q m h h0 h1).1
def arY:=fun q m h h0 h1=>(qI q m h h0 h1).2
def abX:=mk Tryz.func11 (hlC abW.ok hlN) (aoU (std 0) OL)
noncomputable def OW:=abX.c
def oG:=fun l m h h0 h1=>abX.cs (aqb arX arY l m h h0 h1)
def arZ:=fun l m h h0 h1=>(oG l m h h0 h1).1
def ar0:=fun l m h h0 h1=>(oG l m h h0 h1).2
def TM:=mk Tryz.func12 (hlC Tx.ok hlN) (ahM (std 0) GQ)
noncomputable def GV:=TM.c
def zO:=fun l h=>TM.cs (ai1 aj5 aj6 l h)
def akK:=fun l h=>(zO l h).1
def akL:=fun l h=>(zO l h).2
def abY:=mk Tryz.func35 (hlC aa6.ok hlN) (aoV (std 0) OM)
noncomputable def OO:=abY.c
def qJ:=fun q h1 h2=>abY.cs (aqc aqp aqr q h1 h2)
def ar1:=fun q h1 h2=>(qJ q h1 h2).1
def ar2:=fun q h1 h2=>(qJ q h1 h2).2
def abZ:=mk Tryz.func13 (hlC abY.ok hlN) (aoW (std 0) OO)
noncomputable def OX:=abZ.c
def oH:=fun l h=>abZ.cs (aqd ar1 ar2 l h)
def ar3:=fun l h=>(oH l h).1
def ar4:=fun l h=>(oH l h).2
def akM:=mk Tryz.func37 (hlC abT.ok hlN) (atE (std 0) OP)
noncomputable def ZU:=akM.c
def vB:=fun q h1 h2=>akM.cs (atK arP arQ q h1 h2)
def atW:=fun q h1 h2=>(vB q h1 h2).1
def atX:=fun q h1 h2=>(vB q h1 h2).2
def TN:=mk Tryz.func88 (hlC akM.ok hlN) (ahN (std 0) ZU)
noncomputable def GU:=TN.c
def cO:=fun l h=>TN.cs (aiO atW atX l h)
def akN:=fun l h=>(cO l h).1
def akO:=fun l h=>(cO l h).2
def ab0:=mk Tryz.func36 (hlC TN.ok hlN) (aoX (std 0) GU)
noncomputable def OQ:=ab0.c
def bS:=fun l h=>ab0.cs (ap3 akN akO l h)
def ar5:=fun l h=>(bS l h).1
def ar6:=fun l h=>(bS l h).2
def akP:=mk Tryz.func14 (hlC ab0.ok hlN) (atF (std 0) OQ)
noncomputable def ZV:=akP.c
def zP:=fun l h=>akP.cs (atL ar5 ar6 l h)
def atY:=fun l h=>(zP l h).1
def atZ:=fun l h=>(zP l h).2
def ab1:=mk Tryz.func38 (hlC abV.ok hlN) (aoY (std 0) OT)
noncomputable def OU:=ab1.c
def qK:=fun a b h1 h2=>ab1.cs (aqe arV arW a b h1 h2)
def ar7:=fun a b h1 h2=>(qK a b h1 h2).1
def ar8:=fun a b h1 h2=>(qK a b h1 h2).2
def ab2:=mk Tryz.func15 (hlC ab1.ok hlN) (aoZ (std 0) OU)
noncomputable def OV:=ab2.c
def oI:=fun a b hD=>ab2.cs (aqf ar7 ar8 a b hD)
def ar9:=fun a b hD=>(oI a b hD).1
def asa:=fun a b hD=>(oI a b hD).2
def aey:=mk Tryz.func4 (hlC akP.ok (hlC ab2.ok (hlC abX.ok (hlC abZ.ok (hlC TM.ok hlN))))) (ao0 (std 0) ZV OV OW OX GV)
def lZ:=fun l h=>aey.cs (aqg atY atZ ar9 asa arZ ar0 ar3 ar4 akK akL l h)
def asb:=fun l h=>(lZ l h).1
def asc:=fun l h=>(lZ l h).2
end Go.TX.F
namespace Go.TX.F
open Go Go.AE Go.TX Go.TX.Seat Go.Proofs
set_option maxRecDepth 100000
end Go.TX.F
namespace Go.Proofs.YtpijningoklkpaaGreat
open Go.ChangeShapes Go.WideShapes Go.ChangeAt Go.RowKit
theorem at0:ownKnob Tryz.prog.godebug=Option.none:=by kernel_rfl
theorem ase:laidOutB Tryz.prog=true:=by kernel_rfl
set_option maxRecDepth 100000 in
theorem lifted (os:Os) (started:os.Started) (H:Type) (enc:TypeId×Value→H):
  ReturnsInHanded {} Tryz.checked os 4 .any (Rows.fnExactCerOkSpec.pre6 enc Tryz.prog Tryz.f4 Rows.fnExactCerOkRow.domain false) (Rows.fnExactCerOkSpec.post enc Tryz.prog Tryz.f4 false true false false):=by
 refine returnsInHanded_of_change (C:=Tryz.checked) at0 started (by kernel_rfl) Tryz.func4
  (ChangeSpec.witness6 (enc:=enc) (C:=Tryz.checked) false ⟨#[], #[.slice none 0 0],[]⟩ 8 (by kernel_rfl) (by kernel_rfl) (by kernel_rfl) (by kernel_rfl)) ?_
 intro W base args ds gs before hval0 hW _ _
 have hval:∀(j:Nat) t v,Tryz.f4.params[j]? =some t→args[j]? =some v→Value.okWide Tryz.prog W .any base t v:=hval0
 have hW':=hW
 obtain⟨p,q,hA0,hV,rfl,_,_⟩:=hW
 have hA:DataW.TrodAll enc Tryz.prog W 0 (fun _=>true) true Tryz.f4.params.toList args.toList ds p:=hA0
 rw [Tryz.params4]at hA hval
 obtain⟨v0,d0,rfl,rfl,h0⟩:=trodAll_one hA
 obtain⟨rfl,rfl⟩:=trodVars_none hV
 clear hA0 hval0
 simp only [List.append_nil]at hW'
 have at5:Go.TX.CO enc Tryz.prog W (.rows .iop) 22:=Go.TX.ai6 Tryz.underlying22 Tryz.underlying107 (by kernel_rfl) rfl (by kernel_rfl)
 have at6:Go.TX.EO enc Tryz.prog W .blk Go.TX.BG 24:=Go.TX.ai7 Tryz.underlying24 (by kernel_rfl) (by kernel_rfl) at5
 have at7:Go.TX.EO enc Tryz.prog W .cer Go.TX.CG 68:=Go.TX.ai8 Tryz.underlying68 (by kernel_rfl) ⟨rfl,rfl⟩ ⟨rfl,rfl⟩ (by kernel_rfl) at6
 have hlt:∀x∈p,x.block<W.heap.size:=fun x hx=>by simpa using hW'.lt x hx
 obtain⟨a0,len,cap,rfl⟩:=okWide_slice Tryz.underlying32 (hval 0 32 v0 rfl rfl)
 have h0':=h0
 obtain⟨fuel,hf⟩:=h0'
 obtain⟨v,xs,e,hr,hb,hc⟩:=Go.TX.I9 (c:= .cer) Tryz.underlying32 (by kernel_rfl) (by decide) at7 hf hlt
 have ev:Value.slice a0 len cap=v:=by simpa [Value.cells]using e
 subst ev
 have hp:=Go.TX.F.asb xs ⟨hb,hc⟩
 have hq:=Go.TX.F.asc xs ⟨hb,hc⟩
 refine(Go.TX.aaG Go.TX.F.aey.ok hr (fun g d h=>by cases h) hp).mono fun e W' ⟨he,hw⟩=> ?_
 have he:e= .returned (.bool true):=he.trans (congrArg (fun z:Bool×Unit=>Ending.returned (.bool z.1)) hq)
 refine⟨_,he,[d0],[],p,[],p,[],hW',trodAll_mk1 (shut_bool Tryz.underlying4 true),?_,rfl,hw.frame _,fun h=>by cases h⟩
 exact trodAll_mk1 (Below.trod ase (by kernel_rfl) (of_decide_eq_true (by kernel_rfl)) h0 hw hlt)
theorem y1:Tryz.pinned.checked.prog.funcNamed Rows.fnExactCerOkRow.func=some 4:=by kernel_rfl
theorem aS {a b:Bool} (h:a=true) (k:b=true):(a&&b)=true:=by rw [h,k];rfl
set_option maxHeartbeats 4000000 in
theorem y2:joinedFacts Tryz.pinned.checked.prog 4 Tryz.f4 Rows.fnExactCerOkSpec Rows.fnExactCerOkRow=true:=by
 unfold joinedFacts
 repeat' with_reducible apply aS
 all_goals (as_aux_lemma=>kernel_rfl)
theorem y3:Func.isWrapper Tryz.prog Tryz.f4 Rows.fnExactCerOkRow.wrapper Rows.fnExactCerOkRow.mainSum:=(by unfold Func.isWrapper;first | (rw [if_pos (by decide+kernel)];kernel_rfl) | (rw [if_neg (by decide+kernel)];exact⟨rfl,rfl⟩))
theorem x_holds:Rows.FnExactCerOkSaid:=
 OpenClaim.holds_of_wide 4 Tryz.f4 rfl rfl rfl rfl rfl rfl rfl ⟨rfl,rfl,rfl,rfl,rfl⟩ rfl rfl rfl rfl rfl y1 Tryz.func4 y2
  (of_decide_eq_true (by kernel_rfl)) y3
  (fun os started H enc _=>lifted os started H enc)
end Go.Proofs.YtpijningoklkpaaGreat
