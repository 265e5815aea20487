/- For every input the law returns true, and the input reads as it did. No condition. -/
import Derived.Test.YtpijningoklkpaaGreatZd
import Derived.ChangeSlices
import Derived.ChangeSame
import Derived.JoinedOf
import Derived.JoinedAt
import Derived.Handed
import Derived.Below
import Derived.Carry
import Derived.OpenShut
import Derived.ChangeKeysEq
import Derived.Deep.Slices
import Derived.Test.YtpijningoklkpaaGreatY
import Derived.Test.YtpijningoklkpaaGreatRows
set_option linter.all false
set_option linter.unusedSectionVars false
set_option linter.unusedVariables false
set_option linter.unusedSimpArgs false
namespace Go.TX.F
open Go Go.AE Go.TX
theorem Gx {m:aj} (n:Int) (h:aok m.atoms):mulM m ⟨n,[]⟩=⟨m.bD*n%65536,m.atoms⟩:=by
 unfold mulM
 rw [←yc (a:=m.atoms++ []) (o:=m.atoms) h.1 (by simp)]
theorem Aq (a:List aj) (n:aj):prods a [n]=a.map (fun m=>mulM m n):=by
 induction a with
 | nil=>rfl
 | cons x a ih=>simp only [prods,List.flatMap_cons,List.map_cons,List.map_nil]at ih ⊢;rw [ih];rfl
theorem Oh {t:List Int}:∀ {l:List aj},(∀m∈l,m.bD=0)→cf l t=0
 | [],_=>rfl
 | m::l,h=>by rw [bV,Oh (fun m hm=>h m (by simp [hm])),h m (by simp)];split<;>rfl
theorem dU:aL []:=gX.2 ⟨⟨List.Pairwise.nil,fun m hm=>absurd hm (by simp)⟩,by simp,fun m hm=>absurd hm (by simp)⟩
theorem nW (n:Int):aL (dw n):=by
 unfold dw;split
 ·refine gX.2 ⟨⟨List.pairwise_singleton _ _,fun m hm=> ?_⟩,by simp,fun m hm=> ?_⟩
  ·rw [List.mem_singleton]at hm;subst hm;assumption
  ·rw [List.mem_singleton]at hm;subst hm;exact⟨by simp,List.Pairwise.nil,fun k hk=>absurd hk (by simp)⟩
 ·exact dU
theorem mY (n:Int):aL (fE n):=by
 unfold fE;split
 ·refine gX.2 ⟨⟨List.pairwise_singleton _ _,fun m hm=> ?_⟩,by simp,fun m hm=> ?_⟩
  ·rw [List.mem_singleton]at hm;subst hm;dsimp only;omega
  ·rw [List.mem_singleton]at hm;subst hm;exact⟨by simp,List.pairwise_singleton _ _,fun k hk=>by rw [List.mem_singleton]at hk;omega⟩
 ·exact dU
theorem ahq {p1:List aj×Unit→Bool} {f1:List aj×Unit→Bool×Unit} (hp1:∀a,Sh a→p1 (a,())=true) (hf1:∀a,Sh a→f1 (a,())=(bp (aL a),()))
  {p0:Int×Unit→Bool} {f0:Int×Unit→Int×Unit} (hp0:∀a,p0 (a,())=true) (hf0:∀a,f0 (a,())=(a%65536,()))
  {p4:List aj×Unit→Bool} {f4:List aj×Unit→List aj×Unit} (hp4:∀a,Sh a→p4 (a,())=true) (hf4:∀a,Sh a→f4 (a,())=(a,()))
  {p3:Int×Unit→Bool} {f3:Int×Unit→Bool×Unit} (hp3:∀a,p3 (a,())=true) (hf3:∀a,f3 (a,())=(inB a 0 65535,()))
  (a:List aj) (n:Int) (ha:Sh a):Qz (std 0) p1 f1 p0 f0 p4 f4 p3 f3 (a,n,()) (fun y=>y=(iQ a n,())):=by
 dsimp only [Qz,Alg.cl,Alg.cg,Alg.rb,Alg.bd,Alg.l1,Tup.q,Tup.o]
 simp (disch:=omega) only [RR,hp1 a ha,hf1 a ha,hp3,hf3,bg,jd,dz,mV]
 unfold iQ
 refine⟨fun h=> ?_,fun⟨h1,h2⟩=> ?_⟩
 ·rw [if_neg];rw [Bool.and_eq_true,bg,dz];rintro⟨g1,g2⟩
  rcases h with h | h
  ·exact h g1
  ·exact h g2
 rw [if_pos (by rw [dH h1,Bool.true_and,dz];exact h2)]
 have l1:=h1.len
 have hss:=h1.nf.ss
 refine au (fun(y:Int×Int×List aj×List aj×Unit)=>y.1=n∧y.2.2.1=a∧0≤y.2.1∧y.2.1≤a.length∧Nf y.2.2.2.1∧(y.2.2.2.1.length:Int)≤y.2.1∧(∀t,cf y.2.2.2.1 t=cf ((a.take y.2.1.toNat).map (fun m=>⟨m.bD*n%65536,m.atoms⟩)) t%65536)
   ∧(∀x∈y.2.2.2.1,x.atoms.length≤4∧(y.2.1<a.length→lt x ((a).getD (y.2.1).toNat default)))) (fun y=>(a.length-y.2.1).toNat)
  ⟨rfl,rfl,by simp,by simp,⟨List.Pairwise.nil,fun m hm=>absurd hm (by simp)⟩,by simp,fun t=>by simp [cf],fun x hx=>absurd hx (by simp)⟩ ?_
 rintro⟨(n':Int),(i:Int),(a':List aj),(o:List aj),⟨⟩⟩ hI
 dsimp only at hI ⊢
 obtain⟨rfl,rfl,h3,h4,h5,h6,h7,h8⟩:=hI
 have so:Sh o:=⟨by omega,fun m hm=>by have:=(h8 m hm).1;omega⟩
 by_cases h9:i<a'.length
 ·have ma:((a').getD (i).toNat default)∈a':=eO h3 h9
  have ca:=h1.nf.co _ ma
  have qa:=h1.aok ma
  have hm:=JJ (show 0≤((a').getD (i).toNat default).bD by omega) (by omega) h2.1 h2.2
  have nx:i+1<a'.length→lt ((a').getD (i).toNat default) ((a').getD (i+1).toNat default):=fun h=>by
   have:=(dh (d:=default) (R:=lt) fF).1 hss (i+1) (by omega) h
   rw [show i+1-1=i by omega]at this;exact this
  have tk:(a'.take (i+1).toNat).map (fun m:aj=>(⟨m.bD*n'%65536,m.atoms⟩:aj))=(a'.take i.toNat).map (fun m:aj=>(⟨m.bD*n'%65536,m.atoms⟩:aj))++ [⟨((a').getD (i).toNat default).bD*n'%65536,((a').getD (i).toNat default).atoms⟩]:=by
   rw [←bU (d:=default) h3 h9 rfl,List.map_append];rfl
  simp (disch:=omega) only [RR,hp0,hf0]
  refine⟨fun _=>⟨by omega,by omega,fun g=>⟨by omega,by omega,by simp only [List.length_cons,List.length_nil];omega,⟨by omega,by omega,?_,?_,fun t=> ?_,fun x hx=> ?_⟩,by omega⟩,fun g=>⟨⟨by omega,by omega,h5,by omega,fun t=> ?_,fun x hx=>⟨(h8 x hx).1,fun g2=>fF ((h8 x hx).2 h9) (nx g2)⟩⟩,by omega⟩⟩,fun h=>absurd h9 h⟩
  ·refine⟨?_,fun x hx=> ?_⟩
   ·rw [List.pairwise_append]
    exact⟨h5.ss,List.pairwise_singleton _ _,fun x hx z hz=>by rw [List.mem_singleton]at hz;subst hz;exact(h8 x hx).2 h9⟩
   ·rw [List.mem_append,List.mem_singleton]at hx
    rcases hx with hx | rfl
    ·exact h5.co x hx
    ·dsimp only;omega
  ·rw [List.length_append];simp only [List.length_cons,List.length_nil];omega
  ·rw [tk,cu,cu,h7 t,bV,j4]
   dsimp only
   by_cases et:((a').getD (i).toNat default).atoms=t
   ·rw [if_pos et]
    have z:cf o t=0:=iJ fun x hx e=>((h8 x hx).2 h9).ne (e.trans et.symm)
    rw [h7 t]at z;omega
   ·rw [if_neg et];omega
  ·rw [List.mem_append,List.mem_singleton]at hx
   rcases hx with hx | rfl
   ·exact⟨(h8 x hx).1,fun g2=>fF ((h8 x hx).2 h9) (nx g2)⟩
   ·exact⟨qa.1,fun g2=>nx g2⟩
  ·rw [tk,cu,h7 t,bV,j4]
   dsimp only
   have:((a').getD (i).toNat default).bD*n'%65536=0:=by omega
   rw [this];split<;>omega
 ·simp (disch:=omega) only [RR,hp4 o so,hf4 o so]
  refine⟨fun h=>absurd h h9,fun _=> ?_⟩
  have eq:∀t,cf o t=cf (prods a' (dw n')) t%65536:=fun t=>by
   rw [h7 t,List.take_of_length_le (by omega)]
   unfold dw
   by_cases hn:1≤n'∧n'≤65535
   ·rw [if_pos hn,Aq]
    congr 2
    exact List.map_congr_left fun m hm=>(Gx n' (h1.aok hm).2).symm
   ·rw [if_neg hn]
    have hz:n'=0:=by omega
    have hz2:cf (a'.map (fun m=>(⟨m.bD*n'%65536,m.atoms⟩:aj))) t=0:=Oh fun m hm=>by
     rw [List.mem_map]at hm
     obtain⟨x,_,rfl⟩:=hm
     dsimp only;rw [hz];simp
    rw [hz2,show prods a' []=[] by simp [prods]];rfl
  have fb:Gu o:=⟨by omega,fun m hm=>(h8 m hm).1⟩
  have:=JL h5 eq (fun m hm=>by
   unfold dw at hm
   split at hm
   ·rw [Aq,List.mem_map]at hm
    obtain⟨x,hx,rfl⟩:=hm
    rw [Gx n' (h1.aok hx).2];exact(h1.aok hx).2
   ·rw [show prods a' []=[] by simp [prods]]at hm;exact absurd hm (by simp))
  unfold lI
  rw [if_pos (by rw [dH h1,dH (nW n')];rfl),←congrArg Prod.snd this]
  dsimp only;rw [dH fb];rfl
theorem Zq (l:List aj):(Nf (nf l)∧∀k,cf (nf l) k=cf l k%65536)∨nf l=[]:=by
 by_cases he:∃o,Nf o∧∀k,cf o k=cf l k%65536
 ·obtain⟨o,h1,h2⟩:=he
  rw [TW h1 h2];exact Or.inl ⟨h1,h2⟩
 ·right;unfold nf;rw [dif_neg he]
theorem Zr {l:List aj} {n:Int} (h:aW l n):aW (nf l) n:=by
 rcases Zq l with⟨h1,h2⟩ | h1
 ·refine bW.2 fun m hm k hk=> ?_
  obtain⟨m',g1,g2⟩:=h1.from h2 hm
  exact bW.1 h m' g1 k (g2▸hk)
 ·rw [h1];exact bW.2 fun m hm=>absurd hm (by simp)
theorem iY (n:Int):aW [] n:=bW.2 fun m hm=>absurd hm (by simp)
theorem T9 (l:List aj):aL (pq l).2:=by
 unfold pq
 by_cases h:aL (nf l)
 ·rw [dH h];exact h
 ·rw [cZ h];exact dU
theorem Gy {l:List aj} {n:Int} (h:aW l n):aW (pq l).2 n:=by
 unfold pq
 dsimp only
 split
 ·exact Zr h
 ·exact iY n
theorem Vv {a b:List aj} {n:Int} (h1:aW a n) (h2:aW b n):aW (a++b) n:=bW.2 fun m hm k hk=>by
 rw [List.mem_append]at hm
 rcases hm with hm | hm
 ·exact bW.1 h1 m hm k hk
 ·exact bW.1 h2 m hm k hk
theorem Oi {a b:List aj} {n:Int} (h1:aW a n) (h2:aW b n):aW (prods a b) n:=bW.2 fun m hm k hk=>by
 unfold prods at hm
 rw [List.mem_flatMap]at hm
 obtain⟨x,hx,hm⟩:=hm
 rw [List.mem_map]at hm
 obtain⟨y,hy,rfl⟩:=hm
 have:k∈x.atoms++y.atoms:=List.mem_mergeSort.1 hk
 rw [List.mem_append]at this
 rcases this with hk | hk
 ·exact bW.1 h1 x hx k hk
 ·exact bW.1 h2 y hy k hk
theorem Ua (a b:List aj):aL (mW a b).2:=by unfold mW;split;exact T9 _;exact dU
theorem abJ (a b:List aj):aL (lI a b).2:=by unfold lI;split;exact T9 _;exact dU
theorem Gz {a b:List aj} {n:Int} (h1:aW a n) (h2:aW b n):aW (mW a b).2 n:=by unfold mW;split;exact Gy (Vv h1 h2);exact iY n
theorem GA {a b:List aj} {n:Int} (h1:aW a n) (h2:aW b n):aW (lI a b).2 n:=by unfold lI;split;exact Gy (Oi h1 h2);exact iY n
theorem uF (c n:Int):aW (dw c) n:=bW.2 fun m hm k hk=>by
 unfold dw at hm;split at hm
 ·rw [List.mem_singleton]at hm;subst hm;exact absurd hk (by simp)
 ·exact absurd hm (by simp)
theorem q9 {k n:Int} (h:k<n):aW (fE k) n:=bW.2 fun m hm j hj=>by
 unfold fE at hm;split at hm
 ·rw [List.mem_singleton]at hm;subst hm;rw [List.mem_singleton]at hj;omega
 ·exact absurd hm (by simp)
theorem aF.sh {t:List Atom} (h:aF t):ShT t:=⟨by have:=h.2;omega,fun a ha=>by
 obtain⟨i,hi,rfl⟩:=List.getElem_of_mem ha
 have:=(h.1 i (by omega) (by omega)).1
 rw [show(i:Int).toNat=i from rfl,getD_lt hi]at this
 unfold gY at this
 split at this
 ·exact⟨this.2.1.sh,this.2.2.1.sh⟩
 ·rw [ShA,this.1.1,this.1.2];exact⟨mX,mX⟩⟩
theorem Cg {t:List Atom} {a:Atom} (h:aF t) (h2:t.length<200):aF (aX t a).1∧t.length≤(aX t a).1.length∧(aX t a).1.length≤t.length+1∧(gY a t.length→0≤(aX t a).2):=by
 have hsp:=jC t a
 unfold aX
 split
 ·rename_i h3;exact⟨h,Nat.le_refl _,Nat.le_succ _,fun _=>h3⟩
 ·rename_i h3
  split
  ·rename_i h4;exact⟨h,Nat.le_refl _,Nat.le_succ _,fun h5=>by rcases h4 with h4 | h4;exact absurd h5 h4;omega⟩
  ·rename_i h4
   have h5:gY a t.length:=Classical.byContradiction fun h5=>h4 (Or.inl h5)
   refine⟨l8.2 ⟨?_,by rw [List.length_append];simp only [List.length_cons,List.length_nil];omega⟩,by rw [List.length_append];exact Nat.le_add_right _ _,by rw [List.length_append];exact Nat.le_refl _,fun _=>by dsimp only;omega⟩
   have hl:((t++ [a]).length:Int)=t.length+1:=by rw [List.length_append];rfl
   have g1:∀i:Int,0≤i→i<t.length→(t++ [a]).getD i.toNat default=t.getD i.toNat default:=fun i i1 i2=>by
    rw [getD_lt (show i.toNat< (t++ [a]).length by omega),getD_lt (show i.toNat<t.length by omega),List.getElem_append_left]
   have g2:(t++ [a]).getD ((t.length:Int)).toNat default=a:=by
    rw [getD_lt (show((t.length:Int)).toNat< (t++ [a]).length by omega)];simp
   rw [hl]
   intro i i1 i2
   dsimp only
   by_cases i3:i<t.length
   ·rw [g1 i i1 i3]
    have:=(l8.1 h).1 i i1 i3
    exact⟨this.1,fun j j1 j2=>by dsimp only;rw [g1 j j1 (by omega)];exact this.2 j j1 j2⟩
   ·have:i=t.length:=by omega
    subst this
    rw [g2]
    refine⟨h5,fun j j1 j2=> ?_⟩
    dsimp only;rw [g1 j j1 j2]
    rcases hsp with⟨_,g⟩ | ⟨g,_⟩
    ·exact g j j1 j2
    ·exact absurd g h3
end Go.TX.F
namespace Go.TX.F
open Go Go.AE Go.TX
def By (b:List Int):Prop:=∀z∈b,0≤z∧z≤255
structure Bt (b:List Int):Prop where
 len:b.length≤2000
 rng:By b
theorem By.at {b:List Int} (h:By b) (n:Nat):0≤b.getD n default∧b.getD n default≤255:=by
 by_cases h1:n<b.length
 ·rw [getD_lt h1];exact h _ (List.getElem_mem _)
 ·simp only [List.getD,List.getElem?_eq_none (by omega:b.length≤n)];decide
end Go.TX.F
namespace Go.TX.F
open Go Go.AE Go.TX
structure arN (n:Int) (b:List Int) (p:Int) (y:List Int×Int×List aj×Unit):Prop where
 b:y.1=b
 lo:p≤y.2.1
 hi:y.2.1≤p+200
 ok:aL y.2.2.1
 un:aW y.2.2.1 n
end Go.TX.F
namespace Go.TX.F
open Go Go.AE Go.TX
def Oj (n:Int) (t:List Atom):Prop:=(t.length:Int)=n∧All n (fun i=>((t).getD (i).toNat default)=⟨1,i,[],[]⟩)
theorem ahr {p2:Int×Unit→Bool} {f2:Int×Unit→List aj×Unit} (hp2:∀n,p2 (n,())=true) (hf2:∀n,f2 (n,())=(fE n,())):P5 (std 0) p2 f2 () (fun y=>Oj 4 y.1∧y.2.1.length=4∧∀p∈y.2.1,Sh p):=by
 dsimp only [P5,Alg.cl,Alg.cg,Alg.rb,Alg.bd,Alg.l1,Tup.q,Tup.o]
 simp (disch:=omega) only [RR,hp2,hf2]
 refine au (fun(y:Int×List (List aj)×List Atom×Unit)=>0≤y.1∧y.1≤4∧(y.2.1.length:Int)=y.1∧(∀p∈y.2.1,Sh p)∧Oj y.1 y.2.2.1) (fun y=>(4-y.1).toNat) ⟨by simp,by simp,by simp,by simp,by simp,All.zero⟩ ?_
 rintro⟨(i:Int),(q:List (List aj)),(t:List Atom),⟨⟩⟩ hI
 dsimp only at hI ⊢
 obtain⟨h1,h2,h3,h0,h4,h5⟩:=hI
 simp (disch:=omega) only [RR,hp2,hf2,List.length_cons,List.length_nil]
 refine⟨fun h6=>⟨by omega,by omega,⟨by omega,by omega,by rw [List.length_append];simp only [List.length_cons,List.length_nil];omega,fun p hp=>(List.mem_append.1 hp).elim (h0 p) (fun g=>by rw [List.mem_singleton.1 g];exact(mY _).sh),by rw [List.length_append];simp only [List.length_cons,List.length_nil];omega,fun j j1 j2=> ?_⟩,by omega⟩,fun h6=> ?_⟩
 ·dsimp only
  have hl:((t++ [(⟨1,i,[],[]⟩:Atom)]).length:Int)=t.length+1:=by rw [List.length_append];rfl
  by_cases c:j<i
  ·have:=h5 j j1 c
   dsimp only at this
   rw [getD_lt (show j.toNat<t.length by omega)]at this
   rw [getD_lt (show j.toNat< (t++ [(⟨1,i,[],[]⟩:Atom)]).length by omega),List.getElem_append_left (show j.toNat<t.length by omega)];exact this
  ·have:j=i:=by omega
   subst this
   rw [getD_lt (show j.toNat< (t++ [(⟨1,j,[],[]⟩:Atom)]).length by omega),List.getElem_append_right (by omega)]
   simp
 ·rw [show i=4 by omega]at h4 h5;exact⟨⟨h4,h5⟩,by omega,h0⟩
structure arS (b:List Int) (p n:Int) (y:List Int×Int×List Atom×Unit):Prop where
 b:y.1=b
 lo:p≤y.2.1
 hi:y.2.1≤p+10000
 sh:ShT y.2.2.1
 ne:0<y.2.2.1.length
 le:(y.2.2.1.length:Int)≤n
end Go.TX.F
namespace Go.TX.F
open Go Go.AE Go.TX
theorem Ub {l o:List aj} (h:aL o) (h2:∀k,cf o k=cf l k%65536):pq l=(true,o):=by
 unfold pq;rw [TW h.nf h2,dH h,if_pos rfl]
theorem Rv {x:List aj} (h:aL x):aL (iQ x 65535)∧∀k,cf (iQ x 65535) k=(65535*cf x k)%65536:=by
 have hc:∀(l:List aj) k,cf (l.map fun m=>(⟨m.bD*65535%65536,m.atoms⟩:aj)) k%65536=(65535*cf l k)%65536:=fun l k=>by
  induction l with
  | nil=>rfl
  | cons m l ih=>rw [List.map_cons,bV,bV];dsimp only;split<;>omega
 have no:Nf (x.map fun m=>(⟨m.bD*65535%65536,m.atoms⟩:aj)):=⟨by
  rw [List.pairwise_map];exact h.nf.ss,fun m hm=>by
  rw [List.mem_map]at hm
  obtain⟨n,hn,rfl⟩:=hm
  have:=h.nf.co n hn
  dsimp only;omega⟩
 have ok:aL (x.map fun m=>(⟨m.bD*65535%65536,m.atoms⟩:aj)):=gX.2 ⟨no,by rw [List.length_map];exact h.len,fun m hm=>by
  rw [List.mem_map]at hm
  obtain⟨n,hn,rfl⟩:=hm
  exact show n.atoms.length≤4∧aok n.atoms from h.aok hn⟩
 have pe:prods x (dw 65535)=x.map fun m=>(⟨m.bD*65535%65536,m.atoms⟩:aj):=by
  unfold dw;rw [if_pos (by omega),Aq]
  exact List.map_congr_left fun m hm=>Gx 65535 (h.aok hm).2
 have e:iQ x 65535=x.map fun m=>(⟨m.bD*65535%65536,m.atoms⟩:aj):=by
  unfold iQ lI
  rw [if_pos (by rw [dH h];rfl),if_pos (by rw [dH h,dH (nW _)];rfl),pe,Ub ok (fun k=>by have:=no.bnd k;omega)]
 rw [e]
 exact⟨ok,fun k=>by rw [←hc];have:=no.bnd k;omega⟩
theorem sub_self {x:List aj} (h:aL x):iR 2 x x=([],true):=by
 obtain⟨h1,h2⟩:=Rv h
 unfold iR mW
 rw [if_neg (by omega),if_pos rfl,if_pos (by rw [dH h,dH h1];rfl),Ub dU (fun k=>by rw [cu,h2,j4];omega)]
theorem ru {x:List aj} (h:(bM x).2=true):aL x∧x=dw (bM x).1∧0≤(bM x).1∧(bM x).1≤65535:=by
 unfold bM at h ⊢
 by_cases c:aL x
 ·rw [dH c,if_pos rfl]at h ⊢
  refine⟨c,?_⟩
  by_cases c1:x.length=0
  ·rw [if_pos c1];exact⟨by rw [List.eq_nil_of_length_eq_zero c1];rfl,by omega,by omega⟩
  ·rw [if_neg c1]at h ⊢
   by_cases c2:x.length=1∧(x.getD 0 default).atoms.length=0
   ·rw [if_pos c2]
    match x,c,c2 with
    | [m],c,c2=>
     have hc:=c.nf.co m (by simp)
     have ha:m.atoms=[]:=List.eq_nil_of_length_eq_zero c2.2
     refine⟨?_,by show 0≤m.bD;omega,by show m.bD≤65535;omega⟩
     show [m]=dw m.bD
     unfold dw;rw [if_pos hc,←ha]
   ·rw [if_neg c2]at h;exact absurd h (by simp)
 ·rw [cZ c]at h;exact absurd h (by simp)
end Go.TX.F
namespace Go.TX.F
open Go Go.AE Go.TX
end Go.TX.F
namespace Go.TX.F
open Go Go.AE Go.TX
theorem Uc {d:List Int} {i j x:Int} (h1:0≤i) (h2:i<d.length) (h3:0≤j):((d.set i.toNat x).getD (j).toNat default)=if j=i then x else((d).getD (j).toNat default):=by
 simp only [List.getD]
 by_cases h:j=i
 ·subst h;rw [if_pos rfl,List.getElem?_set_self (by omega)];rfl
 ·rw [if_neg h,List.getElem?_set_ne (by omega)]
theorem Vw {d:List Int} {i j:Int} (h1:0≤i) (h2:i<d.length) (h3:0≤j) (h4:j<d.length) (h5:i≠j):((d.set i.toNat ((d).getD (j).toNat default)).set j.toNat ((d).getD (i).toNat default)).Perm d:=by
 rw [List.perm_iff_count]
 intro x
 rw [getD_lt (show i.toNat<d.length by omega),getD_lt (show j.toNat<d.length by omega),List.count_set (by simp;omega),List.count_set (by omega),List.getElem_set_ne (by omega)]
 have h6:(if d[i.toNat]==x then 1 else 0)≤List.count x d:=by
  split
  ·rename_i h;exact List.count_pos_iff.2 (by rw [←eq_of_beq h];exact List.getElem_mem _)
  ·omega
 split<;>split<;>simp_all<;>omega
theorem ahs {p:Int×Int×Unit→Bool} {f:Int×Int×Unit→Bool×Unit} (hp:∀a b,p (a,b,())=true) (hf:∀a b,f (a,b,())=(decide (a<b),()))
  (a b:Int) (d:List Int) (hd:d.length<1000000000) (h1:a=0) (h2:b=d.length):
  Ro (std 0) p f (a,b,d,()) (fun y=>y.1=kV d):=by
 subst h1
 dsimp only [Ro,Alg.cl,Alg.cg,Alg.rb,Alg.bd,Alg.l1,Tup.q,Tup.o]
 simp (disch:=omega) only [RR]
 have fin:∀e:List Int,e.Perm d→(∀q:Int,1≤q→q<e.length→((e).getD (q-1).toNat default)≤((e).getD (q).toNat default))→e=kV d:=fun e g1 g2=>
  yc ((dh (d:=default) (R:=fun a b:Int=>a≤b) (fun h1 h2=>Int.le_trans h1 h2)).2 g2) g1
 refine au (fun(y:Int×Int×Int×List Int×Unit)=>y.1=0∧y.2.1=b∧1≤y.2.2.1∧(y.2.2.1≤b∨y.2.2.1=1)∧y.2.2.2.1.Perm d∧∀q,1≤q→q<y.2.2.1→((y.2.2.2.1).getD (q-1).toNat default)≤((y.2.2.2.1).getD (q).toNat default)) (fun y=>(b-y.2.2.1).toNat)
  ⟨rfl,rfl,by simp,Or.inr rfl,List.Perm.refl d,fun q g1 g2=>by dsimp only at g2;omega⟩ ?_
 rintro⟨(a':Int),(b':Int),(i:Int),(e:List Int),⟨⟩⟩ hI
 dsimp only at hI ⊢
 obtain⟨rfl,rfl,h4,h5,h6,h7⟩:=hI
 have hle:=h6.length_eq
 simp (disch:=omega) only [RR]
 refine⟨fun h9=> ?_,fun h9=>fin e h6 fun q g1 g2=>h7 q g1 (by omega)⟩
 refine au (fun(y:Int×Int×Int×Int×List Int×Unit)=>y.1=0∧y.2.1=b'∧y.2.2.1=i∧0≤y.2.2.2.1∧y.2.2.2.1≤i∧y.2.2.2.2.1.Perm d
   ∧(∀q,1≤q→q≤i→q≠y.2.2.2.1→((y.2.2.2.2.1).getD (q-1).toNat default)≤((y.2.2.2.2.1).getD (q).toNat default))∧(1≤y.2.2.2.1→y.2.2.2.1+1≤i→((y.2.2.2.2.1).getD (y.2.2.2.1-1).toNat default)≤((y.2.2.2.2.1).getD (y.2.2.2.1+1).toNat default))) (fun y=>y.2.2.2.1.toNat)
  ⟨rfl,rfl,rfl,by simp;omega,by simp,h6,fun q g1 g2 g3=>h7 q g1 (by dsimp only at g3;omega),fun g1 g2=>by dsimp only at g2;omega⟩ ?_
 rintro⟨(a'':Int),(b'':Int),(i':Int),(j:Int),(e':List Int),⟨⟩⟩ hI
 dsimp only at hI ⊢
 obtain⟨rfl,rfl,rfl,h10,h11,h12,h13,h14⟩:=hI
 have hle':=h12.length_eq
 simp (disch:=omega) only [RR,List.length_set,hp,hf]
 repeat' (refine And.intro ?_ ?_)
 all_goals try omega
 ·intro ⟨g1,g2⟩
  have at2:∀k,0≤k→(((e'.set j.toNat ((e').getD (j-1).toNat default)).set (j-1).toNat ((e').getD (j).toNat default)).getD (k).toNat default)=if k=j-1 then((e').getD (j).toNat default)else if k=j then((e').getD (j-1).toNat default)else((e').getD (k).toNat default):=fun k hk=>by
   rw [Uc (by omega) (by simp;omega) hk,Uc (by omega) (by omega) hk]
  repeat' (refine And.intro ?_ ?_)
  all_goals try omega
  ·exact(Vw (by omega) (by omega) (by omega) (by omega) (by omega)).trans h12
  ·intro q k1 k2 k3
   rw [at2 _ (by omega),at2 _ (by omega)]
   by_cases c1:q=j
   ·subst c1;rw [if_pos rfl,if_neg (by omega),if_pos rfl];omega
   ·rw [if_neg (by omega)]
    by_cases c2:q=j+1
    ·subst c2
     rw [if_pos (by omega),if_neg (by omega),if_neg (by omega)]
     exact h14 (by omega) (by omega)
    ·rw [if_neg (by omega),if_neg (by omega),if_neg (by omega)]
     exact h13 q k1 k2 c1
  ·intro k1 k2
   rw [at2 _ (by omega),at2 _ (by omega),if_neg (by omega),if_neg (by omega),if_neg (by omega),if_pos (by omega)]
   have:=h13 (j-1) (by omega) (by omega) (by omega)
   exact this
 ·intro g
  refine⟨⟨by omega,by omega,h12,fun q k1 k2=> ?_⟩,by omega⟩
  by_cases c:q=j
  ·subst c
   rw [Bool.and_eq_false_iff,decide_eq_false_iff_not,decide_eq_false_iff_not]at g
   omega
  ·exact h13 q k1 (by omega) c
theorem aht {p:Int×Int×Unit→Bool} {f:Int×Int×Unit→Bool×Unit}
  {p1:Int×Int×List Int×Unit→Bool} {f1:Int×Int×List Int×Unit→List Int×Unit} (hp1:∀(a b:Int) (d:List Int),d.length<1000000000→a=0→b=d.length→p1 (a,b,d,())=true) (hf1:∀(a b:Int) (d:List Int),d.length<1000000000→a=0→b=d.length→(f1 (a,b,d,())).1=kV d)
  (p2 p3 f2 f3 p4 f4 p5 f5 p6 f6 p7 f7 p8 f8 p9 f9) (a b k:Int) (d:List Int) (hd:d.length≤12) (h1:a=0) (h2:b=d.length):
  Rp (std 0) p f p1 f1 p2 f2 p3 f3 p4 f4 p5 f5 p6 f6 p7 f7 p8 f8 p9 f9 (a,b,k,d,()) (fun y=>y.1=kV d):=by
 subst h1
 dsimp only [Rp,Alg.cl,Alg.cg,Alg.rb,Alg.bd,Alg.l1,Tup.q,Tup.o]
 simp (disch:=omega) only [RR]
 refine au (fun(y:Int×Int×Int×Bool×Bool×List Int×Unit)=>y.1=0∧y.2.1=b∧y.2.2.2.2.2.1=d) (fun y=>0) ⟨rfl,rfl,rfl⟩ ?_
 rintro⟨(a':Int),(b':Int),(k':Int),(u:Bool),(v:Bool),(e:List Int),⟨⟩⟩ hI
 dsimp only at hI ⊢
 obtain⟨rfl,rfl,rfl⟩:=hI
 simp (disch:=omega) only [RR]
 exact⟨fun _=>⟨hp1 0 b' e (by omega) rfl h2,hf1 0 b' e (by omega) rfl h2⟩,fun h=>absurd h (by omega)⟩
theorem ahu {p1:Int×Int×Int×List Int×Unit→Bool} {f1:Int×Int×Int×List Int×Unit→List Int×Unit} (hp1:∀(a b k:Int) (d:List Int),d.length≤12→a=0→b=d.length→p1 (a,b,k,d,())=true) (hf1:∀(a b k:Int) (d:List Int),d.length≤12→a=0→b=d.length→(f1 (a,b,k,d,())).1=kV d)
  {p2:Int×Unit→Bool} {f2:Int×Unit→Int×Unit} (hp2:∀n,0≤n→n≤18446744073709551615→p2 (n,())=true) (a:List Int) (ha:a.length≤8):
  Rq (std 0) p1 f1 p2 f2 (a,()) (fun y=>y=(kV a,())):=by
 dsimp only [Rq,Alg.cl,Alg.cg,Alg.rb,Alg.bd,Alg.l1,Tup.q,Tup.o]
 have e:IntKind.u64.wrap (a.length:Int)=(a.length:Int):=IntWalk.u64_in _ (by omega)
 refine⟨?_,hp1 _ _ _ _ (by omega) rfl rfl,by rw [hf1 _ _ _ _ (by omega) rfl rfl]⟩
 rw [e];exact hp2 _ (by omega) (by omega)
end Go.TX.F
namespace Go.TX.F
open Go Go.AE Go.TX
def wOK (l:List Int):Prop:=∀z∈l,0≤z∧z≤65535
theorem wOK.at {l:List Int} (h:wOK l) (n:Nat):0≤l.getD n default∧l.getD n default≤65535:=by
 by_cases hn:n<l.length
 ·rw [getD_lt hn];exact h _ (List.getElem_mem _)
 ·rw [List.getD,List.getElem?_eq_none (by omega)];decide
theorem wOK.snoc {l:List Int} (h:wOK l) {x:Int} (hx:0≤x∧x≤65535):wOK (l++ [x]):=fun z hz=>by
 rw [List.mem_append,List.mem_singleton]at hz
 rcases hz with hz | rfl
 ·exact h z hz
 ·exact hx
end Go.TX.F
namespace Go.TX.F
open Go Go.AE Go.TX
def ins (c:Int) (at_:List Int):List aj→List aj
 | []=>if c%65536=0 then []else [⟨c%65536,at_⟩]
 | m::o=>if dJ at_ m.atoms<0 then(if c%65536=0 then m::o else⟨c%65536,at_⟩::m::o)
  else if at_=m.atoms then(if(c+m.bD)%65536=0 then o else⟨(c+m.bD)%65536,at_⟩::o)else m::ins c at_ o
theorem Zt {op:Int} (hop:1≤op∧op≤5) {x y:List aj} (hx:aL x) (hy:aL y):aL (iR op x y).1:=by
 unfold iR
 split
 ·exact Ua _ _
 ·split
  ·exact Ua _ _
  ·split
   ·exact abJ _ _
   ·unfold Gt
    repeat' split
    all_goals first | exact nW _ | exact dU | assumption
end Go.TX.F
namespace Go.TX.F
open Go Go.AE Go.TX
end Go.TX.F
namespace Go.TX.F
open Go Go.AE Go.TX
@[reducible] def hX (o : IOp) : Prop := o.kind ≠ 1 ∧ o.kind ≠ 2 ∧ o.kind ≠ 6
@[reducible] def hY (o : IOp) : Prop := o.kind = 3 ∨ o.kind = 5
@[reducible] def mkV (o : IOp) : Prop := (1 ≤ o.kind ∧ o.kind ≤ 4) ∨ o.kind = 6
@[reducible] def evO (o : IOp) : Prop := 4 ≤ o.kind ∧ o.kind ≤ 7
def Vl (ops:List IOp) (x n:Int):Prop:=0≤x∧x<n∧mkV ((ops).getD (x).toNat default)
structure JM (ops:List IOp) (len i:Int) (o:IOp):Prop where
 kd:1≤o.kind∧o.kind≤8
 x1:hX o→Vl ops o.x i
 x0:¬hX o→o.x=0
 y1:hY o→Vl ops o.y i
 y0:¬hY o→o.y=0
 k1:o.kind=1→0≤o.k∧o.k≤65535
 k2:o.kind=2∨o.kind=8→0≤o.k∧o.k≤3
 k3:o.kind=3→1≤o.k∧o.k≤5
 k0:4≤o.kind→o.kind≤7→o.k=0
 a1:evO o→0≤o.at_∧o.at_<len
 a0:¬evO o→o.at_=0
structure y9 (b:Blk):Prop where
 f:1≤b.fin∧b.fin≤4
 x1:b.fin≠1→Vl b.ops b.x b.ops.length
 x0:b.fin=1→b.x=0
 y1:3≤b.fin→Vl b.ops b.y b.ops.length
 y0:b.fin≤2→b.y=0
 k1:b.fin≠2→0≤b.k∧b.k≤65535
 k0:b.fin=2→b.k=0
structure kW (b:Blk):Prop where
 ln:1≤b.len∧b.len≤8
 pc:0≤b.pc∧b.pc≤64-b.len
 sz:b.ops.length≤48
 op:∀i:Int,0≤i→i<b.ops.length→JM b.ops b.len i ((b.ops).getD (i).toNat default)
 en:y9 b
structure SS where
 t:List Atom
 regs:List (List aj)
 vals:List (List aj)
 ld:Int
 inn:Int
 evs:List Ev
def xOf (s:SS) (o:IOp):List aj:=if hX o then((s.vals).getD (o.x).toNat default)else []
def yOf (s:SS) (o:IOp):List aj:=if hY o then((s.vals).getD (o.y).toNat default)else []
def aOf (s:SS) (o:IOp):Atom:=if o.kind=4 then⟨2,s.ld,[],[]⟩else⟨3,s.inn,[],[]⟩
noncomputable def nT (s:SS) (o:IOp):List Atom:=if o.kind=3 then(tDo s.t o.k (xOf s o) (yOf s o)).1 else if o.kind=4∨o.kind=6 then(aX s.t (aOf s o)).1 else s.t
noncomputable def nV (s:SS) (o:IOp):List aj:=if o.kind=1 then dw o.k else if o.kind=2 then((s.regs).getD (o.k).toNat default)else if o.kind=3 then(tDo s.t o.k (xOf s o) (yOf s o)).2 else if o.kind=4∨o.kind=6 then fE (aX s.t (aOf s o)).2 else []
def nR (s:SS) (o:IOp):List (List aj):=if o.kind=8 then s.regs.set o.k.toNat (xOf s o)else s.regs
def nE (s:SS) (o:IOp):List Ev:=if evO o then s.evs++ [⟨o.kind,o.at_,xOf s o,yOf s o,if o.kind=4∨o.kind=5 then s.regs else []⟩]else s.evs
noncomputable def stp (s:SS) (o:IOp):SS:=⟨nT s o,nR s o,s.vals++ [nV s o],if o.kind=4 then s.ld+1 else s.ld,if o.kind=6 then s.inn+1 else s.inn,nE s o⟩
noncomputable def rN (t:List Atom):Nat→List Atom×List (List aj)
 | 0=>(t,[])
 | n+1=>((aX (rN t n).1 ⟨1,n,[],[]⟩).1,(rN t n).2++ [fE (aX (rN t n).1 ⟨1,n,[],[]⟩).2])
noncomputable def s0 (t:List Atom):SS:=⟨(rN t 4).1,(rN t 4).2,[],0,0,[]⟩
noncomputable def gL (t:List Atom) (b:Blk):SS:=b.ops.foldl stp (s0 t)
def za (b:Blk) (s:SS):Sym:=⟨s.evs,s.regs,b.fin,if b.fin=1 then []else((s.vals).getD (b.x).toNat default),if 3≤b.fin then((s.vals).getD (b.y).toNat default)else [],b.k⟩
def Vx:Sym:=⟨[],[],0,[],[],0⟩
noncomputable def symEnd (s:Sym) (behind:Int):Sym:=
 if bp (aL s.x∧aL s.y)=false then Vx
 else if s.fin=2∧(bM s.x).2=true then⟨s.events,s.regs,1,[],[],(bM s.x).1⟩
 else if s.fin≠3∧s.fin≠4 then s
 else if s.x=s.y∨(bM s.x).2=true∧(bM s.y).2=true then
  ⟨s.events,s.regs,1,[],[],if s.x=s.y∧s.fin=3∨((bM s.x).2=true∧(bM s.y).2=true)∧(s.fin=3∧(bM s.x).1=(bM s.y).1∨s.fin=4∧(bM s.x).1< (bM s.y).1)then s.k else behind⟩
 else if s.fin=3∧0<eU s.x s.y then⟨s.events,s.regs,s.fin,s.y,s.x,s.k⟩else s
noncomputable def bK (t:List Atom) (b:Blk):List Atom×Sym:=if bp (aF t∧t.length≤100∧kW b)=true then((gL t b).t,symEnd (za b (gL t b)) (b.pc+b.len))else([],Vx)
theorem uG (t:List Atom) (a:Atom):t<+:(aX t a).1:=by
 unfold aX
 split
 ·exact List.prefix_refl _
 ·split
  ·exact List.prefix_refl _
  ·exact List.prefix_append _ _
theorem Ch {α:Type} {a b:List α} (h:a<+:b):a.length≤b.length:=h.length_le
theorem ahv {α:Type} {d:α} {a b:List α} (h:a<+:b) {i:Int} (h1:i.toNat<a.length):b.getD i.toNat d=a.getD i.toNat d:=by
 obtain⟨c,rfl⟩:=h
 rw [getD_lt h1,getD_lt (by rw [List.length_append];omega),List.getElem_append_left h1]
theorem vE {t:List Atom} {a:Atom} (h:0≤(aX t a).2):(aX t a).2< (aX t a).1.length∧(((aX t a).1).getD ((aX t a).2).toNat default)=a:=by
 have hsp:=jC t a
 revert h
 unfold aX
 split
 ·intro h
  rcases hsp with⟨h1,_⟩ | ⟨_,h2,h3,_⟩
  ·exact absurd h (by dsimp only;omega)
  ·exact⟨h2,h3.symm⟩
 ·split
  ·intro h;exact absurd h (by dsimp only;omega)
  ·intro _
   dsimp only
   refine⟨by rw [List.length_append];simp only [List.length_cons,List.length_nil];omega,?_⟩
   rw [getD_lt (by rw [List.length_append];simp only [List.length_cons,List.length_nil];omega)]
   simp
theorem Rw {u:List Atom} {a:Atom} (hu:aF u) {k:Int} (h0:0≤k) (h1:k<u.length) (h2:((u).getD (k).toNat default)=a):aX u a=(u,k):=by
 have hf:qj u a=k:=by
  refine(jC u a).uniq (Or.inr ⟨h0,h1,h2.symm,fun j j1 j2=> ?_⟩)
  have:=(l8.1 hu).1 k h0 h1
  have g:=this.2 j j1 j2
  dsimp only at g ⊢
  rw [h2]at g;exact g
 unfold aX
 rw [hf,if_pos h0]
theorem ze {t u:List Atom} {a:Atom} (hu:aF u) (h:0≤(aX t a).2) (hp:(aX t a).1<+:u):aX u a=(u,(aX t a).2):=by
 obtain⟨g1,g2⟩:=vE h
 have:=Ch hp
 exact Rw hu h (by omega) (by rw [ahv hp (by omega),g2])
theorem Ol {op n:Int} {x y:List aj} (ux:aW x n) (uy:aW y n):aW (iR op x y).1 n:=by
 unfold iR
 split
 ·exact Gz ux uy
 ·split
  ·refine Gz ux ?_
   unfold iQ
   split
   ·exact GA uy (uF _ _)
   ·exact iY _
  ·split
   ·exact GA ux uy
   ·unfold Gt
    repeat' split
    all_goals first | exact ux | exact uy | exact iY _ | exact uF _ _
structure ahw (t:List Atom) (op:Int) (x y:List aj):Prop where
 tok:aF (tDo t op x y).1
 pre:t<+:(tDo t op x y).1
 len:(tDo t op x y).1.length≤t.length+1
 pok:aL (tDo t op x y).2
 und:aW (tDo t op x y).2 (tDo t op x y).1.length
 ok:tOk t op x y=true
theorem abK {t:List Atom} {op:Int} {x y:List aj} (h:aF t) (h2:t.length<200) (h3:1≤op∧op≤5) (hx:aL x) (hy:aL y) (ux:aW x t.length) (uy:aW y t.length):ahw t op x y:=by
 by_cases c:(iR op x y).2=true
 ·have e:tDo t op x y=(t,(iR op x y).1):=by unfold tDo;rw [if_pos c]
  refine⟨?_,?_,?_,?_,?_,by unfold tOk;rw [c];rfl⟩<;>rw [e]
  ·exact h
  ·exact List.prefix_refl _
  ·exact Nat.le_succ _
  ·exact Zt h3 hx hy
  ·exact Ol ux uy
 ·have key:∀x' y',aL x'→aL y'→aW x' t.length→aW y' t.length→0≤(aX t ⟨4,op,x',y'⟩).2∧aF (aX t ⟨4,op,x',y'⟩).1∧(aX t ⟨4,op,x',y'⟩).1.length≤t.length+1:=fun x' y' a1 a2 a3 a4=>by
   have p1:=Cg (a:=⟨4,op,x',y'⟩) h h2
   have q1:=p1.2.2.2 (by unfold gY;rw [if_pos rfl];exact⟨h3,a1,a2,a3,a4⟩)
   exact⟨q1,p1.1,p1.2.2.1⟩
  by_cases c2:op≠2∧0<eU x y
  ·obtain⟨k1,k2,k3⟩:=key y x hy hx uy ux
   have e:tDo t op x y=((aX t ⟨4,op,y,x⟩).1,fE (aX t ⟨4,op,y,x⟩).2):=by unfold tDo;rw [if_neg c,if_pos c2,if_neg (by omega)]
   refine⟨?_,?_,?_,?_,?_,by unfold tOk;rw [if_pos c2,decide_eq_false (by omega),Bool.not_false,Bool.or_true]⟩<;>rw [e]
   ·exact k2
   ·exact uG _ _
   ·exact k3
   ·exact mY _
   ·exact q9 (vE k1).1
  ·obtain⟨k1,k2,k3⟩:=key x y hx hy ux uy
   have e:tDo t op x y=((aX t ⟨4,op,x,y⟩).1,fE (aX t ⟨4,op,x,y⟩).2):=by unfold tDo;rw [if_neg c,if_neg c2,if_neg (by omega)]
   refine⟨?_,?_,?_,?_,?_,by unfold tOk;rw [if_neg c2,decide_eq_false (by omega),Bool.not_false,Bool.or_true]⟩<;>rw [e]
   ·exact k2
   ·exact uG _ _
   ·exact k3
   ·exact mY _
   ·exact q9 (vE k1).1
theorem Zu {t u:List Atom} {op:Int} {x y:List aj} (hu:aF u) (h:tOk t op x y=true) (hp:(tDo t op x y).1<+:u):tDo u op x y=(u,(tDo t op x y).2):=by
 by_cases c:(iR op x y).2=true
 ·unfold tDo;rw [if_pos c,if_pos c]
 ·by_cases c2:op≠2∧0<eU x y
  ·have k1:0≤(aX t ⟨4,op,y,x⟩).2:=by
    unfold tOk at h;rw [if_pos c2,Bool.or_eq_true,Bool.not_eq_true',decide_eq_false_iff_not]at h;have:=h.resolve_left c;omega
   have e:tDo t op x y=((aX t ⟨4,op,y,x⟩).1,fE (aX t ⟨4,op,y,x⟩).2):=by unfold tDo;rw [if_neg c,if_pos c2,if_neg (by omega)]
   rw [e]at hp ⊢
   have:=ze hu k1 hp
   unfold tDo;rw [if_neg c,if_pos c2,this,if_neg (by dsimp only;omega)]
  ·have k1:0≤(aX t ⟨4,op,x,y⟩).2:=by
    unfold tOk at h;rw [if_neg c2,Bool.or_eq_true,Bool.not_eq_true',decide_eq_false_iff_not]at h;have:=h.resolve_left c;omega
   have e:tDo t op x y=((aX t ⟨4,op,x,y⟩).1,fE (aX t ⟨4,op,x,y⟩).2):=by unfold tDo;rw [if_neg c,if_neg c2,if_neg (by omega)]
   rw [e]at hp ⊢
   have:=ze hu k1 hp
   unfold tDo;rw [if_neg c,if_neg c2,this,if_neg (by dsimp only;omega)]
end Go.TX.F
namespace Go.TX.F
open Go Go.AE Go.TX
structure SI (n:Int) (i:Nat) (s:SS):Prop where
 tok:aF s.t
 tl:(s.t.length:Int)≤n+i
 r4:s.regs.length=4
 rok:∀p∈s.regs,aL p∧aW p s.t.length
 vl:s.vals.length=i
 vok:∀p∈s.vals,aL p∧aW p s.t.length
 ld:0≤s.ld∧s.ld≤i
 inn:0≤s.inn∧s.inn≤i
theorem Ar {l:List (List aj)} {n:Int} (h:∀p∈l,aL p∧aW p n) (i:Int):aL ((l).getD (i).toNat default)∧aW ((l).getD (i).toNat default) n:=by
 by_cases c:i.toNat<l.length
 ·rw [getD_lt c];exact h _ (List.getElem_mem _)
 ·rw [List.getD_eq_getElem?_getD,List.getElem?_eq_none (by omega)];exact⟨dU,iY _⟩
theorem SI.x {n:Int} {i:Nat} {s:SS} (h:SI n i s) (o:IOp):aL (xOf s o)∧aW (xOf s o) s.t.length:=by
 unfold xOf;split
 ·exact Ar h.vok _
 ·exact⟨dU,iY _⟩
theorem SI.y {n:Int} {i:Nat} {s:SS} (h:SI n i s) (o:IOp):aL (yOf s o)∧aW (yOf s o) s.t.length:=by
 unfold yOf;split
 ·exact Ar h.vok _
 ·exact⟨dU,iY _⟩
theorem abL {n:Int} {i:Nat} {s:SS} (h:SI n i s) (hi:i<200) (o:IOp) (m:Int):gY (aOf s o) m:=by
 have h1:=h.ld
 have h2:=h.inn
 unfold aOf
 split
 ·unfold gY;rw [if_neg (by simp)];exact⟨⟨rfl,rfl⟩,Or.inr ⟨Or.inl rfl,by dsimp only;omega,by dsimp only;omega⟩⟩
 ·unfold gY;rw [if_neg (by simp)];exact⟨⟨rfl,rfl⟩,Or.inr ⟨Or.inr rfl,by dsimp only;omega,by dsimp only;omega⟩⟩
structure SOK (s:SS) (o:IOp):Prop where
 pre:s.t<+:(stp s o).t
 d:o.kind=3→ahw s.t o.k (xOf s o) (yOf s o)
 p:o.kind=4∨o.kind=6→0≤(aX s.t (aOf s o)).2
theorem GD {n:Int} {i:Nat} {s:SS} {o:IOp} (h:SI n i s) (hk:o.kind=3→1≤o.k∧o.k≤5) (hn:n+i<200) (hi:i<200):SI n (i+1) (stp s o)∧SOK s o:=by
 have hl:=h.tl
 have tl:s.t.length<200:=by omega
 have hd:o.kind=3→ahw s.t o.k (xOf s o) (yOf s o):=fun e=>abK h.tok tl (hk e) (h.x o).1 (h.y o).1 (h.x o).2 (h.y o).2
 have hput:=Cg (a:=aOf s o) h.tok tl
 have hp:=hput.2.2.2 (abL h hi o _)
 have T:aF (nT s o)∧(nT s o).length≤s.t.length+1∧s.t<+:nT s o:=by
  unfold nT
  split
  ·rename_i e;have:=hd e;exact⟨this.tok,this.len,this.pre⟩
  ·split
   ·exact⟨hput.1,hput.2.2.1,uG _ _⟩
   ·exact⟨h.tok,Nat.le_succ _,List.prefix_refl _⟩
 have up:∀ {p:List aj},aL p∧aW p s.t.length→aL p∧aW p (nT s o).length:=fun hp=>⟨hp.1,vD hp.2 (by have:=Ch T.2.2;omega)⟩
 have V:aL (nV s o)∧aW (nV s o) (nT s o).length:=by
  unfold nV
  split
  ·exact⟨nW _,uF _ _⟩
  ·split
   ·exact up (Ar h.rok _)
   ·split
    ·rename_i e
     have:=hd e
     refine⟨this.pok,?_⟩
     have e2:nT s o=(tDo s.t o.k (xOf s o) (yOf s o)).1:=by unfold nT;rw [if_pos e]
     rw [e2];exact this.und
    ·split
     ·rename_i e1 e2
      have e3:nT s o=(aX s.t (aOf s o)).1:=by unfold nT;rw [if_neg (by omega),if_pos e2]
      rw [e3]
      exact⟨mY _,q9 (vE hp).1⟩
     ·exact⟨dU,iY _⟩
 have g1:=h.ld
 have g2:=h.inn
 refine⟨⟨T.1,?_,?_,?_,?_,?_,?_,?_⟩,⟨T.2.2,hd,fun _=>hp⟩⟩
 ·have:=T.2.1;show((nT s o).length:Int)≤_;omega
 ·show(nR s o).length=4
  unfold nR;split
  ·rw [List.length_set];exact h.r4
  ·exact h.r4
 ·show∀p∈nR s o,_
  intro p hp
  unfold nR at hp;split at hp
  ·rcases List.mem_or_eq_of_mem_set hp with hp | rfl
   ·exact up (h.rok p hp)
   ·exact up (h.x o)
  ·exact up (h.rok p hp)
 ·show(s.vals++ [nV s o]).length=i+1
  rw [List.length_append,h.vl];rfl
 ·show∀p∈s.vals++ [nV s o],_
  intro p hp
  rw [List.mem_append,List.mem_singleton]at hp
  rcases hp with hp | rfl
  ·exact up (h.vok p hp)
  ·exact V
 ·show 0≤(if o.kind=4 then s.ld+1 else s.ld)∧(if o.kind=4 then s.ld+1 else s.ld)≤_
  split<;>omega
 ·show 0≤(if o.kind=6 then s.inn+1 else s.inn)∧(if o.kind=6 then s.inn+1 else s.inn)≤_
  split<;>omega
theorem yg {n:Int}:∀(ops:List IOp) (i:Nat) (s:SS),SI n i s→(∀o∈ops,o.kind=3→1≤o.k∧o.k≤5)→n+i+ops.length≤200→i+ops.length≤200→SI n (i+ops.length) (ops.foldl stp s)∧s.t<+:(ops.foldl stp s).t
 | [],i,s,h,_,_,_=>⟨h,List.prefix_refl _⟩
 | o::r,i,s,h,hk,h1,h2=>by
  rw [List.length_cons]at h1 h2
  obtain⟨a1,a2⟩:=GD h (hk o List.mem_cons_self) (by omega) (by omega)
  obtain⟨b1,b2⟩:=yg r (i+1) (stp s o) a1 (fun o ho=>hk o (List.mem_cons_of_mem _ ho)) (by omega) (by omega)
  rw [List.foldl_cons,List.length_cons,show i+(r.length+1)=i+1+r.length by omega]
  exact⟨b1,a2.pre.trans b2⟩
structure RI (t:List Atom) (n:Nat) (r:List Atom×List (List aj)):Prop where
 tok:aF r.1
 tl:r.1.length≤t.length+n
 pre:t<+:r.1
 r4:r.2.length=n
 rok:∀p∈r.2,aL p∧aW p r.1.length
theorem BF {t:List Atom} (h:aF t) (hl:t.length≤196):∀n:Nat,n≤4→RI t n (rN t n)
 | 0,_=>⟨h,Nat.le_refl _,List.prefix_refl _,rfl,fun p hp=>absurd hp (by simp [rN])⟩
 | n+1,hn=>by
  have ih:=BF h hl n (by omega)
  have l:=ih.tl
  have hp:=Cg (a:=⟨1,n,[],[]⟩) ih.tok (by omega)
  have h0:=hp.2.2.2 (by unfold gY;rw [if_neg (by simp)];exact⟨⟨rfl,rfl⟩,Or.inl ⟨rfl,by dsimp only;omega,by dsimp only;omega⟩⟩)
  have pr:=uG (rN t n).1 ⟨1,n,[],[]⟩
  unfold rN
  refine⟨hp.1,?_,ih.pre.trans pr,?_,fun p h=> ?_⟩
  ·have:=hp.2.2.1;dsimp only;omega
  ·dsimp only;rw [List.length_append,ih.r4];rfl
  ·dsimp only at h ⊢
   rw [List.mem_append,List.mem_singleton]at h
   rcases h with h | rfl
   ·have:=ih.rok p h;exact⟨this.1,vD this.2 (by have:=Ch pr;omega)⟩
   ·exact⟨mY _,q9 (vE h0).1⟩
theorem JN {t:List Atom} (h:aF t) (hl:t.length≤196) {n:Nat} (hn:n<4):0≤(aX (rN t n).1 ⟨1,n,[],[]⟩).2:=by
 have ih:=BF h hl n (by omega)
 have l:=ih.tl
 exact(Cg (a:=⟨1,n,[],[]⟩) ih.tok (by omega)).2.2.2 (by unfold gY;rw [if_neg (by simp)];exact⟨⟨rfl,rfl⟩,Or.inl ⟨rfl,by dsimp only;omega,by dsimp only;omega⟩⟩)
theorem Iy {t:List Atom} (h:aF t) (hl:t.length≤196):SI (t.length+4) 0 (s0 t):=by
 have:=BF h hl 4 (by omega)
 have l:=this.tl
 exact⟨this.tok,by show((rN t 4).1.length:Int)≤_;omega,this.r4,this.rok,rfl,fun p hp=>absurd hp (by simp [s0]),by simp [s0],by simp [s0]⟩
theorem kW.k3 {b:Blk} (h:kW b):∀o∈b.ops,o.kind=3→1≤o.k∧o.k≤5:=fun o ho=>by
 obtain⟨i,hi,rfl⟩:=List.getElem_of_mem ho
 have:=(h.op i (by omega) (by omega)).k3
 rw [show(i:Int).toNat=i from rfl,getD_lt hi]at this
 exact this
theorem Ud {t:List Atom} {b:Blk} (h:aF t) (hl:t.length≤100) (hb:kW b):SI (t.length+4) b.ops.length (gL t b)∧t<+:(gL t b).t:=by
 have sz:=hb.sz
 obtain⟨h1,h2⟩:=yg b.ops 0 (s0 t) (Iy h (by omega)) hb.k3 (by omega) (by omega)
 rw [Nat.zero_add]at h1
 exact⟨h1,(BF h (by omega) 4 (by omega)).pre.trans h2⟩
def SS.on (s:SS) (u:List Atom):SS:=⟨u,s.regs,s.vals,s.ld,s.inn,s.evs⟩
theorem ahx {s:SS} {o:IOp} {u:List Atom} (hu:aF u) (h:SOK s o) (hp:(stp s o).t<+:u):stp (s.on u) o=(stp s o).on u:=by
 have hp:nT s o<+:u:=hp
 have ex:xOf (s.on u) o=xOf s o:=rfl
 have ey:yOf (s.on u) o=yOf s o:=rfl
 have ea:aOf (s.on u) o=aOf s o:=rfl
 have eT:nT (s.on u) o=u:=by
  unfold nT
  split
  ·rename_i e
   rw [ex,ey]
   have h3:=(h.d e).ok
   unfold nT at hp;rw [if_pos e]at hp
   rw [show(s.on u).t=u from rfl,Zu hu h3 hp]
  ·split
   ·rename_i e1 e2
    unfold nT at hp;rw [if_neg e1,if_pos e2]at hp
    rw [ea,show(s.on u).t=u from rfl,ze hu (h.p e2) hp]
   ·rfl
 have eV:nV (s.on u) o=nV s o:=by
  unfold nV
  split
  ·rfl
  ·split
   ·rfl
   ·split
    ·rename_i e
     rw [ex,ey]
     have h3:=(h.d e).ok
     unfold nT at hp;rw [if_pos e]at hp
     rw [show(s.on u).t=u from rfl,Zu hu h3 hp]
    ·split
     ·rename_i e1 e2
      unfold nT at hp;rw [if_neg e1,if_pos e2]at hp
      rw [ea,show(s.on u).t=u from rfl,ze hu (h.p e2) hp]
     ·rfl
 show SS.mk (nT (s.on u) o) (nR (s.on u) o) ((s.on u).vals++ [nV (s.on u) o]) _ _ (nE (s.on u) o)=SS.mk u (nR s o) (s.vals++ [nV s o]) _ _ (nE s o)
 rw [eT,eV];rfl
theorem Zv {n:Int} {u:List Atom} (hu:aF u):∀(ops:List IOp) (i:Nat) (s:SS),SI n i s→(∀o∈ops,o.kind=3→1≤o.k∧o.k≤5)→n+i+ops.length≤200→i+ops.length≤200→(ops.foldl stp s).t<+:u→ops.foldl stp (s.on u)=(ops.foldl stp s).on u
 | [],i,s,h,_,_,_,_=>rfl
 | o::r,i,s,h,hk,h1,h2,hp=>by
  rw [List.length_cons]at h1 h2
  obtain⟨a1,a2⟩:=GD h (hk o List.mem_cons_self) (by omega) (by omega)
  rw [List.foldl_cons]at hp
  obtain⟨_,b2⟩:=yg r (i+1) (stp s o) a1 (fun o ho=>hk o (List.mem_cons_of_mem _ ho)) (by omega) (by omega)
  rw [List.foldl_cons,List.foldl_cons,ahx hu a2 (b2.trans hp)]
  exact Zv hu r (i+1) (stp s o) a1 (fun o ho=>hk o (List.mem_cons_of_mem _ ho)) (by omega) (by omega) hp
theorem acF {t u:List Atom} (h:aF t) (hl:t.length≤196) (hu:aF u):∀n:Nat,n≤4→(rN t n).1<+:u→rN u n=(u,(rN t n).2)
 | 0,_,_=>rfl
 | n+1,hn,hp=>by
  have h0:=JN h hl (n:=n) (by omega)
  have pr:=uG (rN t n).1 ⟨1,n,[],[]⟩
  have hp':(aX (rN t n).1 ⟨1,n,[],[]⟩).1<+:u:=hp
  have ih:=acF h hl hu n (by omega) (pr.trans hp')
  show((aX (rN u n).1 ⟨1,n,[],[]⟩).1,(rN u n).2++ [fE (aX (rN u n).1 ⟨1,n,[],[]⟩).2])=(u,(rN t n).2++ [fE (aX (rN t n).1 ⟨1,n,[],[]⟩).2])
  rw [ih]
  dsimp only
  rw [ze hu h0 hp']
theorem abM {t u:List Atom} {b:Blk} (h:aF t) (hl:t.length≤100) (hb:kW b) (hu:aF u) (hp:(gL t b).t<+:u):gL u b=(gL t b).on u:=by
 have sz:=hb.sz
 have i0:=Iy h (by omega)
 obtain⟨_,h2⟩:=yg b.ops 0 (s0 t) i0 hb.k3 (by omega) (by omega)
 have e:s0 u=(s0 t).on u:=by
  unfold s0 SS.on
  rw [acF h (by omega) hu 4 (by omega) (h2.trans hp)]
 unfold gL at hp ⊢
 rw [e]
 exact Zv hu b.ops 0 (s0 t) i0 hb.k3 (by omega) (by omega) hp
theorem rz {t:List Atom} {b:Blk} (h:aF t) (hl:t.length≤100) (hb:kW b):bK t b=((gL t b).t,symEnd (za b (gL t b)) (b.pc+b.len)):=by
 unfold bK;rw [if_pos (dH ⟨h,hl,hb⟩)]
theorem Vy {t u:List Atom} {b:Blk} (h:aF t) (hl:t.length≤100) (hb:kW b) (hu:aF u) (hlu:u.length≤100) (hp:(bK t b).1<+:u):bK u b=(u,(bK t b).2):=by
 rw [rz h hl hb]at hp ⊢
 rw [rz hu hlu hb,abM h hl hb hu hp]
 rfl
theorem Iz {t:List Atom} {b:Blk} (h:aF t) (hl:t.length≤100) (hb:kW b):aF (bK t b).1∧t<+:(bK t b).1∧(bK t b).1.length≤t.length+b.ops.length+4:=by
 unfold bK
 rw [if_pos (dH ⟨h,hl,hb⟩)]
 obtain⟨h1,h2⟩:=Ud h hl hb
 have:=h1.tl
 exact⟨h1.tok,h2,by dsimp only;omega⟩
end Go.TX.F
namespace Go.TX.F
open Go Go.AE Go.TX
def ShP (l:List (List aj)):Prop:=l.length<1000000000∧∀p∈l,Sh p
def ShE (e:Ev):Prop:=Sh e.x∧Sh e.y∧ShP e.regs
def Vz (l:List Ev):Prop:=l.length<1000000000∧∀e∈l,ShE e
structure ShY (s:Sym):Prop where
 e:Vz s.events
 r:ShP s.regs
 x:Sh s.x
 y:Sh s.y
theorem ShP.at {l:List (List aj)} (h:ShP l) (n:Nat):Sh (l.getD n default):=by
 by_cases c:n<l.length
 ·rw [getD_lt c];exact h.2 _ (List.getElem_mem _)
 ·rw [List.getD_eq_getElem?_getD,List.getElem?_eq_none (by omega)];exact mX
theorem JO:ShP []:=⟨by simp,fun p h=>absurd h (by simp)⟩
theorem Vz.at {l:List Ev} (h:Vz l) (n:Nat):ShE (l.getD n default):=by
 by_cases c:n<l.length
 ·rw [getD_lt c];exact h.2 _ (List.getElem_mem _)
 ·rw [List.getD_eq_getElem?_getD,List.getElem?_eq_none (by omega)];exact⟨mX,mX,JO⟩
theorem abN:ShY Vx:=⟨⟨by simp [Vx],fun e h=>absurd h (by simp [Vx])⟩,JO,mX,mX⟩
theorem SI.regs {n:Int} {i:Nat} {s:SS} (h:SI n i s):ShP s.regs:=⟨by have:=h.r4;omega,fun p hp=>(h.rok p hp).1.sh⟩
theorem abO {n:Int} {i:Nat} {s:SS} {o:IOp} (h:SI n i s) (h2:s.evs.length≤i∧∀e∈s.evs,ShE e):(stp s o).evs.length≤i+1∧∀e∈(stp s o).evs,ShE e:=by
 show(nE s o).length≤i+1∧∀e∈nE s o,ShE e
 unfold nE
 split
 ·refine⟨by rw [List.length_append];have:=h2.1;simp only [List.length_cons,List.length_nil];omega,fun e he=> ?_⟩
  rw [List.mem_append,List.mem_singleton]at he
  rcases he with he | rfl
  ·exact h2.2 e he
  ·refine⟨(h.x o).1.sh,(h.y o).1.sh,?_⟩
   dsimp only
   split
   ·exact h.regs
   ·exact JO
 ·exact⟨by have:=h2.1;omega,h2.2⟩
theorem JQ {n:Int}:∀(ops:List IOp) (i:Nat) (s:SS),SI n i s→(∀o∈ops,o.kind=3→1≤o.k∧o.k≤5)→n+i+ops.length≤200→i+ops.length≤200→(s.evs.length≤i∧∀e∈s.evs,ShE e)→(ops.foldl stp s).evs.length≤i+ops.length∧∀e∈(ops.foldl stp s).evs,ShE e
 | [],i,s,h,_,_,_,h3=>h3
 | o::r,i,s,h,hk,h1,h2,h3=>by
  rw [List.length_cons]at h1 h2
  obtain⟨a1,a2⟩:=GD h (hk o List.mem_cons_self) (by omega) (by omega)
  have:=JQ r (i+1) (stp s o) a1 (fun o ho=>hk o (List.mem_cons_of_mem _ ho)) (by omega) (by omega) (abO h h3)
  rw [List.foldl_cons,List.length_cons,show i+(r.length+1)=i+1+r.length by omega]
  exact this
def evT (e:Ev):Int×Int×Nat:=(e.kind,e.at_,e.regs.length)
def opT (o:IOp):Int×Int×Nat:=(o.kind,o.at_,if o.kind=4∨o.kind=5 then 4 else 0)
def Ue (ops:List IOp):List IOp:=ops.filter fun o=>decide (evO o)
theorem Uf:∀(ops:List IOp) (s:SS),s.regs.length=4→(ops.foldl stp s).evs.map evT=s.evs.map evT++(Ue ops).map opT
 | [],s,_=>by simp [Ue]
 | o::r,s,h=>by
  have h':(stp s o).regs.length=4:=by
   show(nR s o).length=4
   unfold nR;split
   ·rw [List.length_set];exact h
   ·exact h
  rw [List.foldl_cons,Uf r (stp s o) h']
  show(nE s o).map evT++_=_
  unfold nE Ue
  by_cases c:evO o
  ·have e:evT ⟨o.kind,o.at_,xOf s o,yOf s o,if o.kind=4∨o.kind=5 then s.regs else []⟩=opT o:=by
    unfold evT opT
    dsimp only
    split
    ·rw [h]
    ·rfl
   rw [if_pos c,List.filter_cons_of_pos (by simpa using c),List.map_append,List.append_assoc]
   refine congrArg (s.evs.map evT++ ·) ?_
   show evT _::_=opT o::_
   rw [e];rfl
  ·rw [if_neg c,List.filter_cons_of_neg (by simpa using c)]
theorem JR {n:Int} {i:Nat} {s:SS} {b:Blk} (h:SI n i s):aL (za b s).x∧aL (za b s).y:=by
 unfold za
 dsimp only
 constructor
 ·split
  ·exact dU
  ·exact(Ar h.vok _).1
 ·split
  ·exact(Ar h.vok _).1
  ·exact dU
theorem JU {s:Sym} {n:Int} (h:aL s.x∧aL s.y):(symEnd s n).events=s.events∧(symEnd s n).regs=s.regs∧aL (symEnd s n).x∧aL (symEnd s n).y:=by
 unfold symEnd
 rw [if_neg (by rw [dH h];simp)]
 repeat' split
 all_goals first | exact⟨rfl,rfl,h⟩ | exact⟨rfl,rfl,dU,dU⟩ | exact⟨rfl,rfl,h.2,h.1⟩
structure an2 (t:List Atom) (b:Blk):Prop where
 evs:(bK t b).2.events.map evT=(Ue b.ops).map opT
 r4:(bK t b).2.regs.length=4
 sh:ShY (bK t b).2
 ne:0< (bK t b).1.length
theorem Om {t:List Atom} {b:Blk} (h:aF t) (hl:t.length≤100) (hb:kW b):an2 t b:=by
 have sz:=hb.sz
 have i0:=Iy h (by omega)
 obtain⟨h1,h2⟩:=Ud h hl hb
 have hs:=JQ b.ops 0 (s0 t) i0 hb.k3 (by omega) (by omega) ⟨by simp [s0],fun e he=>absurd he (by simp [s0])⟩
 have he:=Uf b.ops (s0 t) i0.r4
 have hk:=JU (n:=b.pc+b.len) (JR (b:=b) h1)
 have e:bK t b=((gL t b).t,symEnd (za b (gL t b)) (b.pc+b.len)):=by unfold bK;rw [if_pos (dH ⟨h,hl,hb⟩)]
 rw [Nat.zero_add]at hs
 refine⟨?_,?_,?_,?_⟩
 ·rw [e];dsimp only;rw [hk.1];show(gL t b).evs.map evT=_;unfold gL;rw [he];rfl
 ·rw [e];dsimp only;rw [hk.2.1];exact h1.r4
 ·rw [e]
  refine⟨?_,?_,hk.2.2.1.sh,hk.2.2.2.sh⟩
  ·rw [hk.1];exact⟨by have:=hs.1;show(b.ops.foldl stp (s0 t)).evs.length<_;omega,hs.2⟩
  ·rw [hk.2.1];exact h1.regs
 ·rw [e]
  have r:=yg b.ops 0 (s0 t) i0 hb.k3 (by omega) (by omega)
  have:=Ch r.2
  have p:=vE (JN h (by omega) (n:=3) (by omega))
  have p0:=JN h (by omega) (n:=3) (by omega)
  show 0< (gL t b).t.length
  have:(s0 t).t.length=(aX (rN t 3).1 ⟨1,(3:Nat),[],[]⟩).1.length:=rfl
  unfold gL
  omega
theorem zf (t:List Atom) (b:Blk):ShY (bK t b).2∧ShT (bK t b).1:=by
 by_cases c:aF t∧t.length≤100∧kW b
 ·exact⟨(Om c.1 c.2.1 c.2.2).sh,(Iz c.1 c.2.1 c.2.2).1.sh⟩
 ·unfold bK;rw [cZ c,if_neg (by simp)];exact⟨abN,abG⟩
noncomputable def t4:List Atom:=(rN [] 4).1
theorem vF:aF []:=l8.2 ⟨All.zero,by simp⟩
theorem Ug:aF t4∧t4.length≤4:=by
 have:=BF vF (by simp) 4 (by omega)
 exact⟨this.tok,Nat.le_trans this.tl (by simp)⟩
noncomputable def chk (b c:Blk):Bool:=bp (kW b∧kW c∧b.pc=c.pc∧b.len=c.len∧(b=c∨(bK t4 b).2=(bK (bK t4 b).1 c).2))
structure Lk (b c:Blk):Prop where
 ob:kW b
 oc:kW c
 pc:b.pc=c.pc
 len:b.len=c.len
 run:∀u,aF u→u.length≤100→(bK u b).1=u→bK u c=bK u b
theorem Lk.refl {b:Blk} (h:kW b):Lk b b:=⟨h,h,rfl,rfl,fun _ _ _ _=>rfl⟩
theorem Lk.trans {b c d:Blk} (h:Lk b c) (g:Lk c d):Lk b d:=⟨h.ob,g.oc,h.pc.trans g.pc,h.len.trans g.len,fun u h1 h2 h3=>by
 have e:=h.run u h1 h2 h3
 rw [g.run u h1 h2 (by rw [e];exact h3),e]⟩
theorem abP {b:Blk} (hb:kW b):aF (bK t4 b).1∧(bK t4 b).1.length≤100∧bK (bK t4 b).1 b=bK t4 b:=by
 have h4:=Ug
 have hr:=Iz h4.1 (by omega) hb
 have sz:=hb.sz
 refine⟨hr.1,by omega,?_⟩
 have:=Vy h4.1 (by omega) hb hr.1 (by omega) (List.prefix_refl _)
 rw [this]
theorem Lk.chk {b c:Blk} (h:Lk b c):chk b c=true:=by
 obtain⟨h1,h2,h3⟩:=abP h.ob
 refine dH ⟨h.ob,h.oc,h.pc,h.len,Or.inr ?_⟩
 rw [h.run _ h1 h2 (by rw [h3]),h3]
end Go.TX.F
namespace Go.TX.F
open Go Go.AE Go.TX
theorem Rx (f:SS→IOp→SS) (s:SS) {l:List IOp} {i:Nat} (h:i<l.length):(l.take (i+1)).foldl f s=f ((l.take i).foldl f s) l[i]:=by
 rw [List.take_succ_eq_append_getElem h,List.foldl_append];rfl
def ren (nm:List Int) (o:IOp):IOp:=⟨o.kind,if hX o then((nm).getD (o.x).toNat default)else o.x,if hY o then((nm).getD (o.y).toNat default)else o.y,o.k,o.at_⟩
def cpN (s:List Int×List Int) (i:Int) (o:IOp):Int:=if o.kind=2∧0≤((s.2).getD (o.k).toNat default)then((s.2).getD (o.k).toNat default)else i
def cpL (s:List Int×List Int) (i:Int) (o:IOp):List Int:=if o.kind=2 then(if 0≤((s.2).getD (o.k).toNat default)then s.2 else s.2.set o.k.toNat i)else if o.kind=8 then s.2.set o.k.toNat ((s.1).getD (o.x).toNat default)else s.2
def cpS (ops:List IOp):Nat→List Int×List Int
 | 0=>([],[-1, -1, -1, -1])
 | i+1=>((cpS ops i).1++ [cpN (cpS ops i) i (ops.getD i default)],cpL (cpS ops i) i (ops.getD i default))
structure CI (ops:List IOp) (i:Nat) (s:SS):Prop where
 nm:∀j:Int,0≤j→j<i→(0≤(((cpS ops i).1).getD (j).toNat default)∧(((cpS ops i).1).getD (j).toNat default)≤j)∧((s.vals).getD ((((cpS ops i).1).getD (j).toNat default)).toNat default)=((s.vals).getD (j).toNat default)∧(mkV ((ops).getD (j).toNat default)→mkV ((ops).getD ((((cpS ops i).1).getD (j).toNat default)).toNat default))
 la:∀r:Int,0≤r→r≤3→0≤(((cpS ops i).2).getD (r).toNat default)→(((cpS ops i).2).getD (r).toNat default)<i∧((s.vals).getD ((((cpS ops i).2).getD (r).toNat default)).toNat default)=((s.regs).getD (r).toNat default)∧mkV ((ops).getD ((((cpS ops i).2).getD (r).toNat default)).toNat default)
end Go.TX.F
namespace Go.TX.F
open Go Go.AE Go.TX
def fcO (f:List IOp) (o:IOp):IOp:=if o.kind=3∧(((f).getD (o.x).toNat default)).kind=1∧(((f).getD (o.y).toNat default)).kind=1 then⟨1,0,0,wdo o.k (((f).getD (o.x).toNat default)).k (((f).getD (o.y).toNat default)).k,0⟩else o
def fc (ops:List IOp):Nat→List IOp
 | 0=> []
 | i+1=>fc ops i++ [fcO (fc ops i) (ops.getD i default)]
structure FI (ops:List IOp) (i:Nat) (s:SS):Prop where
 c:∀j:Int,0≤j→j<i→((((fc ops i)).getD (j).toNat default)).kind=1→(0≤((((fc ops i)).getD (j).toNat default)).k∧((((fc ops i)).getD (j).toNat default)).k≤65535)∧((s.vals).getD (j).toNat default)=dw ((((fc ops i)).getD (j).toNat default)).k
 m:∀j:Int,0≤j→j<i→mkV ((ops).getD (j).toNat default)→mkV (((fc ops i)).getD (j).toNat default)
def kpS (ops:List IOp) (kp:List Bool):Nat→List Int×List IOp
 | 0=>([],[])
 | i+1=>((kpS ops kp i).1++ [((kpS ops kp i).2.length:Int)],if kp.getD i default=true then(kpS ops kp i).2++ [ops.getD i default]else(kpS ops kp i).2)
def Zw:List IOp→Int→Bool
 | [],_=>false
 | o::l,r=>if o.kind=4∨o.kind=5∨o.kind=2∧o.k=r then false else if o.kind=8∧o.k=r then true else Zw l r
structure KP (b:Blk) (kp:List Bool):Prop where
 x:∀i:Int,0≤i→i<b.ops.length→((kp).getD (i).toNat default)=true→hX ((b.ops).getD (i).toNat default)→((kp).getD ((((b.ops).getD (i).toNat default)).x).toNat default)=true
 y:∀i:Int,0≤i→i<b.ops.length→((kp).getD (i).toNat default)=true→hY ((b.ops).getD (i).toNat default)→((kp).getD ((((b.ops).getD (i).toNat default)).y).toNat default)=true
 ex:b.fin≠1→((kp).getD (b.x).toNat default)=true
 ey:3≤b.fin→((kp).getD (b.y).toNat default)=true
 no:∀i:Int,0≤i→i<b.ops.length→((kp).getD (i).toNat default)=false→(((b.ops).getD (i).toNat default)).kind≤3∨(((b.ops).getD (i).toNat default)).kind=8∧Zw (b.ops.drop (i.toNat+1)) (((b.ops).getD (i).toNat default)).k=true
structure KI (b:Blk) (kp:List Bool) (i:Nat) (s s':SS):Prop where
 t:s'.t=s.t
 ld:s'.ld=s.ld
 inn:s'.inn=s.inn
 evs:s'.evs=s.evs
 vl:s'.vals.length=(kpS b.ops kp i).2.length
 v:∀j:Nat,j<i→kp.getD j default=true→s'.vals.getD (kpS b.ops kp j).2.length default=s.vals.getD j default
 r4:s'.regs.length=4∧s.regs.length=4
 rg:∀r:Int,0≤r→r≤3→Zw (b.ops.drop i) r=false→((s'.regs).getD (r).toNat default)=((s.regs).getD (r).toNat default)
def us0 (b:Blk):List Bool:=(fun m:List Bool=>if 3≤b.fin then m.set b.y.toNat true else m) (if b.fin=1 then List.replicate b.ops.length false else(List.replicate b.ops.length false).set b.x.toNat true)
def usO (o:IOp) (i:Nat) (m:List Bool):List Bool:=
 if(m.getD i default || decide (4≤o.kind))=true then(fun m:List Bool=>if hY o then m.set o.y.toNat true else m) ((fun m:List Bool=>if hX o then m.set o.x.toNat true else m) (m.set i true))else m
def us (b:Blk):Nat→List Bool
 | 0=>us0 b
 | k+1=>usO (b.ops.getD (b.ops.length-1-k) default) (b.ops.length-1-k) (us b k)
structure UI (b:Blk) (p:Nat) (m:List Bool):Prop where
 k:∀i:Nat,p≤i→i<b.ops.length→4≤(b.ops.getD i default).kind→m.getD i default=true
 x:∀i:Nat,p≤i→i<b.ops.length→m.getD i default=true→hX (b.ops.getD i default)→((m).getD ((b.ops.getD i default).x).toNat default)=true
 y:∀i:Nat,p≤i→i<b.ops.length→m.getD i default=true→hY (b.ops.getD i default)→((m).getD ((b.ops.getD i default).y).toNat default)=true
 ex:b.fin≠1→((m).getD (b.x).toNat default)=true
 ey:3≤b.fin→((m).getD (b.y).toNat default)=true
 wh:∀t:Nat,t<b.ops.length→m.getD t default=true→4≤(b.ops.getD t default).kind∨b.fin≠1∧t=b.x.toNat∨3≤b.fin∧t=b.y.toNat∨∃j:Nat,p≤j∧j<b.ops.length∧t<j∧m.getD j default=true∧(hX (b.ops.getD j default)∧t=(b.ops.getD j default).x.toNat∨hY (b.ops.getD j default)∧t=(b.ops.getD j default).y.toNat)
end Go.TX.F
namespace Go.TX.F
open Go Go.AE Go.TX
theorem RB:(∀o:IOp,jO .iop 0 o=o.kind)∧(∀o:IOp,jO .iop 1 o=o.x)∧(∀o:IOp,jO .iop 2 o=o.y)∧(∀o:IOp,jO .iop 3 o=o.k)∧(∀o:IOp,jO .iop 4 o=o.at_)∧
  (∀b:Blk,jO .blk 0 b=b.pc)∧(∀b:Blk,jO .blk 1 b=b.len)∧(∀b:Blk,oG .blk 2 .iop b=b.ops)∧(∀b:Blk,jO .blk 3 b=b.fin)∧(∀b:Blk,jO .blk 4 b=b.x)∧(∀b:Blk,jO .blk 5 b=b.y)∧(∀b:Blk,jO .blk 6 b=b.k)∧
  (∀x,Co.mk .iop x=⟨x.1,x.2.1,x.2.2.1,x.2.2.2.1,x.2.2.2.2.1⟩)∧(∀x,Co.mk .blk x=⟨x.1,x.2.1,x.2.2.1,x.2.2.2.1,x.2.2.2.2.1,x.2.2.2.2.2.1,x.2.2.2.2.2.2.1⟩)∧
  (∀i:Ins,jO .ins 0 i=i.op)∧(∀i:Ins,jO .ins 1 i=i.d)∧(∀i:Ins,jO .ins 2 i=i.a)∧(∀i:Ins,jO .ins 3 i=i.k)∧(∀x,Co.mk .ins x=⟨x.1,x.2.1,x.2.2.1,x.2.2.2.1⟩)∧
  (∀e:Ev,jO .ev 0 e=e.kind)∧(∀e:Ev,jO .ev 1 e=e.at_)∧(∀e:Ev,oG .ev 2 .mono e=e.x)∧(∀e:Ev,oG .ev 3 .mono e=e.y)∧(∀e:Ev,oG .ev 4 .poly e=e.regs)∧(∀x,Co.mk .ev x=⟨x.1,x.2.1,x.2.2.1,x.2.2.2.1,x.2.2.2.2.1⟩)∧
  (∀s:Sym,oG .sym 0 .ev s=s.events)∧(∀s:Sym,oG .sym 1 .poly s=s.regs)∧(∀s:Sym,jO .sym 2 s=s.fin)∧(∀s:Sym,oG .sym 3 .mono s=s.x)∧(∀s:Sym,oG .sym 4 .mono s=s.y)∧(∀s:Sym,jO .sym 5 s=s.k)∧
  (∀x,Co.mk .sym x=⟨x.1,x.2.1,x.2.2.1,x.2.2.2.1,x.2.2.2.2.1,x.2.2.2.2.2.1⟩)∧(∀x,Co.mk .bool x=x.1)∧(∀x:Bool,ajQ .bool 0 x=x):=
 ⟨fun _=>rfl,fun _=>rfl,fun _=>rfl,fun _=>rfl,fun _=>rfl,fun _=>rfl,fun _=>rfl,fun _=>rfl,fun _=>rfl,fun _=>rfl,fun _=>rfl,fun _=>rfl,fun _=>rfl,fun _=>rfl,fun _=>rfl,fun _=>rfl,fun _=>rfl,fun _=>rfl,fun _=>rfl,fun _=>rfl,fun _=>rfl,fun _=>rfl,fun _=>rfl,fun _=>rfl,fun _=>rfl,fun _=>rfl,fun _=>rfl,fun _=>rfl,fun _=>rfl,fun _=>rfl,fun _=>rfl,fun _=>rfl,fun _=>rfl,fun _=>rfl⟩
@[reducible] def hK (o : IOp) : Prop := o.kind = 1 ∨ o.kind = 2 ∨ o.kind = 3 ∨ o.kind = 8
theorem an3 {p1:Int×Int×Int×Unit→Bool} {f1:Int×Int×Int×Unit→Bool×Unit} (hp1:∀a b c,p1 (a,b,c,())=true) (hf1:∀a b c,f1 (a,b,c,())=(inB a b c,())) (o:IOp):
  Xi (std 0) p1 f1 (o,()) (fun y=>y=(decide (hX o),decide (hY o),decide (hK o),decide (evO o),())):=by
 dsimp only [Xi,Alg.cl,Alg.cg,Alg.rb,Alg.bd,Alg.l1,Tup.q,Tup.o]
 simp (disch:=omega) only [RR,RB,hp1,hf1]
 refine Prod.ext ?_ (Prod.ext ?_ (Prod.ext ?_ (Prod.ext ?_ rfl)))<;>rw [Bool.eq_iff_iff]<;>simp [hX,hY,hK,evO,inB,or_assoc,and_assoc]
theorem an4 {p1:Int×Int×Int×Unit→Bool} {f1:Int×Int×Int×Unit→Bool×Unit} (hp1:∀a b c,p1 (a,b,c,())=true) (hf1:∀a b c,f1 (a,b,c,())=(inB a b c,())) (o:IOp):
  Xm (std 0) p1 f1 (o,()) (fun y=>y=(decide (mkV o),())):=by
 dsimp only [Xm,Alg.cl,Alg.cg,Alg.rb,Alg.bd,Alg.l1,Tup.q,Tup.o]
 simp (disch:=omega) only [RR,RB,hp1,hf1]
 refine Prod.ext ?_ rfl
 rw [Bool.eq_iff_iff];simp [mkV,inB]
theorem an5 {p1:Int×Int×Int×Unit→Bool} {f1:Int×Int×Int×Unit→Bool×Unit} (hp1:∀a b c,p1 (a,b,c,())=true) (hf1:∀a b c,f1 (a,b,c,())=(inB a b c,())) (o:IOp):
  Yn (std 0) p1 f1 (o,()) (fun y=>y=(decide (evO o),())):=by
 dsimp only [Yn,Alg.cl,Alg.cg,Alg.rb,Alg.bd,Alg.l1,Tup.q,Tup.o]
 simp (disch:=omega) only [RR,RB,hp1,hf1]
 refine Prod.ext ?_ rfl
 rw [Bool.eq_iff_iff];simp [evO,inB]
theorem an6 {p2:IOp×Unit→Bool} {f2:IOp×Unit→Bool×Unit} (hp2:∀o,p2 (o,())=true) (hf2:∀o,f2 (o,())=(decide (mkV o),()))
  {p1:Int×Int×Int×Unit→Bool} {f1:Int×Int×Int×Unit→Bool×Unit} (hp1:∀a b c,p1 (a,b,c,())=true) (hf1:∀a b c,f1 (a,b,c,())=(inB a b c,())) (b:Blk) (x n:Int) (h0:0≤n) (h1:n≤b.ops.length) (h2:b.ops.length<1000000000):
  Xn (std 0) p2 f2 p1 f1 (b,x,n,()) (fun y=>y=(bp (Vl b.ops x n),())):=by
 dsimp only [Xn,Alg.cl,Alg.cg,Alg.rb,Alg.bd,Alg.l1,Tup.q,Tup.o]
 simp (disch:=omega) only [RR,RB,hp1,hf1,hp2,hf2,dz,mV]
 refine⟨by omega,by omega,?_⟩
 refine Prod.ext ?_ rfl
 dsimp only
 rw [Bool.eq_iff_iff,bg,Bool.and_eq_true,dz,decide_eq_true_eq]
 unfold Vl
 constructor
 ·rintro⟨⟨a1,a2⟩,a3⟩;exact⟨a1,by omega,a3⟩
 ·rintro⟨a1,a2,a3⟩;exact⟨⟨a1,by omega⟩,a3⟩
theorem Oo {ops:List IOp} {len i:Int} {o:IOp}:JM ops len i o↔(1≤o.kind∧o.kind≤8)∧(hX o∧Vl ops o.x i∨¬hX o∧o.x=0)∧(hY o∧Vl ops o.y i∨¬hY o∧o.y=0)∧
  (hK o∧(o.kind=1∧(0≤o.k∧o.k≤65535)∨(o.kind=2∨o.kind=8)∧(0≤o.k∧o.k≤3)∨o.kind=3∧(1≤o.k∧o.k≤5))∨¬hK o∧o.k=0)∧(evO o∧(0≤o.at_∧o.at_<len)∨¬evO o∧o.at_=0):=by
 constructor
 ·rintro⟨kd,x1,x0,y1,y0,k1,k2,k3,k0,a1,a0⟩
  refine⟨kd,?_,?_,?_,?_⟩
  ·by_cases h:hX o
   ·exact Or.inl ⟨h,x1 h⟩
   ·exact Or.inr ⟨h,x0 h⟩
  ·by_cases h:hY o
   ·exact Or.inl ⟨h,y1 h⟩
   ·exact Or.inr ⟨h,y0 h⟩
  ·unfold hK;omega
  ·by_cases h:evO o
   ·exact Or.inl ⟨h,a1 h⟩
   ·exact Or.inr ⟨h,a0 h⟩
 ·rintro⟨kd,x,y,k,a⟩
  refine⟨kd,fun h=> ?_,fun h=> ?_,fun h=> ?_,fun h=> ?_,fun h=> ?_,fun h=> ?_,fun h=> ?_,fun h h'=> ?_,fun h=> ?_,fun h=> ?_⟩
  ·rcases x with x | x
   ·exact x.2
   ·exact absurd h x.1
  ·rcases x with x | x
   ·exact absurd x.1 h
   ·exact x.2
  ·rcases y with y | y
   ·exact y.2
   ·exact absurd h y.1
  ·rcases y with y | y
   ·exact absurd y.1 h
   ·exact y.2
  ·unfold hK at k;omega
  ·unfold hK at k;omega
  ·unfold hK at k;omega
  ·unfold hK at k;omega
  ·rcases a with a | a
   ·exact a.2
   ·exact absurd h a.1
  ·rcases a with a | a
   ·exact absurd a.1 h
   ·exact a.2
theorem an7 {p3:Blk×Int×Int×Unit→Bool} {f3:Blk×Int×Int×Unit→Bool×Unit} (hp3:∀b x n,0≤n→n≤b.ops.length→b.ops.length<1000000000→p3 (b,x,n,())=true) (hf3:∀b x n,0≤n→n≤b.ops.length→b.ops.length<1000000000→f3 (b,x,n,())=(bp (Vl b.ops x n),()))
  {p2:IOp×Unit→Bool} {f2:IOp×Unit→Bool×Bool×Bool×Bool×Unit} (hp2:∀o,p2 (o,())=true) (hf2:∀o,f2 (o,())=(decide (hX o),decide (hY o),decide (hK o),decide (evO o),()))
  {p4:Int×Unit→Bool} {f4:Int×Unit→Bool×Unit} (hp4:∀a,p4 (a,())=true) (hf4:∀a,f4 (a,())=(inB a 0 65535,()))
  {p1:Int×Int×Int×Unit→Bool} {f1:Int×Int×Int×Unit→Bool×Unit} (hp1:∀a b c,p1 (a,b,c,())=true) (hf1:∀a b c,f1 (a,b,c,())=(inB a b c,()))
  {p5:Int×Unit→Bool} {f5:Int×Unit→Bool×Unit} (hp5:∀a,p5 (a,())=true) (hf5:∀a,f5 (a,())=(inB a 1 5,()))
  {p6:Int×Unit→Bool} {f6:Int×Unit→Bool×Unit} (hp6:∀a,p6 (a,())=true) (hf6:∀a,f6 (a,())=(inB a 0 3,()))
  (b:Blk) (i:Int) (h0:0≤i) (h1:i<b.ops.length) (h2:b.ops.length<1000000000) (h3:1≤b.len∧b.len≤8):
  Xo (std 0) p3 f3 p2 f2 p4 f4 p1 f1 p5 f5 p6 f6 (b,i,()) (fun y=>y=(bp (JM b.ops b.len i ((b.ops).getD (i).toNat default)),())):=by
 have Ry:=fun x=>hp3 b x i h0 (by omega) h2
 have Rz:=fun x=>hf3 b x i h0 (by omega) h2
 dsimp only [Xo,Alg.cl,Alg.cg,Alg.rb,Alg.bd,Alg.l1,Tup.q,Tup.o]
 simp (disch:=omega) only [RR,RB,hp1,hf1,hp2,hf2,Ry,Rz,hp4,hf4,hp5,hf5,hp6,hf6,mV]
 refine⟨by omega,by omega,fun h=> ?_,fun h=> ?_⟩
 ·rw [cZ (fun g=>h g.kd)]
 ·have h:=dz.1 h
  refine Prod.ext ?_ rfl
  dsimp only
  rw [Bool.eq_iff_iff,bg,Oo]
  generalize ((b.ops).getD (i).toNat default)=o at h ⊢
  simp only [Bool.and_eq_true,Bool.or_eq_true,Bool.not_eq_true',decide_eq_true_eq,decide_eq_false_iff_not,bg,dz,h,true_and,and_true]
  have e:∀ {a:Int},(0≤a∧a≤b.len-1)↔(0≤a∧a<b.len):=fun {a}=>by omega
  have k:(bif decide (o.kind=1)then inB o.k 0 65535 else bif decide (o.kind=2)then inB o.k 0 3 else bif decide (o.kind=3)then inB o.k 1 5 else(decide (o.kind=8)&&inB o.k 0 3))=true↔(o.kind=1∧(0≤o.k∧o.k≤65535)∨(o.kind=2∨o.kind=8)∧(0≤o.k∧o.k≤3)∨o.kind=3∧(1≤o.k∧o.k≤5)):=by
   rcases(by omega:o.kind=1∨o.kind=2∨o.kind=3∨o.kind=8∨(o.kind≠1∧o.kind≠2∧o.kind≠3∧o.kind≠8))with c | c | c | c | ⟨c1,c2,c3,c4⟩
   ·simp [c,inB]
   ·simp [c,inB]
   ·simp [c,inB]
   ·simp [c,inB]
   ·simp [c1,c2,c3,c4]
  rw [k]
  simp only [e,and_assoc]
theorem acG (b:Blk):Xu (std 0) (b,()) (fun y=>y=(decide (b.fin≠1),decide (3≤b.fin),decide (b.fin≠2),())):=by
 dsimp only [Xu,Alg.cl,Alg.cg,Alg.rb,Alg.bd,Alg.l1,Tup.q,Tup.o]
 simp (disch:=omega) only [RR,RB]
 refine Prod.ext ?_ (Prod.ext rfl (Prod.ext ?_ rfl))<;>simp
theorem IB {b:Blk}:y9 b↔(1≤b.fin∧b.fin≤4)∧(b.fin≠1∧Vl b.ops b.x b.ops.length∨¬b.fin≠1∧b.x=0)∧(3≤b.fin∧Vl b.ops b.y b.ops.length∨¬3≤b.fin∧b.y=0)∧(b.fin≠2∧(0≤b.k∧b.k≤65535)∨¬b.fin≠2∧b.k=0):=by
 constructor
 ·rintro⟨f,x1,x0,y1,y0,k1,k0⟩
  refine⟨f,?_,?_,by omega⟩
  ·by_cases h:b.fin=1
   ·exact Or.inr ⟨fun g=>g h,x0 h⟩
   ·exact Or.inl ⟨h,x1 h⟩
  ·by_cases h:3≤b.fin
   ·exact Or.inl ⟨h,y1 h⟩
   ·exact Or.inr ⟨h,y0 (by omega)⟩
 ·rintro⟨f,x,y,k⟩
  refine⟨f,fun h=> ?_,fun h=> ?_,fun h=> ?_,fun h=> ?_,fun h=>by omega,fun h=>by omega⟩
  ·rcases x with x | x
   ·exact x.2
   ·exact absurd h x.1
  ·rcases x with x | x
   ·exact absurd h x.1
   ·exact x.2
  ·rcases y with y | y
   ·exact y.2
   ·exact absurd h y.1
  ·rcases y with y | y
   ·exact absurd y.1 (by omega)
   ·exact y.2
theorem an8 {p2:Blk×Unit→Bool} {f2:Blk×Unit→Bool×Bool×Bool×Unit} (hp2:∀b,p2 (b,())=true) (hf2:∀b,f2 (b,())=(decide (b.fin≠1),decide (3≤b.fin),decide (b.fin≠2),()))
  {p3:Blk×Int×Int×Unit→Bool} {f3:Blk×Int×Int×Unit→Bool×Unit} (hp3:∀b x n,0≤n→n≤b.ops.length→b.ops.length<1000000000→p3 (b,x,n,())=true) (hf3:∀b x n,0≤n→n≤b.ops.length→b.ops.length<1000000000→f3 (b,x,n,())=(bp (Vl b.ops x n),()))
  {p4:Int×Unit→Bool} {f4:Int×Unit→Bool×Unit} (hp4:∀a,p4 (a,())=true) (hf4:∀a,f4 (a,())=(inB a 0 65535,()))
  {p1:Int×Int×Int×Unit→Bool} {f1:Int×Int×Int×Unit→Bool×Unit} (hp1:∀a b c,p1 (a,b,c,())=true) (hf1:∀a b c,f1 (a,b,c,())=(inB a b c,())) (b:Blk) (h2:b.ops.length<1000000000):
  Xv (std 0) p2 f2 p3 f3 p4 f4 p1 f1 (b,()) (fun y=>y=(bp (y9 b),())):=by
 have Ry:=fun x=>hp3 b x b.ops.length (by omega) (Int.le_refl _) h2
 have Rz:=fun x=>hf3 b x b.ops.length (by omega) (Int.le_refl _) h2
 dsimp only [Xv,Alg.cl,Alg.cg,Alg.rb,Alg.bd,Alg.l1,Tup.q,Tup.o]
 simp (disch:=omega) only [RR,RB,hp1,hf1,hp2,hf2,Ry,Rz,hp4,hf4]
 refine Prod.ext ?_ rfl
 dsimp only
 rw [Bool.eq_iff_iff,bg,IB]
 simp only [Bool.and_eq_true,Bool.or_eq_true,Bool.not_eq_true',decide_eq_true_eq,decide_eq_false_iff_not,bg,dz,and_assoc]
theorem an9 {p2:Blk×Unit→Bool} {f2:Blk×Unit→Bool×Unit} (hp2:∀b,b.ops.length<1000000000→p2 (b,())=true) (hf2:∀b,b.ops.length<1000000000→f2 (b,())=(bp (y9 b),()))
  {p3:Blk×Int×Unit→Bool} {f3:Blk×Int×Unit→Bool×Unit} (hp3:∀(b:Blk) (i:Int),0≤i→i<b.ops.length→b.ops.length<1000000000→1≤b.len∧b.len≤8→p3 (b,i,())=true) (hf3:∀(b:Blk) (i:Int),0≤i→i<b.ops.length→b.ops.length<1000000000→1≤b.len∧b.len≤8→f3 (b,i,())=(bp (JM b.ops b.len i ((b.ops).getD (i).toNat default)),()))
  {p1:Int×Int×Int×Unit→Bool} {f1:Int×Int×Int×Unit→Bool×Unit} (hp1:∀a b c,p1 (a,b,c,())=true) (hf1:∀a b c,f1 (a,b,c,())=(inB a b c,())) (b:Blk) (h2:b.ops.length<1000000000):
  Xy (std 0) p2 f2 p3 f3 p1 f1 (b,()) (fun y=>y=(bp (kW b),())):=by
 dsimp only [Xy,Alg.cl,Alg.cg,Alg.rb,Alg.bd,Alg.l1,Tup.q,Tup.o]
 simp (disch:=omega) only [RR,RB,hp1,hf1]
 by_cases hl:1≤b.len∧b.len≤8
 ·have hl':=dz.2 hl
  simp (disch:=omega) only [RR,hl',dz,mV]
  refine⟨fun h=> ?_,fun h=> ?_⟩
  ·rw [cZ (fun g=> ?_)]
   have g1:=g.pc
   have g2:=g.sz
   omega
  ·refine au (fun(y:Int×Int×Blk×Unit)=>y.1=b.ops.length∧y.2.2.1=b∧0≤y.2.1∧y.2.1≤b.ops.length∧All y.2.1 (fun i=>JM b.ops b.len i ((b.ops).getD (i).toNat default))) (fun y=>(b.ops.length-y.2.1).toNat) ⟨rfl,rfl,by simp,by simp,All.zero⟩ ?_
   rintro⟨(n:Int),(i:Int),(b':Blk),⟨⟩⟩ hI
   dsimp only at hI ⊢
   obtain⟨rfl,rfl,h3,h4,h5⟩:=hI
   simp (disch:=omega) only [RR,hp2 b' h2,hf2 b' h2]
   refine⟨fun h6=>⟨hp3 b' i h3 h6 h2 hl,?_⟩,fun h6=> ?_⟩
   ·rw [hf3 b' i h3 h6 h2 hl]
    dsimp only
    refine⟨fun h7=> ?_,fun h7=>⟨⟨by omega,by omega,h5.snoc (bg.1 h7)⟩,by omega⟩⟩
    rw [cZ (fun g=>jd.1 h7 (g.op i h3 h6))]
   ·by_cases he:y9 b'
    ·rw [dH he,dH (show kW b' from⟨hl,by omega,by omega,fun j j1 j2=>h5 j j1 (by omega),he⟩)]
    ·rw [cZ he,cZ (fun g=>he g.en)]
 ·have hl':=mV.2 hl
  simp (disch:=omega) only [RR,hl']
  rw [cZ (fun g=>hl g.ln)]
  exact⟨rfl,fun h=>h.1.1.elim⟩
end Go.TX.F
namespace Go.TX.F
open Go Go.AE Go.TX
theorem ahy {p1:Int×Int×Int×Unit→Bool} {f1:Int×Int×Int×Unit→Bool×Unit} (hp1:∀a b c,p1 (a,b,c,())=true) (hf1:∀a b c,f1 (a,b,c,())=(inB a b c,())) (k:Int):
  PO (std 0) p1 f1 (k,()) (fun y=>y=(decide ((1≤k∧k≤4)∨k=6),())):=by
 dsimp only [PO,Alg.cl,Alg.cg,Alg.rb,Alg.bd,Alg.l1,Tup.q,Tup.o]
 simp (disch:=omega) only [RR,hp1,hf1]
 refine Prod.ext ?_ rfl
 rw [Bool.eq_iff_iff];simp [inB]
theorem ahz {p1:Int×Unit→Bool} {f1:Int×Unit→Bool×Unit} (hp1:∀k,p1 (k,())=true) (hf1:∀k,f1 (k,())=(decide ((1≤k∧k≤4)∨k=6),())) (ops:List IOp) (x n:Int) (h1:n≤ops.length):
  PS (std 0) p1 f1 (ops,x,n,()) (fun y=>y=(bp (Vl ops x n),())):=by
 dsimp only [PS,Alg.cl,Alg.cg,Alg.rb,Alg.bd,Alg.l1,Tup.q,Tup.o]
 simp (disch:=omega) only [RR,RB,hp1,hf1]
 refine⟨by simp only [Bool.and_eq_false_iff,decide_eq_false_iff_not];omega,by simp only [Bool.and_eq_false_iff,decide_eq_false_iff_not];omega,?_⟩
 refine Prod.ext ?_ rfl
 dsimp only
 rw [Bool.eq_iff_iff,bg,Bool.and_eq_true,Bool.and_eq_true,decide_eq_true_eq,decide_eq_true_eq,decide_eq_true_eq,and_assoc]
 rfl
theorem ahA {p4:Int×Unit→Bool} {f4:Int×Unit→Bool×Unit} (hp4:∀a,p4 (a,())=true) (hf4:∀a,f4 (a,())=(inB a 0 65535,()))
  {p1:Int×Int×Int×Unit→Bool} {f1:Int×Int×Int×Unit→Bool×Unit} (hp1:∀a b c,p1 (a,b,c,())=true) (hf1:∀a b c,f1 (a,b,c,())=(inB a b c,()))
  {p3:List IOp×Int×Int×Unit→Bool} {f3:List IOp×Int×Int×Unit→Bool×Unit} (hp3:∀(ops:List IOp) (x n:Int),n≤ops.length→p3 (ops,x,n,())=true) (hf3:∀(ops:List IOp) (x n:Int),n≤ops.length→f3 (ops,x,n,())=(bp (Vl ops x n),()))
  (ops:List IOp) (i len:Int) (h0:0≤i) (h1:i<ops.length) (h3:1≤len∧len≤8):PU (std 0) p4 f4 p1 f1 p3 f3 (ops,i,len,()) (fun y=>y=(bp (JM ops len i ((ops).getD (i).toNat default)),())):=by
 have Ry:=fun x=>hp3 ops x i (by omega)
 have Rz:=fun x=>hf3 ops x i (by omega)
 have e:∀ {a:Int},(0≤a∧a≤len-1)↔(0≤a∧a<len):=fun {a}=>by omega
 dsimp only [PU,Alg.cl,Alg.cg,Alg.rb,Alg.bd,Alg.l1,Tup.q,Tup.o]
 simp (disch:=omega) only [RR,RB,hp1,hf1,Ry,Rz,hp4,hf4]
 refine⟨by omega,by omega,?_⟩
 rw [show bp (JM ops len i ((ops).getD (i).toNat default))=bp (_)from o9 Oo]
 generalize ((ops).getD (i).toNat default)=o
 have go:∀ {c:Bool} {P:Prop},(c=true↔P)→(c,())=(bp P,()):=fun {c P} h=>Prod.ext (by dsimp only;rw [Bool.eq_iff_iff,bg];exact h) rfl
 refine⟨fun c=> ?_,fun c1=>⟨fun c=> ?_,fun c2=>⟨fun c=> ?_,fun c3=> ?_⟩⟩⟩
 ·refine go ?_
  simp only [Bool.and_eq_true,decide_eq_true_eq,bg,dz,c,hX,hY,hK,evO,e]
  simp [and_assoc]
 ·refine go ?_
  simp only [Bool.and_eq_true,decide_eq_true_eq,bg,dz,c,hX,hY,hK,evO,e]
  simp [and_assoc]
 ·refine go ?_
  simp only [Bool.and_eq_true,decide_eq_true_eq,bg,dz,c,hX,hY,hK,evO,e]
  simp [and_assoc]
 ·by_cases c4:o.kind=4∨o.kind=7
  ·have c5:o.kind≠8:=by omega
   rcases c4 with c | c<;>simp (disch:=omega) only [RR,c,Int.reduceEq]<;>(refine go ?_)<;>simp only [Bool.and_eq_true,decide_eq_true_eq,bg,dz,c,hX,hY,hK,evO,e]<;>simp [and_assoc]
  ·by_cases c:o.kind=5
   ·simp (disch:=omega) only [RR,c,Int.reduceEq]
    refine go ?_
    simp only [Bool.and_eq_true,decide_eq_true_eq,bg,dz,c,hX,hY,hK,evO,e]
    simp [and_assoc]
   ·by_cases c':o.kind=6
    ·simp (disch:=omega) only [RR,c',Int.reduceEq]
     refine go ?_
     simp only [Bool.and_eq_true,decide_eq_true_eq,bg,dz,c',hX,hY,hK,evO,e]
     simp [and_assoc]
    ·by_cases c8:o.kind=8
     ·simp (disch:=omega) only [RR,c8,Int.reduceEq]
      refine go ?_
      simp only [Bool.and_eq_true,decide_eq_true_eq,bg,dz,c8,hX,hY,hK,evO,e]
      simp [and_assoc]
     ·have n4:¬o.kind=4:=fun h=>c4 (Or.inl h)
      have n7:¬o.kind=7:=fun h=>c4 (Or.inr h)
      simp (disch:=omega) only [RR,n4,n7,c,c',c8]
      rw [cZ (fun h=>by have:=h.1;omega)]
theorem ahB {p4:Int×Unit→Bool} {f4:Int×Unit→Bool×Unit} (hp4:∀a,p4 (a,())=true) (hf4:∀a,f4 (a,())=(inB a 0 65535,()))
  {p3:List IOp×Int×Int×Unit→Bool} {f3:List IOp×Int×Int×Unit→Bool×Unit} (hp3:∀(ops:List IOp) (x n:Int),n≤ops.length→p3 (ops,x,n,())=true) (hf3:∀(ops:List IOp) (x n:Int),n≤ops.length→f3 (ops,x,n,())=(bp (Vl ops x n),()))
  (b:Blk):PW (std 0) p4 f4 p3 f3 (b,()) (fun y=>y=(bp (y9 b),())):=by
 have Ry:=fun x=>hp3 b.ops x b.ops.length (Int.le_refl _)
 have Rz:=fun x=>hf3 b.ops x b.ops.length (Int.le_refl _)
 dsimp only [PW,Alg.cl,Alg.cg,Alg.rb,Alg.bd,Alg.l1,Tup.q,Tup.o]
 simp (disch:=omega) only [RR,RB,Ry,Rz,hp4,hf4]
 rw [show bp (y9 b)=bp (_)from o9 IB]
 have go:∀ {c:Bool} {P:Prop},(c=true↔P)→(c,())=(bp P,()):=fun {c P} h=>Prod.ext (by dsimp only;rw [Bool.eq_iff_iff,bg];exact h) rfl
 refine⟨fun c=> ?_,fun c1=>⟨fun c=> ?_,fun c2=> ?_⟩⟩
 ·refine go ?_
  simp only [Bool.and_eq_true,decide_eq_true_eq,bg,dz,c]
  simp [and_assoc]
 ·refine go ?_
  simp only [Bool.and_eq_true,decide_eq_true_eq,bg,dz,c]
  simp [and_assoc]
 ·by_cases c:b.fin=3
  ·simp (disch:=omega) only [RR,c,Int.reduceEq]
   refine go ?_
   simp only [Bool.and_eq_true,decide_eq_true_eq,bg,dz,c]
   simp [and_assoc]
  ·by_cases c4:b.fin=4
   ·simp (disch:=omega) only [RR,c4,Int.reduceEq]
    refine go ?_
    simp only [Bool.and_eq_true,decide_eq_true_eq,bg,dz,c4]
    simp [and_assoc]
   ·simp (disch:=omega) only [RR,c,c4]
    rw [cZ (fun h=>by have:=h.1;omega)]
theorem ahC {p1:Int×Int×Int×Unit→Bool} {f1:Int×Int×Int×Unit→Bool×Unit} (hp1:∀a b c,p1 (a,b,c,())=true) (hf1:∀a b c,f1 (a,b,c,())=(inB a b c,()))
  {p2:Blk×Unit→Bool} {f2:Blk×Unit→Bool×Unit} (hp2:∀b,p2 (b,())=true) (hf2:∀b,f2 (b,())=(bp (y9 b),()))
  {p3:List IOp×Int×Int×Unit→Bool} {f3:List IOp×Int×Int×Unit→Bool×Unit} (hp3:∀(ops:List IOp) (i len:Int),0≤i→i<ops.length→1≤len∧len≤8→p3 (ops,i,len,())=true) (hf3:∀(ops:List IOp) (i len:Int),0≤i→i<ops.length→1≤len∧len≤8→f3 (ops,i,len,())=(bp (JM ops len i ((ops).getD (i).toNat default)),())) (b:Blk) (h2:b.ops.length<1000000000):
  PX (std 0) p1 f1 p2 f2 p3 f3 (b,()) (fun y=>y=(bp (kW b),())):=by
 dsimp only [PX,Alg.cl,Alg.cg,Alg.rb,Alg.bd,Alg.l1,Tup.q,Tup.o]
 simp (disch:=omega) only [RR,RB,hp1,hf1]
 by_cases hl:1≤b.len∧b.len≤8
 ·have hl':=dz.2 hl
  simp (disch:=omega) only [RR,hl',dz,mV]
  refine⟨fun h=> ?_,fun h=> ?_⟩
  ·rw [cZ (fun g=> ?_)]
   have g1:=g.pc
   have g2:=g.sz
   omega
  ·refine au (fun(y:Int×Blk×Unit)=>y.2.1=b∧0≤y.1∧y.1≤b.ops.length∧All y.1 (fun i=>JM b.ops b.len i ((b.ops).getD (i).toNat default))) (fun y=>(b.ops.length-y.1).toNat) ⟨rfl,by simp,by simp,All.zero⟩ ?_
   rintro⟨(i:Int),(b':Blk),⟨⟩⟩ hI
   dsimp only at hI ⊢
   obtain⟨rfl,h3,h4,h5⟩:=hI
   simp (disch:=omega) only [RR,hp2 b',hf2 b']
   refine⟨fun h6=>⟨hp3 b'.ops i b'.len h3 h6 hl,?_⟩,fun h6=> ?_⟩
   ·rw [hf3 b'.ops i b'.len h3 h6 hl]
    dsimp only
    refine⟨fun h7=> ?_,fun h7=>⟨⟨by omega,by omega,h5.snoc (bg.1 h7)⟩,by omega⟩⟩
    rw [cZ (fun g=>jd.1 h7 (g.op i h3 h6))]
   ·by_cases he:y9 b'
    ·rw [dH he,dH (show kW b' from⟨hl,by omega,by omega,fun j j1 j2=>h5 j j1 (by omega),he⟩)]
    ·rw [cZ he,cZ (fun g=>he g.en)]
 ·have hl':=mV.2 hl
  simp (disch:=omega) only [RR,hl']
  rw [cZ (fun g=>hl g.ln)]
  exact⟨rfl,fun h=>h.1.1.elim⟩
theorem aoa {p4:Int×Unit→Bool} {f4:Int×Unit→Bool×Unit} (hp4:∀a,p4 (a,())=true) (hf4:∀a,f4 (a,())=(inB a 0 65535,())) (r a b:Int):
  YM (std 0) p4 f4 (r,a,b,()) (fun y=>y=(inB a 0 65535&&inB b 0 65535&& (decide (r=1∧a=b∨r=2∧a<b)),())):=by
 dsimp only [YM,Alg.cl,Alg.cg,Alg.rb,Alg.bd,Alg.l1,Tup.q,Tup.o]
 simp (disch:=omega) only [RR,hp4,hf4]
 refine Prod.ext ?_ rfl
 rw [Bool.eq_iff_iff];simp
theorem aob {p1:List aj×Unit→Bool} {f1:List aj×Unit→List aj×Unit} (hp1:∀a,Sh a→p1 (a,())=true) (hf1:∀a,Sh a→f1 (a,())=(a,())) (a:List (List aj)) (ha:ShP a):
  YK (std 0) p1 f1 (a,()) (fun y=>y=(a,())):=by
 have hlen:=ha.1
 dsimp only [YK,Alg.cl,Alg.cg,Alg.rb,Alg.bd,Alg.l1,Tup.q,Tup.o]
 refine au (fun(y:List (List aj)×Int×Int×List (List aj)×Unit)=>y.1=a∧y.2.1=a.length∧y.2.2.2.1=a.take y.2.2.1.toNat∧0≤y.2.2.1∧y.2.2.1≤a.length) (fun y=>(a.length-y.2.2.1).toNat) ⟨rfl,rfl,by simp,by simp,by simp⟩ ?_
 rintro⟨(l:List (List aj)),(m:Int),(i:Int),(o:List (List aj)),⟨⟩⟩ hI
 dsimp only at hI ⊢
 obtain⟨rfl,rfl,rfl,h1,h2⟩:=hI
 simp (disch:=omega) only [RR,hp1 _ (ha.at _),hf1 _ (ha.at _)]
 refine⟨fun h4=>⟨by omega,by omega,?_,⟨bU h1 h4 rfl,by omega,by omega⟩,by omega⟩,fun h4=>by rw [List.take_of_length_le (by omega)]⟩
 have:=List.length_take_le' i.toNat l
 simp only [List.length_cons,List.length_nil];omega
theorem aoc {p1:List aj×Unit→Bool} {f1:List aj×Unit→List aj×Unit} (hp1:∀a,Sh a→p1 (a,())=true) (hf1:∀a,Sh a→f1 (a,())=(a,()))
  {p2:List (List aj)×Unit→Bool} {f2:List (List aj)×Unit→List (List aj)×Unit} (hp2:∀a,ShP a→p2 (a,())=true) (hf2:∀a,ShP a→f2 (a,())=(a,())) (s:Sym) (hs:ShY s):
  YL (std 0) p1 f1 p2 f2 (s,()) (fun y=>y=(s.fin,s.k,s.events,s.regs,s.x,s.y,())):=by
 have hlen:=hs.e.1
 dsimp only [YL,Alg.cl,Alg.cg,Alg.rb,Alg.bd,Alg.l1,Tup.q,Tup.o]
 simp (disch:=omega) only [RR,RB,hp1 _ hs.x,hf1 _ hs.x,hp1 _ hs.y,hf1 _ hs.y,hp2 _ hs.r,hf2 _ hs.r]
 refine au (fun(y:List Ev×Int×Int×Int×Int×Int×Int×List Ev×List (List aj)×List aj×List aj×Unit)=>y.1=s.events∧y.2.1=s.events.length∧y.2.2.2.2.2.1=s.fin∧y.2.2.2.2.2.2.1=s.k∧y.2.2.2.2.2.2.2.1=s.events.take y.2.2.1.toNat∧y.2.2.2.2.2.2.2.2.1=s.regs∧y.2.2.2.2.2.2.2.2.2.1=s.x∧y.2.2.2.2.2.2.2.2.2.2.1=s.y∧0≤y.2.2.1∧y.2.2.1≤s.events.length) (fun y=>(s.events.length-y.2.2.1).toNat) ⟨rfl,rfl,rfl,rfl,by simp,rfl,rfl,rfl,by simp,by simp⟩ ?_
 rintro⟨(l:List Ev),(m:Int),(i:Int),(q1:Int),(q2:Int),(q3:Int),(q4:Int),(o:List Ev),(r:List (List aj)),(u:List aj),(v:List aj),⟨⟩⟩ hI
 dsimp only at hI ⊢
 obtain⟨rfl,rfl,rfl,rfl,rfl,rfl,rfl,rfl,h1,h2⟩:=hI
 have he:=hs.e.at i.toNat
 simp (disch:=omega) only [RR,RB,hp1 _ he.1,hf1 _ he.1,hp1 _ he.2.1,hf1 _ he.2.1,hp2 _ he.2.2,hf2 _ he.2.2]
 refine⟨fun h4=>⟨by omega,by omega,?_,⟨bU h1 h4 rfl,by omega,by omega⟩,by omega⟩,fun h4=>by rw [List.take_of_length_le (by omega)]⟩
 have:=List.length_take_le' i.toNat s.events
 simp only [List.length_cons,List.length_nil];omega
end Go.TX.F
namespace Go.TX.F
open Go Go.AE Go.TX
theorem aod {p1:Int×Unit→Bool} {f1:Int×Unit→List aj×Unit} (hp1:∀n,p1 (n,())=true) (hf1:∀n,f1 (n,())=(fE n,()))
  {p2:List Atom×Atom×Unit→Bool} {f2:List Atom×Atom×Unit→List Atom×Int×Unit} (hp2:∀(t:List Atom) a,t.length<1000000000→ShA a→p2 (t,a,())=true) (hf2:∀(t:List Atom) a,t.length<1000000000→ShA a→f2 (t,a,())=((aX t a).1,(aX t a).2,()))
  (kd k:Int) (t:List Atom) (fl:Bool) (ht:t.length<1000000000):
  X6 (std 0) p1 f1 p2 f2 (kd,k,t,fl,()) (fun y=>y=if(aX t ⟨kd,k,[],[]⟩).2<0 then([],t,true,())else(fE (aX t ⟨kd,k,[],[]⟩).2,(aX t ⟨kd,k,[],[]⟩).1,fl,())):=by
 have sa:ShA ⟨kd,k,[],[]⟩:=⟨mX,mX⟩
 dsimp only [X6,Alg.cl,Alg.cg,Alg.rb,Alg.bd,Alg.l1,Tup.q,Tup.o]
 simp (disch:=omega) only [RR,hp1,hf1,hp2 _ _ ht sa,hf2 _ _ ht sa]
 exact⟨fun h=>by rw [if_pos h],fun h=>by rw [if_neg h]⟩
theorem Ci (t:List Atom) (n:Nat):rN t (n+1)=((aX (rN t n).1 ⟨1,n,[],[]⟩).1,(rN t n).2++ [fE (aX (rN t n).1 ⟨1,n,[],[]⟩).2]):=rfl
theorem aoe {p1:Int×Int×List Atom×Bool×Unit→Bool} {f1:Int×Int×List Atom×Bool×Unit→List aj×List Atom×Bool×Unit} (hp1:∀kd k (t:List Atom) fl,t.length<1000000000→p1 (kd,k,t,fl,())=true)
  (hf1:∀kd k (t:List Atom) fl,t.length<1000000000→f1 (kd,k,t,fl,())=if(aX t ⟨kd,k,[],[]⟩).2<0 then([],t,true,())else(fE (aX t ⟨kd,k,[],[]⟩).2,(aX t ⟨kd,k,[],[]⟩).1,fl,()))
  (t:List Atom) (fl:Bool) (ht:aF t) (hl:t.length≤196):Yb (std 0) p1 f1 (t,fl,()) (fun y=>y=((rN t 4).1,fl,(rN t 4).2,())):=by
 dsimp only [Yb,Alg.cl,Alg.cg,Alg.rb,Alg.bd,Alg.l1,Tup.q,Tup.o]
 refine au (fun(y:Int×List Atom×Bool×List (List aj)×Unit)=>0≤y.1∧y.1≤4∧y.2.2.1=fl∧y.2.1=(rN t y.1.toNat).1∧y.2.2.2.1=(rN t y.1.toNat).2) (fun y=>(4-y.1).toNat) ⟨by simp,by simp,rfl,rfl,rfl⟩ ?_
 rintro⟨(i:Int),(u:List Atom),(g:Bool),(r:List (List aj)),⟨⟩⟩ hI
 dsimp only at hI ⊢
 obtain⟨h1,h2,rfl,rfl,rfl⟩:=hI
 have ok:=BF ht hl i.toNat (by omega)
 have l1:=ok.tl
 have l2:=ok.r4
 simp (disch:=omega) only [RR,hp1 _ _ (rN t i.toNat).1 _ (by omega),hf1 _ _ (rN t i.toNat).1 _ (by omega),List.length_cons,List.length_nil]
 refine⟨fun h3=> ?_,fun h3=> ?_⟩
 ·have hp:=JN ht hl (n:=i.toNat) (by omega)
  rw [show((i.toNat:Nat):Int)=i by omega]at hp
  rw [if_neg (by omega)]
  have e:(i+1).toNat=i.toNat+1:=by omega
  have e2:((i.toNat:Nat):Int)=i:=by omega
  refine⟨by omega,⟨by omega,by omega,rfl,?_,?_⟩,by omega⟩
  ·rw [e,Ci,e2]
  ·rw [e,Ci,e2]
 ·rw [show i.toNat=4 by omega]
theorem aof (a:List (List aj)) (h0:0<a.length) (h1:a.length<1000000000):Yo (std 0) (a,()) (fun y=>y=(a,a,())):=by
 dsimp only [Yo,Alg.cl,Alg.cg,Alg.rb,Alg.bd,Alg.l1,Tup.q,Tup.o]
 simp (disch:=omega) only [RR,List.length_nil]
 exact⟨by omega,by omega,rfl⟩
theorem aog {p2:List Atom×Unit→Bool} {f2:List Atom×Unit→List Atom×Unit} (hp2:∀a,ShT a→p2 (a,())=true) (hf2:∀a,ShT a→f2 (a,())=(a,()))
  {p1:List Atom×Bool×Unit→Bool} {f1:List Atom×Bool×Unit→List Atom×Bool×List (List aj)×Unit} (hp1:∀(t:List Atom) fl,aF t→t.length≤196→p1 (t,fl,())=true) (hf1:∀(t:List Atom) fl,aF t→t.length≤196→f1 (t,fl,())=((rN t 4).1,fl,(rN t 4).2,())):
  Yh (std 0) p2 f2 p1 f1 () (fun y=>y.1=t4):=by
 have s4:ShT t4:=Ug.1.sh
 unfold t4 at s4 ⊢
 dsimp only [Yh,Alg.cl,Alg.cg,Alg.rb,Alg.bd,Alg.l1,Tup.q,Tup.o]
 simp (disch:=omega) only [RR,hp1 [] false vF (by simp),hf1 [] false vF (by simp),hp2 _ s4,hf2 _ s4]
theorem aoh {p1:List aj×Unit→Bool} {f1:List aj×Unit→Int×Bool×Unit} (hp1:∀a,Sh a→p1 (a,())=true) (hf1:∀a,Sh a→f1 (a,())=((bM a).1,(bM a).2,()))
  {p2:List aj×Unit→Bool} {f2:List aj×Unit→Bool×Unit} (hp2:∀a,Sh a→p2 (a,())=true) (hf2:∀a,Sh a→f2 (a,())=(bp (aL a),()))
  {p3:List aj×List aj×Unit→Bool} {f3:List aj×List aj×Unit→Int×Unit} (hp3:∀a b,Sh a→p3 (a,b,())=true) (hf3:∀a b,Sh a→f3 (a,b,())=(eU a b,()))
  {p4:Sym×Unit→Bool} {f4:Sym×Unit→Int×Int×List Ev×List (List aj)×List aj×List aj×Unit} (hp4:∀s,ShY s→p4 (s,())=true) (hf4:∀s,ShY s→f4 (s,())=(s.fin,s.k,s.events,s.regs,s.x,s.y,()))
  {p5:List aj×List aj×Unit→Bool} {f5:List aj×List aj×Unit→Bool×Unit} (hp5:∀a b,Sh a→p5 (a,b,())=true) (hf5:∀a b,Sh a→f5 (a,b,())=(decide (eU a b=0),()))
  {p6:Int×Int×Int×Unit→Bool} {f6:Int×Int×Int×Unit→Bool×Unit} (hp6:∀r a b,p6 (r,a,b,())=true) (hf6:∀r a b,f6 (r,a,b,())=(inB a 0 65535&&inB b 0 65535&& (decide (r=1∧a=b∨r=2∧a<b)),()))
  (s:Sym) (n:Int) (hs:ShY s) (h0:0≤s.fin) (h1:s.fin≤4):YN (std 0) p1 f1 p2 f2 p3 f3 p4 f4 p5 f5 p6 f6 (s,n,()) (fun y=>y=(symEnd s n,())):=by
 dsimp only [YN,Alg.cl,Alg.cg,Alg.rb,Alg.bd,Alg.l1,Tup.q,Tup.o]
 simp (disch:=omega) only [RR,RB,hp1 _ hs.x,hf1 _ hs.x,hp1 _ hs.y,hf1 _ hs.y,hp2 _ hs.x,hf2 _ hs.x,hp2 _ hs.y,hf2 _ hs.y,hp3 _ _ hs.x,hf3 _ _ hs.x,hp4 s hs,hf4 s hs,hp5 _ _ hs.x,hf5 _ _ hs.x,hp6,hf6]
 have xy:eU s.x s.y=0↔s.x=s.y:=iG
 have rx:(bM s.x).2=true→inB (bM s.x).1 0 65535=true:=fun h=>dz.2 (ru h).2.2
 have ry:(bM s.y).2=true→inB (bM s.y).1 0 65535=true:=fun h=>dz.2 (ru h).2.2
 unfold symEnd
 refine⟨fun h=> ?_,fun h=>⟨fun g=> ?_,fun g=>⟨fun k=> ?_,fun k=>⟨fun l=>⟨fun m=> ?_,fun m=> ?_⟩,fun l=>⟨fun m=> ?_,fun m=> ?_⟩⟩⟩⟩⟩
 ·rw [if_pos (by rw [o8,Bool.and_eq_false_iff];exact h)];rfl
 all_goals rw [if_neg (by rw [o8,h.1,h.2];simp)]
 ·rw [if_pos g]
 all_goals rw [if_neg (show¬(s.fin=2∧(bM s.x).2=true) by
  rintro⟨a,b⟩;rw [decide_eq_true a,b]at g;cases g)]
 ·rw [if_pos k]
 all_goals rw [if_neg (show¬(s.fin≠3∧s.fin≠4) by
  rintro⟨a,b⟩;rw [decide_eq_false a,decide_eq_false b]at k;cases k)]
 ·rw [if_pos (by rw [←xy];exact l),if_neg]
  rintro(⟨q1,q2⟩ | ⟨⟨q1,q2⟩,q3⟩)
  ·have:=m.1;rw [decide_eq_true (xy.2 q1),decide_eq_true q2]at this;cases this
  ·have:=m.2
   rw [q1,q2,rx q1,ry q2,decide_eq_true (by omega)]at this;cases this
 ·rw [if_pos (by rw [←xy];exact l),if_pos]
  rcases m with⟨q1,q2⟩ | ⟨q1,_,q3⟩
  ·exact Or.inl ⟨xy.1 q1,q2⟩
  ·exact Or.inr ⟨q1,by omega⟩
 all_goals rw [if_neg (show¬(s.x=s.y∨(bM s.x).2=true∧(bM s.y).2=true) by
  rintro(q | ⟨q1,q2⟩)
  ·exact l.1 (xy.2 q)
  ·have:=l.2;rw [q1,q2]at this;cases this)]
 ·rw [if_pos m]
 ·rw [if_neg]
  rintro⟨a,b⟩;rw [decide_eq_true a,decide_eq_true b]at m;cases m
end Go.TX.F
namespace Go.TX.F
open Go Go.AE Go.TX
noncomputable def SW (t:List Atom) (b:Blk) (i:Nat):SS:=(b.ops.take i).foldl stp (s0 t)
structure At (t:List Atom) (b:Blk) (i:Nat) (ld inn:Int) (tb:List Atom) (V:List (List aj)) (ev:List Ev) (rg:List (List aj)):Prop where
 ld:ld=(SW t b i).ld
 inn:inn=(SW t b i).inn
 tb:tb=(SW t b i).t
 V:V=(SW t b i).vals++List.replicate (b.ops.length-i) []
 ev:ev=(SW t b i).evs
 rg:rg=(SW t b i).regs
theorem At.arB {t:List Atom} {b:Blk} {i:Nat} {ld inn:Int} {tb:List Atom} {V:List (List aj)} {ev:List Ev} {rg:List (List aj)} (h:At t b i ld inn tb V ev rg) (hv:(SW t b i).vals.length=i) (hi:i≤b.ops.length):V.length=b.ops.length:=by
 rw [h.V,List.length_append,List.length_replicate,hv];omega
theorem Uh (t:List Atom):∀(l:List IOp) (s:SS),(l.foldl stp s).evs.length≤s.evs.length+l.length
 | [],s=>Nat.le_refl _
 | o::r,s=>by
  rw [List.foldl_cons,List.length_cons]
  have h1:=Uh t r (stp s o)
  have h2:(stp s o).evs.length≤s.evs.length+1:=by
   show(nE s o).length≤_
   unfold nE;split
   ·rw [List.length_append];exact Nat.le_refl _
   ·omega
  omega
theorem Zx {t:List Atom} {b:Blk} (i:Nat) (hi:i≤b.ops.length):(SW t b i).evs.length≤i:=by
 have:=Uh t (b.ops.take i) (s0 t)
 rw [List.length_take,Nat.min_eq_left hi]at this
 show((b.ops.take i).foldl stp (s0 t)).evs.length≤i
 have e:(s0 t).evs.length=0:=rfl
 omega
theorem Ui {t:List Atom} {b:Blk} {i:Nat} (hi:i<b.ops.length):SW t b (i+1)=stp (SW t b i) (b.ops.getD i default):=by
 unfold SW;rw [Rx _ _ hi,getD_lt hi]
theorem At.next {t:List Atom} {b:Blk} {i:Nat} {ld inn:Int} {tb:List Atom} {V:List (List aj)} {ev:List Ev} {rg:List (List aj)} (h:At t b i ld inn tb V ev rg) (hv:(SW t b i).vals.length=i) (hi:i<b.ops.length) {o:IOp} (ho:b.ops.getD i default=o)
  {ld' Zy:Int} {tb':List Atom} {V':List (List aj)} {ev':List Ev} {rg':List (List aj)} (h1:ld'=if o.kind=4 then ld+1 else ld) (h2:Zy=if o.kind=6 then inn+1 else inn) (h3:tb'=nT (SW t b i) o) (h4:V'=V.set i (nV (SW t b i) o)) (h5:ev'=nE (SW t b i) o) (h6:rg'=nR (SW t b i) o):At t b (i+1) ld' Zy tb' V' ev' rg':=by
 have e:=Ui (t:=t) hi
 rw [ho]at e
 refine⟨?_,?_,?_,?_,?_,?_⟩<;>rw [e]
 ·rw [h1,h.ld];rfl
 ·rw [h2,h.inn];rfl
 ·exact h3
 ·rw [h4,h.V]
  show _=((SW t b i).vals++ [nV (SW t b i) o])++_
  rw [List.set_append_right _ _ (by omega),hv,Nat.sub_self,show b.ops.length-i=(b.ops.length- (i+1))+1 by omega,List.replicate_succ,List.set_cons_zero,List.append_assoc];rfl
 ·exact h5
 ·exact h6
set_option maxHeartbeats 1000000 in
theorem aoi {p1:Blk×Unit→Bool} {f1:Blk×Unit→Bool×Bool×Bool×Unit} (hp1:∀b,p1 (b,())=true) (hf1:∀b,f1 (b,())=(decide (b.fin≠1),decide (3≤b.fin),decide (b.fin≠2),()))
  {p2:Blk×Unit→Bool} {f2:Blk×Unit→Bool×Unit} (hp2:∀b,b.ops.length<1000000000→p2 (b,())=true) (hf2:∀b,b.ops.length<1000000000→f2 (b,())=(bp (kW b),()))
  {p3:IOp×Unit→Bool} {f3:IOp×Unit→Bool×Unit} (hp3:∀o,p3 (o,())=true) (hf3:∀o,f3 (o,())=(decide (evO o),()))
  {p4:IOp×Unit→Bool} {f4:IOp×Unit→Bool×Bool×Bool×Bool×Unit} (hp4:∀o,p4 (o,())=true) (hf4:∀o,f4 (o,())=(decide (hX o),decide (hY o),decide (hK o),decide (evO o),()))
  {p5:Int×Unit→Bool} {f5:Int×Unit→List aj×Unit} (hp5:∀n,p5 (n,())=true) (hf5:∀n,f5 (n,())=(dw n,()))
  {p6:Sym×Int×Unit→Bool} {f6:Sym×Int×Unit→Sym×Unit} (hp6:∀s n,ShY s→0≤s.fin→s.fin≤4→p6 (s,n,())=true) (hf6:∀s n,ShY s→0≤s.fin→s.fin≤4→f6 (s,n,())=(symEnd s n,()))
  {p7:List Atom×Unit→Bool} {f7:List Atom×Unit→Bool×Unit} (hp7:∀a,ShT a→p7 (a,())=true) (hf7:∀a,ShT a→f7 (a,())=(bp (aF a),()))
  {p8:List Atom×Unit→Bool} {f8:List Atom×Unit→List Atom×Unit} (hp8:∀a,ShT a→p8 (a,())=true) (hf8:∀a,ShT a→f8 (a,())=(a,()))
  {p9:List Atom×Int×List aj×List aj×Unit→Bool} {f9:List Atom×Int×List aj×List aj×Unit→List Atom×List aj×Bool×Unit} (hp9:∀(t:List Atom) op x y,t.length<1000000000→Sh x→Sh y→p9 (t,op,x,y,())=true)
  (hf9:∀(t:List Atom) op x y,t.length<1000000000→Sh x→Sh y→(f9 (t,op,x,y,())).1=(tDo t op x y).1∧(f9 (t,op,x,y,())).2.1=(tDo t op x y).2∧(f9 (t,op,x,y,())).2.2.1=tOk t op x y)
  {p10:Int×Int×List Atom×Bool×Unit→Bool} {f10:Int×Int×List Atom×Bool×Unit→List aj×List Atom×Bool×Unit} (abQ:∀kd k (t:List Atom) fl,t.length<1000000000→p10 (kd,k,t,fl,())=true)
  (ahD:∀kd k (t:List Atom) fl,t.length<1000000000→f10 (kd,k,t,fl,())=if(aX t ⟨kd,k,[],[]⟩).2<0 then([],t,true,())else(fE (aX t ⟨kd,k,[],[]⟩).2,(aX t ⟨kd,k,[],[]⟩).1,fl,()))
  {p11:List Atom×Bool×Unit→Bool} {f11:List Atom×Bool×Unit→List Atom×Bool×List (List aj)×Unit} (abR:∀(t:List Atom) fl,aF t→t.length≤196→p11 (t,fl,())=true) (abS:∀(t:List Atom) fl,aF t→t.length≤196→f11 (t,fl,())=((rN t 4).1,fl,(rN t 4).2,()))
  {p12:List (List aj)×Unit→Bool} {f12:List (List aj)×Unit→List (List aj)×List (List aj)×Unit} (RA:∀a:List (List aj),0<a.length→a.length<1000000000→p12 (a,())=true) (RD:∀a:List (List aj),0<a.length→a.length<1000000000→f12 (a,())=(a,a,()))
  (t:List Atom) (b:Blk) (ht:ShT t) (hb:b.ops.length<1000000000):YO (std 0) p1 f1 p2 f2 p3 f3 p4 f4 p5 f5 p6 f6 p7 f7 p8 f8 p9 f9 p10 f10 p11 f11 p12 f12 (t,b,()) (fun y=>y=((bK t b).1,(bK t b).2,())):=by
 have hlt:=ht.1
 dsimp only [YO,Alg.cl,Alg.cg,Alg.rb,Alg.bd,Alg.l1,Tup.q,Tup.o]
 simp (disch:=omega) only [RR,RB,hp7 t ht,hf7 t ht,hp2 b hb,hf2 b hb]
 by_cases c:aF t∧t.length≤100∧kW b
 case neg=>
  refine⟨fun _=> ?_,fun h=> ?_⟩
  ·unfold bK;rw [cZ c];rfl
  ·exact absurd ⟨bg.1 h.1.1,by omega,bg.1 h.2⟩ c
 obtain⟨c1,c2,c3⟩:=c
 simp (disch:=omega) only [RR,dH c1,dH c3,abR t false c1 (by omega),abS t false c1 (by omega)]
 have sz:=c3.sz
 have hop:=c3.op
 have hk3:=c3.k3
 have i0:=Iy c1 (by omega)
 have siw:∀j:Nat,j≤b.ops.length→SI (t.length+4) j (SW t b j):=fun j hj=>by
  have:=(yg (b.ops.take j) 0 (s0 t) i0 (fun o ho=>hk3 o (List.mem_of_mem_take ho)) (by rw [List.length_take];omega) (by rw [List.length_take];omega)).1
  rw [List.length_take,Nat.min_eq_left hj,Nat.zero_add]at this;exact this
 refine⟨fun h=>absurd h (by omega),fun _=>⟨by omega,by omega,?_⟩⟩
 refine au (fun(y:Int×Int×List IOp×Int×Int×Blk×Int×Int×List Atom×Bool×Int×Int×List (List aj)×List Ev×List (List aj)×Unit)=>y.2.2.2.2.2.1=b∧y.2.2.1=b.ops∧y.2.2.2.1=b.ops.length∧y.2.2.2.2.2.2.2.2.2.1=false∧y.2.2.2.2.2.2.2.2.2.2.1=b.fin∧y.2.2.2.2.2.2.2.2.2.2.2.1=b.k∧
   0≤y.2.2.2.2.1∧y.2.2.2.2.1≤b.ops.length∧At t b y.2.2.2.2.1.toNat y.1 y.2.1 y.2.2.2.2.2.2.2.2.1 y.2.2.2.2.2.2.2.2.2.2.2.2.1 y.2.2.2.2.2.2.2.2.2.2.2.2.2.1 y.2.2.2.2.2.2.2.2.2.2.2.2.2.2.1) (fun y=>(b.ops.length-y.2.2.2.2.1).toNat)
  ⟨rfl,rfl,rfl,rfl,rfl,rfl,by simp,by simp,⟨rfl,rfl,rfl,rfl,rfl,rfl⟩⟩ ?_
 rintro⟨(ld:Int),(inn:Int),(ops:List IOp),(n:Int),(i:Int),(b':Blk),(z1:Int),(z2:Int),(tb:List Atom),(fl:Bool),(fin:Int),(kk:Int),(V:List (List aj)),(ev:List Ev),(rg:List (List aj)),⟨⟩⟩ hI
 dsimp only at hI ⊢
 obtain⟨e1,e2,e3,e4,e5,e6,h1,h2,hA⟩:=hI
 subst e1 e2 e3 e4 e5 e6
 have hl:V.length=b'.ops.length:=hA.arB (siw i.toNat (by omega)).vl (by omega)
 have si:=siw i.toNat (by omega)
 obtain⟨a1,a2,a3,a4,a5,a6⟩:=hA
 have tl:tb.length<1000000000:=by rw [a3];have:=si.tl;omega
 have r4:rg.length=4:=by rw [a6];exact si.r4
 have evl:ev.length≤i.toNat:=by rw [a5];exact Zx i.toNat (by omega)
 by_cases h7:i<b'.ops.length
 case neg=>
  have en:=c3.en
  have hf:=en.f
  have hpc:=c3.pc
  have hln:=c3.ln
  have ein:i.toNat=b'.ops.length:=by omega
  have eS:SW t b' i.toNat=gL t b':=by unfold SW gL;rw [ein,List.take_of_length_le (Nat.le_refl _)]
  rw [eS]at a1 a2 a3 a4 a5 a6 si
  have eV:V=(gL t b').vals:=by rw [a4,ein,Nat.sub_self];simp
  clear a4
  have pk:=JR (b:=b') si
  have eR:=rz c1 c2 c3
  have sh:ShY (za b' (gL t b')):=by
   have i0:=Iy c1 (by omega)
   have hs:=JQ b'.ops 0 (s0 t) i0 hk3 (by omega) (by omega) ⟨by simp [s0],fun e he=>absurd he (by simp [s0])⟩
   exact⟨⟨by have:=hs.1;show(b'.ops.foldl stp (s0 t)).evs.length<_;omega,hs.2⟩,si.regs,pk.1.sh,pk.2.sh⟩
  have st:=si.tok.sh
  have q6:=hp6 (za b' (gL t b')) (b'.pc+b'.len) sh (by show 0≤b'.fin;omega) hf.2
  have r6:=hf6 (za b' (gL t b')) (b'.pc+b'.len) sh (by show 0≤b'.fin;omega) hf.2
  subst a1 a2 a3 a5 a6 eV
  have x1:=en.x1
  have y1:=en.y1
  have sl:=si.vl
  have E:za b' (gL t b')=⟨(gL t b').evs,(gL t b').regs,b'.fin,if b'.fin=1 then []else(((gL t b').vals).getD (b'.x).toNat default),if 3≤b'.fin then(((gL t b').vals).getD (b'.y).toNat default)else [],b'.k⟩:=rfl
  rw [E]at q6 r6
  rcases(by omega:b'.fin=1∨b'.fin=2∨3≤b'.fin)with c | c | c
  ·have n2:¬3≤b'.fin:=by omega
   rw [if_pos c,if_neg n2]at q6 r6
   simp (disch:=omega) only [RR,RB,h7,hp1,hf1,decide_eq_false n2,c,ne_eq,not_true_eq_false,decide_false,hp8 _ st,hf8 _ st]
   rw [c]at q6 r6
   rw [eR,E,if_pos c,if_neg n2,c]
   exact⟨fun h=>absurd h (by omega),fun _=>⟨q6,by rw [r6]⟩⟩
  ·have n1:b'.fin≠1:=by omega
   have n2:¬3≤b'.fin:=by omega
   obtain⟨v1,v2,_⟩:=x1 n1
   rw [if_neg n1,if_neg n2]at q6 r6
   simp (disch:=omega) only [RR,RB,h7,hp1,hf1,decide_eq_true n1,decide_eq_false n2,hp8 _ st,hf8 _ st]
   rw [eR,E,if_neg n1,if_neg n2]
   exact⟨v1,by omega,v1,by omega,q6,by rw [r6]⟩
  ·have n1:b'.fin≠1:=by omega
   obtain⟨v1,v2,_⟩:=x1 n1
   obtain⟨w1,w2,_⟩:=y1 c
   rw [if_neg n1,if_pos c]at q6 r6
   simp (disch:=omega) only [RR,RB,h7,hp1,hf1,decide_eq_true n1,decide_eq_true c,hp8 _ st,hf8 _ st]
   rw [eR,E,if_neg n1,if_pos c]
   exact⟨v1,by omega,v1,by omega,w1,by omega,w1,by omega,q6,by rw [r6]⟩
 have hok:=hop i h1 h7
 have nxt:=fun {ld' Zy:Int} {tb':List Atom} {V':List (List aj)} {ev':List Ev} {rg':List (List aj)}=>At.next (t:=t) (b:=b') (i:=i.toNat) (o:=((b'.ops).getD (i).toNat default)) ⟨a1,a2,a3,a4,a5,a6⟩ si.vl (by omega) rfl (ld':=ld') (Zy:=Zy) (tb':=tb') (V':=V') (ev':=ev') (rg':=rg')
 have ei:(i+1).toNat=i.toNat+1:=by omega
 have vx:∀j:Int,0≤j→j<i→((V).getD (j).toNat default)=(((SW t b' i.toNat).vals).getD (j).toNat default):=fun j j1 j2=>by
  have:=si.vl
  rw [a4,getD_lt (by rw [List.length_append];omega),getD_lt (by omega),List.getElem_append_left]
 have ex:hX ((b'.ops).getD (i).toNat default)→((V).getD ((((b'.ops).getD (i).toNat default)).x).toNat default)=xOf (SW t b' i.toNat) ((b'.ops).getD (i).toNat default):=fun h=>by
  unfold xOf;rw [if_pos h];exact vx _ (hok.x1 h).1 (hok.x1 h).2.1
 have ey:hY ((b'.ops).getD (i).toNat default)→((V).getD ((((b'.ops).getD (i).toNat default)).y).toNat default)=yOf (SW t b' i.toNat) ((b'.ops).getD (i).toNat default):=fun h=>by
  unfold yOf;rw [if_pos h];exact vx _ (hok.y1 h).1 (hok.y1 h).2.1
 have v0:V.set i.toNat []=V:=by
  have:=si.vl
  rw [a4,List.set_append_right _ _ (by omega),this,Nat.sub_self,show b'.ops.length-i.toNat=(b'.ops.length- (i.toNat+1))+1 by omega,List.replicate_succ,List.set_cons_zero]
 obtain⟨sn,so⟩:=GD (o:=((b'.ops).getD (i).toNat default)) si hok.k3 (by omega) (by omega)
 have gl:=si.ld
 have gi:=si.inn
 have shx:=(si.x ((b'.ops).getD (i).toNat default)).1.sh
 have shy:=(si.y ((b'.ops).getD (i).toNat default)).1.sh
 generalize hs:SW t b' i.toNat=s at*
 generalize ho:((b'.ops).getD (i).toNat default)=o at*
 have kd:=hok.kd
 subst a1 a2 a3 a5 a6
 have L0:o.kind≠4→s.ld=if o.kind=4 then s.ld+1 else s.ld:=fun h=>by rw [if_neg h]
 have I0:o.kind≠6→s.inn=if o.kind=6 then s.inn+1 else s.inn:=fun h=>by rw [if_neg h]
 have T0:o.kind≠3→o.kind≠4→o.kind≠6→s.t=nT s o:=fun h3 h4 h6=>by unfold nT;rw [if_neg h3,if_neg (by omega)]
 have R0:o.kind≠8→s.regs=nR s o:=fun h=>by unfold nR;rw [if_neg h]
 have E0:¬evO o→s.evs=nE s o:=fun h=>by unfold nE;rw [if_neg h]
 have V0:o.kind=5∨o.kind=7∨o.kind=8→V=V.set i.toNat (nV s o):=fun h=>by
  rw [show nV s o=[] by unfold nV;rw [if_neg (by omega),if_neg (by omega),if_neg (by omega),if_neg (by omega)],v0]
 have P0:∀kd k,0≤(aX s.t ⟨kd,k,[],[]⟩).2→f10 (kd,k,s.t,false,())=(fE (aX s.t ⟨kd,k,[],[]⟩).2,(aX s.t ⟨kd,k,[],[]⟩).1,false,()):=fun kd k h=>by
  rw [ahD _ _ _ _ tl,if_neg (by omega)]
 have y0:¬hY o→yOf s o=[]:=fun h=>by unfold yOf;rw [if_neg h]
 have x0:¬hX o→xOf s o=[]:=fun h=>by unfold xOf;rw [if_neg h]
 rcases(by omega:o.kind=1∨o.kind=2∨o.kind=3∨o.kind=4∨o.kind=5∨o.kind=6∨o.kind=7∨o.kind=8)with c | c | c | c | c | c | c | c
 ·have dX:decide (hX o)=false:=decide_eq_false (by unfold hX;omega)
  have dY:decide (hY o)=false:=decide_eq_false (by unfold hY;omega)
  have dE:decide (evO o)=false:=decide_eq_false (by unfold evO;omega)
  have N:At t b' (i.toNat+1) s.ld s.inn s.t (V.set i.toNat (dw o.k)) s.evs s.regs:=nxt (L0 (by omega)) (I0 (by omega)) (T0 (by omega) (by omega) (by omega)) (by unfold nV;rw [if_pos c]) (E0 (by unfold evO;omega)) (R0 (by omega))
  simp (disch:=omega) only [RR,RB,ho,h7,hp4,hf4,hp3,hf3,dX,dY,dE,c,Int.reduceEq,List.length_cons,List.length_nil,hp5,hf5]
  repeat' apply And.intro
  all_goals first | omega | (rw [ei];exact N)
 ·have dX:decide (hX o)=false:=decide_eq_false (by unfold hX;omega)
  have dY:decide (hY o)=false:=decide_eq_false (by unfold hY;omega)
  have dE:decide (evO o)=false:=decide_eq_false (by unfold evO;omega)
  have k2:=hok.k2 (Or.inl c)
  have N:At t b' (i.toNat+1) s.ld s.inn s.t (V.set i.toNat ((s.regs).getD (o.k).toNat default)) s.evs s.regs:=nxt (L0 (by omega)) (I0 (by omega)) (T0 (by omega) (by omega) (by omega)) (by unfold nV;rw [if_neg (by omega),if_pos c]) (E0 (by unfold evO;omega)) (R0 (by omega))
  simp (disch:=omega) only [RR,RB,ho,h7,hp4,hf4,hp3,hf3,dX,dY,dE,c,Int.reduceEq,List.length_cons,List.length_nil,r4]
  repeat' apply And.intro
  all_goals first | omega | (rw [ei];exact N)
 ·have dX:decide (hX o)=true:=decide_eq_true (by unfold hX;omega)
  have dY:decide (hY o)=true:=decide_eq_true (by unfold hY;omega)
  have dE:decide (evO o)=false:=decide_eq_false (by unfold evO;omega)
  have v1:=hok.x1 (by unfold hX;omega)
  have v2:=hok.y1 (by unfold hY;omega)
  have u1:=v1.2.1
  have u2:=v2.2.1
  have w1:=v1.1
  have w2:=v2.1
  obtain⟨d1,d2,d3⟩:=hf9 s.t o.k _ _ tl shx shy
  have d4:=(so.d c).ok
  have N:At t b' (i.toNat+1) s.ld s.inn (tDo s.t o.k (xOf s o) (yOf s o)).1 (V.set i.toNat (tDo s.t o.k (xOf s o) (yOf s o)).2) s.evs s.regs:=nxt (L0 (by omega)) (I0 (by omega)) (by unfold nT;rw [if_pos c]) (by unfold nV;rw [if_neg (by omega),if_neg (by omega),if_pos c]) (E0 (by unfold evO;omega)) (R0 (by omega))
  simp (disch:=omega) only [RR,RB,ho,h7,hp4,hf4,hp3,hf3,dX,dY,dE,c,Int.reduceEq,List.length_cons,List.length_nil,ex (by unfold hX;omega),ey (by unfold hY;omega),hp9 s.t o.k _ _ tl shx shy,d1,d2,d3,d4]
  repeat' apply And.intro
  all_goals first | omega | (rw [ei];exact N)
 ·have dX:decide (hX o)=true:=decide_eq_true (by unfold hX;omega)
  have dY:decide (hY o)=false:=decide_eq_false (by unfold hY;omega)
  have dE:decide (evO o)=true:=decide_eq_true (by unfold evO;omega)
  have v1:=hok.x1 (by unfold hX;omega)
  have u1:=v1.2.1
  have w1:=v1.1
  have ea:aOf s o=⟨2,s.ld,[],[]⟩:=by unfold aOf;rw [if_pos c]
  have pp:=so.p (Or.inl c)
  rw [ea]at pp
  have N:At t b' (i.toNat+1) (s.ld+1) s.inn (aX s.t ⟨2,s.ld,[],[]⟩).1 (V.set i.toNat (fE (aX s.t ⟨2,s.ld,[],[]⟩).2)) (s.evs++ [⟨4,o.at_,xOf s o,[],s.regs⟩]) s.regs:=nxt (by rw [if_pos c]) (I0 (by omega)) (by unfold nT;rw [if_neg (by omega),if_pos (Or.inl c),ea]) (by unfold nV;rw [if_neg (by omega),if_neg (by omega),if_neg (by omega),if_pos (Or.inl c),ea]) (by unfold nE;rw [if_pos (by unfold evO;omega),if_pos (Or.inl c),c,y0 (by unfold hY;omega)]) (R0 (by omega))
  simp (disch:=omega) only [RR,RB,ho,h7,hp4,hf4,hp3,hf3,dX,dY,dE,c,Int.reduceEq,List.length_cons,List.length_nil,ex (by unfold hX;omega),RA s.regs (by omega) (by omega),RD s.regs (by omega) (by omega),abQ 2 s.ld s.t false tl,P0 2 s.ld pp]
  repeat' apply And.intro
  all_goals first | omega | (rw [ei];exact N)
 ·have dX:decide (hX o)=true:=decide_eq_true (by unfold hX;omega)
  have dY:decide (hY o)=true:=decide_eq_true (by unfold hY;omega)
  have dE:decide (evO o)=true:=decide_eq_true (by unfold evO;omega)
  have v1:=hok.x1 (by unfold hX;omega)
  have v2:=hok.y1 (by unfold hY;omega)
  have u1:=v1.2.1
  have u2:=v2.2.1
  have w1:=v1.1
  have w2:=v2.1
  have N:At t b' (i.toNat+1) s.ld s.inn s.t V (s.evs++ [⟨5,o.at_,xOf s o,yOf s o,s.regs⟩]) s.regs:=nxt (L0 (by omega)) (I0 (by omega)) (T0 (by omega) (by omega) (by omega)) (V0 (by omega)) (by unfold nE;rw [if_pos (by unfold evO;omega),if_pos (Or.inr c),c]) (R0 (by omega))
  simp (disch:=omega) only [RR,RB,ho,h7,hp4,hf4,hp3,hf3,dX,dY,dE,c,Int.reduceEq,List.length_cons,List.length_nil,ex (by unfold hX;omega),ey (by unfold hY;omega),RA s.regs (by omega) (by omega),RD s.regs (by omega) (by omega)]
  repeat' apply And.intro
  all_goals first | omega | (rw [ei];exact N)
 ·have dX:decide (hX o)=false:=decide_eq_false (by unfold hX;omega)
  have dY:decide (hY o)=false:=decide_eq_false (by unfold hY;omega)
  have dE:decide (evO o)=true:=decide_eq_true (by unfold evO;omega)
  have ea:aOf s o=⟨3,s.inn,[],[]⟩:=by unfold aOf;rw [if_neg (by omega)]
  have pp:=so.p (Or.inr c)
  rw [ea]at pp
  have N:At t b' (i.toNat+1) s.ld (s.inn+1) (aX s.t ⟨3,s.inn,[],[]⟩).1 (V.set i.toNat (fE (aX s.t ⟨3,s.inn,[],[]⟩).2)) (s.evs++ [⟨6,o.at_,[],[],[]⟩]) s.regs:=nxt (L0 (by omega)) (by rw [if_pos c]) (by unfold nT;rw [if_neg (by omega),if_pos (Or.inr c),ea]) (by unfold nV;rw [if_neg (by omega),if_neg (by omega),if_neg (by omega),if_pos (Or.inr c),ea]) (by unfold nE;rw [if_pos (by unfold evO;omega),if_neg (by omega),c,x0 (by unfold hX;omega),y0 (by unfold hY;omega)]) (R0 (by omega))
  simp (disch:=omega) only [RR,RB,ho,h7,hp4,hf4,hp3,hf3,dX,dY,dE,c,Int.reduceEq,List.length_cons,List.length_nil,abQ 3 s.inn s.t false tl,P0 3 s.inn pp]
  repeat' apply And.intro
  all_goals first | omega | (rw [ei];exact N)
 ·have dX:decide (hX o)=true:=decide_eq_true (by unfold hX;omega)
  have dY:decide (hY o)=false:=decide_eq_false (by unfold hY;omega)
  have dE:decide (evO o)=true:=decide_eq_true (by unfold evO;omega)
  have v1:=hok.x1 (by unfold hX;omega)
  have u1:=v1.2.1
  have w1:=v1.1
  have N:At t b' (i.toNat+1) s.ld s.inn s.t V (s.evs++ [⟨7,o.at_,xOf s o,[],[]⟩]) s.regs:=nxt (L0 (by omega)) (I0 (by omega)) (T0 (by omega) (by omega) (by omega)) (V0 (by omega)) (by unfold nE;rw [if_pos (by unfold evO;omega),if_neg (by omega),c,y0 (by unfold hY;omega)]) (R0 (by omega))
  simp (disch:=omega) only [RR,RB,ho,h7,hp4,hf4,hp3,hf3,dX,dY,dE,c,Int.reduceEq,List.length_cons,List.length_nil,ex (by unfold hX;omega)]
  repeat' apply And.intro
  all_goals first | omega | (rw [ei];exact N)
 ·have dX:decide (hX o)=true:=decide_eq_true (by unfold hX;omega)
  have dY:decide (hY o)=false:=decide_eq_false (by unfold hY;omega)
  have dE:decide (evO o)=false:=decide_eq_false (by unfold evO;omega)
  have v1:=hok.x1 (by unfold hX;omega)
  have u1:=v1.2.1
  have w1:=v1.1
  have k2:=hok.k2 (Or.inr c)
  have N:At t b' (i.toNat+1) s.ld s.inn s.t V s.evs (s.regs.set o.k.toNat (xOf s o)):=nxt (L0 (by omega)) (I0 (by omega)) (T0 (by omega) (by omega) (by omega)) (V0 (by omega)) (E0 (by unfold evO;omega)) (by unfold nR;rw [if_pos c])
  simp (disch:=omega) only [RR,RB,ho,h7,hp4,hf4,hp3,hf3,dX,dY,dE,c,Int.reduceEq,List.length_cons,List.length_nil,ex (by unfold hX;omega),r4]
  repeat' apply And.intro
  all_goals first | omega | (rw [ei];exact N)
end Go.TX.F
namespace Go.TX.F
open Go Go.AE Go.TX
def KB (l:List Ins):Prop:=∀i∈l,i.k<1000
theorem KB.at {l:List Ins} (h:KB l) (n:Nat):(l.getD n default).k<1000:=by
 by_cases h1:n<l.length
 ·rw [getD_lt h1];exact h _ (List.getElem_mem _)
 ·simp only [List.getD,List.getElem?_eq_none (by omega:l.length≤n)];decide
end Go.TX.F
namespace Go.TX.F
open Go Go.AE Go.TX
structure InD (m:Int) (b:List Int) (p:Int) (y:Int×Int×Int×Int×List Int×Int×Unit):Prop where
 b:y.2.2.2.2.1=b
 lo:p≤y.2.2.2.2.2.1
 hi:y.2.2.2.2.2.1≤p+m
 k:0≤y.2.2.2.1∧y.2.2.2.1≤255
structure LiD (b:List Int) (p:Int) (y:List Int×Int×List Ins×Unit):Prop where
 b:y.1=b
 lo:p≤y.2.1
 hi:y.2.1≤p+1000
 len:(y.2.2.1.length:Int)≤20
 k:KB y.2.2.1
theorem KB.app {l:List Ins} {i:Ins} (h:KB l) (h2:i.k≤255):KB (l++ [i]):=fun x hx=>by
 rw [List.mem_append,List.mem_singleton]at hx
 rcases hx with hx | rfl
 ·exact h x hx
 ·omega
end Go.TX.F
namespace Go.TX.F
open Go Go.AE Go.TX
@[reducible] def bk7 (b : Blk) : Int × Int × Int × Int × Int × Int × List IOp × Unit := (b.pc, b.len, b.fin, b.x, b.y, b.k, b.ops, ())
structure FE (b:Blk):Prop where
 f:1≤b.fin∧b.fin≤4
 x:b.fin≠1→0≤b.x∧b.x<b.ops.length
 y:3≤b.fin→0≤b.y∧b.y<b.ops.length
 y0:b.fin≤2→b.y=0
 p:0≤b.pc∧b.pc≤100∧0≤b.len∧b.len≤100
end Go.TX.F
namespace Go.TX.F
open Go Go.AE Go.TX
end Go.TX.F
namespace Go.TX.F
open Go Go.AE Go.TX
structure BkD (m:Int) (n:Nat) (b:List Int) (p:Int) (y:Int×Int×Int×Int×Int×Int×List Int×Int×List IOp×Unit):Prop where
 b:y.2.2.2.2.2.2.1=b
 lo:p≤y.2.2.2.2.2.2.2.1
 hi:y.2.2.2.2.2.2.2.1≤p+m
 len:y.2.2.2.2.2.2.2.2.1.length≤n
end Go.TX.F
namespace Go.TX.F
open Go Go.AE Go.TX
structure BoD (b:List Int) (p:Int) (y:Blk×List Int×Int×Unit):Prop where
 len:y.1.ops.length<100000
 b:y.2.1=b
 lo:p≤y.2.2.1
 hi:y.2.2.1≤p+5000
end Go.TX.F
namespace Go.TX.F
open Go Go.AE Go.TX
end Go.TX.F
namespace Go.TX.F
open Go Go.AE Go.TX
end Go.TX.F
namespace Go.TX.F
open Go Go.AE Go.TX
end Go.TX.F
namespace Go.TX.F
open Go Go.AE Go.TX
theorem acH (x y:IOp):ajP .iop x y=decide (x=y):=rfl
theorem JV {P:Prop} [Decidable P]:decide P=bp P:=by unfold bp;congr
theorem acI (a b:List IOp) (ha:a.length<1000000000):Xz (std 0) (a,b,()) (fun y=>y=(bp (a=b),())):=by
 dsimp only [Xz,Alg.cl,Alg.cg,Alg.rb,Alg.bd,Alg.l1,Tup.q,Tup.o]
 simp (disch:=omega) only [RR]
 refine⟨fun h=> ?_,fun h=> ?_⟩
 ·rw [cZ (fun e=>h (by rw [e]))]
 have hl:a.length=b.length:=by omega
 refine au (fun(y:List IOp×List IOp×Int×Int×Unit)=>y.1=a∧y.2.1=b∧y.2.2.1=a.length∧0≤y.2.2.2.1∧y.2.2.2.1≤a.length∧All y.2.2.2.1 (fun i=>a.getD i.toNat default=b.getD i.toNat default)) (fun y=>(a.length-y.2.2.2.1).toNat) ⟨rfl,rfl,rfl,by simp,by simp,All.zero⟩ ?_
 rintro⟨(l1:List IOp),(l2:List IOp),(n:Int),(i:Int),⟨⟩⟩ hI
 dsimp only at hI ⊢
 obtain⟨rfl,rfl,rfl,h1,h2,h3⟩:=hI
 simp (disch:=omega) only [RR,acH]
 refine⟨fun h4=>⟨by omega,by omega,by omega,by omega,fun h5=> ?_,fun h5=>⟨⟨by omega,by omega,h3.snoc h5⟩,by omega⟩⟩,fun h4=> ?_⟩
 ·rw [cZ]
  intro e;rw [e]at h5;exact h5 rfl
 ·rw [dH (nS hl (h3.le (by omega)))]
theorem aoj {p1:List IOp×List IOp×Unit→Bool} {f1:List IOp×List IOp×Unit→Bool×Unit} (hp1:∀a b,a.length<1000000000→p1 (a,b,())=true) (hf1:∀a b,a.length<1000000000→f1 (a,b,())=(bp (a=b),())) (a b:Blk) (ha:a.ops.length<1000000000):XA (std 0) p1 f1 (a,b,()) (fun y=>y=(bp (a=b),())):=by
 dsimp only [XA,Alg.cl,Alg.cg,Alg.rb,Alg.bd,Alg.l1,Tup.q,Tup.o]
 simp (disch:=omega) only [RR,RB,hp1 _ _ ha,hf1 _ _ ha]
 simp only [JV,←o8]
 refine Prod.ext (o9 ?_) rfl
 cases a;cases b;simp only [Blk.mk.injEq]
 constructor<;>(intro h;simp only [h,and_self])
theorem aol {p1:List aj×List aj×Unit→Bool} {f1:List aj×List aj×Unit→Bool×Unit} (hp1:∀a b,Sh a→p1 (a,b,())=true) (hf1:∀a b,Sh a→f1 (a,b,())=(decide (eU a b=0),())) (a b:List aj) (ha:Sh a):YP (std 0) p1 f1 (a,b,()) (fun y=>y=(decide (eU a b=0),())):=by
 dsimp only [YP,Alg.cl,Alg.cg,Alg.rb,Alg.bd,Alg.l1,Tup.q,Tup.o]
 simp (disch:=omega) only [RR,hp1 _ _ ha,hf1 _ _ ha]
theorem aom {p1:List aj×List aj×Unit→Bool} {f1:List aj×List aj×Unit→Bool×Unit} (hp1:∀a b,Sh a→p1 (a,b,())=true) (hf1:∀a b,Sh a→f1 (a,b,())=(decide (eU a b=0),())) (a b:List (List aj)) (ha:ShP a):YQ (std 0) p1 f1 (a,b,()) (fun y=>y=(bp (a=b),())):=by
 have hlen:=ha.1
 dsimp only [YQ,Alg.cl,Alg.cg,Alg.rb,Alg.bd,Alg.l1,Tup.q,Tup.o]
 simp (disch:=omega) only [RR]
 refine⟨fun h=> ?_,fun h=> ?_⟩
 ·rw [cZ (fun e=>h (by rw [e]))]
 have hl:a.length=b.length:=by omega
 refine au (fun(y:List (List aj)×List (List aj)×Int×Int×Unit)=>y.1=b∧y.2.1=a∧y.2.2.1=a.length∧0≤y.2.2.2.1∧y.2.2.2.1≤a.length∧All y.2.2.2.1 (fun i=>a.getD i.toNat default=b.getD i.toNat default)) (fun y=>(a.length-y.2.2.2.1).toNat) ⟨rfl,rfl,rfl,by simp,by simp,All.zero⟩ ?_
 rintro⟨(l1:List (List aj)),(l2:List (List aj)),(n:Int),(i:Int),⟨⟩⟩ hI
 dsimp only at hI ⊢
 obtain⟨rfl,rfl,rfl,h1,h2,h3⟩:=hI
 simp (disch:=omega) only [RR,hp1 _ _ (ha.at _),hf1 _ _ (ha.at _),iG]
 refine⟨fun h4=>⟨by omega,by omega,by omega,by omega,fun h5=> ?_,fun h5=>⟨⟨by omega,by omega,h3.snoc h5⟩,by omega⟩⟩,fun h4=> ?_⟩
 ·rw [cZ]
  intro e;rw [e]at h5;exact h5 rfl
 ·rw [dH (nS hl (h3.le (by omega)))]
theorem aon {p1:List (List aj)×List (List aj)×Unit→Bool} {f1:List (List aj)×List (List aj)×Unit→Bool×Unit} (hp1:∀a b,ShP a→p1 (a,b,())=true) (hf1:∀a b,ShP a→f1 (a,b,())=(bp (a=b),())) (a b:List (List aj)) (ha:ShP a):YR (std 0) p1 f1 (a,b,()) (fun y=>y=(bp (a=b),())):=by
 dsimp only [YR,Alg.cl,Alg.cg,Alg.rb,Alg.bd,Alg.l1,Tup.q,Tup.o]
 simp (disch:=omega) only [RR,hp1 _ _ ha,hf1 _ _ ha]
theorem aoo {p1:List aj×List aj×Unit→Bool} {f1:List aj×List aj×Unit→Bool×Unit} (hp1:∀a b,Sh a→p1 (a,b,())=true) (hf1:∀a b,Sh a→f1 (a,b,())=(decide (eU a b=0),())) {p2:List (List aj)×List (List aj)×Unit→Bool} {f2:List (List aj)×List (List aj)×Unit→Bool×Unit} (hp2:∀a b,ShP a→p2 (a,b,())=true) (hf2:∀a b,ShP a→f2 (a,b,())=(bp (a=b),())) (a b:Ev) (ha:ShE a):YS (std 0) p1 f1 p2 f2 (a,b,()) (fun y=>y=(bp (a=b),())):=by
 dsimp only [YS,Alg.cl,Alg.cg,Alg.rb,Alg.bd,Alg.l1,Tup.q,Tup.o]
 simp (disch:=omega) only [RR,RB,hp1 _ _ ha.1,hf1 _ _ ha.1,hp1 _ _ ha.2.1,hf1 _ _ ha.2.1,hp2 _ _ ha.2.2,hf2 _ _ ha.2.2,iG]
 simp only [JV,←o8]
 refine Prod.ext (o9 ?_) rfl
 cases a;cases b;simp only [Ev.mk.injEq]
 constructor<;>(intro h;simp only [h,and_self])
theorem aop {p1:Ev×Ev×Unit→Bool} {f1:Ev×Ev×Unit→Bool×Unit} (hp1:∀a b,ShE a→p1 (a,b,())=true) (hf1:∀a b,ShE a→f1 (a,b,())=(bp (a=b),())) (a b:List Ev) (ha:Vz a):YV (std 0) p1 f1 (a,b,()) (fun y=>y=(bp (a=b),())):=by
 have hlen:=ha.1
 dsimp only [YV,Alg.cl,Alg.cg,Alg.rb,Alg.bd,Alg.l1,Tup.q,Tup.o]
 simp (disch:=omega) only [RR]
 refine⟨fun h=> ?_,fun h=> ?_⟩
 ·rw [cZ (fun e=>h (by rw [e]))]
 have hl:a.length=b.length:=by omega
 refine au (fun(y:List Ev×List Ev×Int×Int×Unit)=>y.1=b∧y.2.1=a∧y.2.2.1=a.length∧0≤y.2.2.2.1∧y.2.2.2.1≤a.length∧All y.2.2.2.1 (fun i=>a.getD i.toNat default=b.getD i.toNat default)) (fun y=>(a.length-y.2.2.2.1).toNat) ⟨rfl,rfl,rfl,by simp,by simp,All.zero⟩ ?_
 rintro⟨(l1:List Ev),(l2:List Ev),(n:Int),(i:Int),⟨⟩⟩ hI
 dsimp only at hI ⊢
 obtain⟨rfl,rfl,rfl,h1,h2,h3⟩:=hI
 simp (disch:=omega) only [RR,hp1 _ _ (ha.at _),hf1 _ _ (ha.at _),bg,jd]
 refine⟨fun h4=>⟨by omega,by omega,by omega,by omega,fun h5=> ?_,fun h5=>⟨⟨by omega,by omega,h3.snoc h5⟩,by omega⟩⟩,fun h4=> ?_⟩
 ·rw [cZ]
  intro e;rw [e]at h5;exact h5 rfl
 ·rw [dH (nS hl (h3.le (by omega)))]
theorem aoq {p1:List aj×List aj×Unit→Bool} {f1:List aj×List aj×Unit→Bool×Unit} (hp1:∀a b,Sh a→p1 (a,b,())=true) (hf1:∀a b,Sh a→f1 (a,b,())=(decide (eU a b=0),())) {p2:List (List aj)×List (List aj)×Unit→Bool} {f2:List (List aj)×List (List aj)×Unit→Bool×Unit} (hp2:∀a b,ShP a→p2 (a,b,())=true) (hf2:∀a b,ShP a→f2 (a,b,())=(bp (a=b),())) {p3:List Ev×List Ev×Unit→Bool} {f3:List Ev×List Ev×Unit→Bool×Unit} (hp3:∀b a,Vz b→p3 (b,a,())=true) (hf3:∀b a,Vz b→f3 (b,a,())=(bp (b=a),())) (a b:Sym) (ha:ShY a):YW (std 0) p1 f1 p2 f2 p3 f3 (a,b,()) (fun y=>y=(bp (a=b),())):=by
 dsimp only [YW,Alg.cl,Alg.cg,Alg.rb,Alg.bd,Alg.l1,Tup.q,Tup.o]
 simp (disch:=omega) only [RR,RB,hp1 _ _ ha.x,hf1 _ _ ha.x,hp1 _ _ ha.y,hf1 _ _ ha.y,hp2 _ _ ha.r,hf2 _ _ ha.r,hp3 _ _ ha.e,hf3 _ _ ha.e,iG]
 simp only [JV,←o8]
 refine Prod.ext (o9 ?_) rfl
 cases a;cases b;simp only [Sym.mk.injEq]
 constructor<;>(intro h;simp only [h,and_self])
theorem aor {p1:Blk×Unit→Bool} {f1:Blk×Unit→Bool×Unit} (hp1:∀b,b.ops.length<1000000000→p1 (b,())=true) (hf1:∀b,b.ops.length<1000000000→f1 (b,())=(bp (kW b),())) {p2:Blk×Blk×Unit→Bool} {f2:Blk×Blk×Unit→Bool×Unit} (hp2:∀a b,a.ops.length<1000000000→p2 (a,b,())=true) (hf2:∀a b,a.ops.length<1000000000→f2 (a,b,())=(bp (a=b),())) {p3:Unit→Bool} {f3:Unit→List Atom×List (List aj)×Unit} (hp3:p3 ()=true) (hf3:(f3 ()).1=t4) {p4:List Atom×Blk×Unit→Bool} {f4:List Atom×Blk×Unit→List Atom×Sym×Unit} (hp4:∀t b,ShT t→b.ops.length<1000000000→p4 (t,b,())=true) (hf4:∀t b,ShT t→b.ops.length<1000000000→f4 (t,b,())=((bK t b).1,(bK t b).2,())) {p5:Sym×Sym×Unit→Bool} {f5:Sym×Sym×Unit→Bool×Unit} (hp5:∀a b,ShY a→p5 (a,b,())=true) (hf5:∀a b,ShY a→f5 (a,b,())=(bp (a=b),())) (b c:Blk) (hb:b.ops.length<1000000000) (hc:c.ops.length<1000000000):YX (std 0) p1 f1 p2 f2 p3 f3 p4 f4 p5 f5 (b,c,()) (fun y=>y=(chk b c,())):=by
 have s4:ShT t4:=Ug.1.sh
 have y1:=zf t4 b
 dsimp only [YX,Alg.cl,Alg.cg,Alg.rb,Alg.bd,Alg.l1,Tup.q,Tup.o]
 simp (disch:=omega) only [RR,RB,hp1 b hb,hf1 b hb,hp1 c hc,hf1 c hc,hp2 b c hb,hf2 b c hb,hp3,hf3,hp4 t4 b s4 hb,hf4 t4 b s4 hb,hp4 _ c y1.2 hc,hf4 _ c y1.2 hc,hp5 _ _ y1.1,hf5 _ _ y1.1,bg,jd]
 unfold chk
 refine⟨fun h=> ?_,fun h=>⟨fun e=> ?_,fun e=> ?_⟩⟩
 ·rw [cZ];rintro⟨h1,h2,h3,h4,_⟩;simp_all
 ·rw [dH];exact⟨h.1.1.1,h.1.1.2,h.1.2,h.2,Or.inl e⟩
 ·refine Prod.ext (o9 ?_) rfl
  exact⟨fun g=>⟨h.1.1.1,h.1.1.2,h.1.2,h.2,Or.inr g⟩,fun g=>g.2.2.2.2.resolve_left e⟩
end Go.TX.F
namespace Go.TX.F
open Go Go.AE Go.TX
structure arT (nm:List Int) (fin x y:Int) (ops:List IOp):Prop where
 op:∀i:Int,0≤i→i<ops.length→(hX ((ops).getD (i).toNat default)→0≤(((ops).getD (i).toNat default)).x∧(((ops).getD (i).toNat default)).x<nm.length)∧(hY ((ops).getD (i).toNat default)→0≤(((ops).getD (i).toNat default)).y∧(((ops).getD (i).toNat default)).y<nm.length)
 x:fin≠1→0≤x∧x<nm.length
 y:3≤fin→0≤y∧y<nm.length
 l:ops.length<1000000000
end Go.TX.F
namespace Go.TX.F
open Go Go.AE Go.TX
end Go.TX.F
namespace Go.TX.F
open Go Go.AE Go.TX
end Go.TX.F
namespace Go.TX.F
open Go Go.AE Go.TX
end Go.TX.F
namespace Go.TX.F
open Go Go.AE Go.TX
def ShC (l:List Cer):Prop:=l.length<1000∧∀q∈l,q.base.ops.length<1000000∧q.made.ops.length<1000000
theorem ShC.at {l:List Cer} (h:ShC l) (i:Nat):(l.getD i default).base.ops.length<1000000∧(l.getD i default).made.ops.length<1000000:=by
 by_cases c:i<l.length
 ·rw [getD_lt c];exact h.2 _ (List.getElem_mem _)
 ·rw [List.getD_eq_getElem?_getD,List.getElem?_eq_none (by omega)];exact⟨by decide,by decide⟩
theorem ShC.add {l:List Cer} (h:ShC l) (n:l.length<999) {q:Cer} (h1:q.base.ops.length<1000000) (h2:q.made.ops.length<1000000):ShC (l++ [q]):=by
 refine⟨by rw [List.length_append,List.length_singleton];omega,fun c g=> ?_⟩
 rw [List.mem_append,List.mem_singleton]at g
 rcases g with g | rfl
 ·exact h.2 c g
 ·exact⟨h1,h2⟩
def ShD (l:List Cer):Prop:=l.length<1000000000∧∀q∈l,q.base.ops.length<1000000000∧q.made.ops.length<1000000000
theorem ShC.d {l:List Cer} (h:ShC l):ShD l:=⟨by have:=h.1;omega,fun q g=>by have:=h.2 q g;omega⟩
theorem ShD.at {l:List Cer} (h:ShD l) (i:Nat):(l.getD i default).base.ops.length<1000000000∧(l.getD i default).made.ops.length<1000000000:=by
 by_cases c:i<l.length
 ·rw [getD_lt c];exact h.2 _ (List.getElem_mem _)
 ·rw [List.getD_eq_getElem?_getD,List.getElem?_eq_none (by omega)];exact⟨by decide,by decide⟩
theorem Zz (a b:Blk) (ha:a.ops.length<1000000000):PY (std 0) (a,b,()) (fun y=>y=(bp (a=b),())):=by
 dsimp only [PY,Alg.cl,Alg.cg,Alg.rb,Alg.bd,Alg.l1,Tup.q,Tup.o]
 simp (disch:=omega) only [RR,RB]
 refine⟨fun h=> ?_,fun h=> ?_⟩
 ·rw [cZ];rintro rfl;simp at h
 have hl:a.ops.length=b.ops.length:=by omega
 refine au (fun(y:Int×Blk×Blk×Unit)=>y.2.1=a∧y.2.2.1=b∧0≤y.1∧y.1≤a.ops.length∧All y.1 (fun i=>a.ops.getD i.toNat default=b.ops.getD i.toNat default)) (fun y=>(a.ops.length-y.1).toNat) ⟨rfl,rfl,by simp,by simp,All.zero⟩ ?_
 rintro⟨(i:Int),(a':Blk),(b':Blk),⟨⟩⟩ hI
 dsimp only at hI ⊢
 obtain⟨rfl,rfl,h1,h2,h3⟩:=hI
 simp (disch:=omega) only [RR,RB,acH]
 refine⟨fun h4=>⟨by omega,by omega,by omega,by omega,fun h5=> ?_,fun h5=>⟨⟨by omega,by omega,h3.snoc h5⟩,by omega⟩⟩,fun h4=> ?_⟩
 ·rw [cZ];rintro rfl;exact h5 rfl
 ·have e:=nS hl (h3.le (by omega))
  rw [dH]
  cases a';cases b';simp_all
end Go.TX.F
namespace Go.TX.F
open Go Go.AE Go.TX
theorem ahE {p1:List aj×Unit→Bool} {f1:List aj×Unit→List aj×Unit} (hp1:∀a,Sh a→p1 (a,())=true) (hf1:∀a,Sh a→f1 (a,())=(a,())) (a:List (List aj)) (ha:ShP a):QM (std 0) p1 f1 (a,()) (fun y=>y=(a,())):=by
 have hlen:=ha.1
 dsimp only [QM,Alg.cl,Alg.cg,Alg.rb,Alg.bd,Alg.l1,Tup.q,Tup.o]
 refine au (fun(y:List (List aj)×Int×List (List aj)×Unit)=>y.1=a∧y.2.2.1=a.take y.2.1.toNat∧0≤y.2.1∧y.2.1≤a.length) (fun y=>(a.length-y.2.1).toNat) ⟨rfl,by simp,by simp,by simp⟩ ?_
 rintro⟨(l:List (List aj)),(i:Int),(o:List (List aj)),⟨⟩⟩ hI
 dsimp only at hI ⊢
 obtain⟨rfl,rfl,h1,h2⟩:=hI
 simp (disch:=omega) only [RR,hp1 _ (ha.at _),hf1 _ (ha.at _)]
 refine⟨fun h4=>⟨by omega,by omega,?_,⟨bU h1 h4 rfl,by omega,by omega⟩,by omega⟩,fun h4=>by rw [List.take_of_length_le (by omega)]⟩
 have:=List.length_take_le' i.toNat l
 simp only [List.length_cons,List.length_nil];omega
theorem ZA (k:Int) (l:List (List aj)):Qp (std 0) (k,l,()) (fun y=>y=(if k<0∨(l.length:Int)≤k then []else((l).getD (k).toNat default),l,())):=by
 dsimp only [Qp,Alg.cl,Alg.cg,Alg.rb,Alg.bd,Alg.l1,Tup.q,Tup.o]
 simp (disch:=omega) only [RR]
 refine⟨fun h=>by rw [if_pos (by omega)],fun h=>⟨by omega,by omega,by omega,by omega,by rw [if_neg (by omega)]⟩⟩
def pz (l:List Ev) (k:Int):Int:=((l.filter fun e=>decide (e.kind=k)).length:Int)
theorem vG (l:List Ev) (e:Ev) (k:Int):pz (l++ [e]) k=if e.kind=k then pz l k+1 else pz l k:=by
 unfold pz
 rw [List.filter_append,List.length_append]
 by_cases c:e.kind=k
 ·rw [if_pos c,List.filter_cons_of_pos (by simpa using c)];simp
 ·rw [if_neg c,List.filter_cons_of_neg (by simpa using c)];simp
theorem ZB (l:List Ev) (k:Int) (hl:l.length<1000000000):QK (std 0) (l,k,()) (fun y=>y=(pz l k,())):=by
 dsimp only [QK,Alg.cl,Alg.cg,Alg.rb,Alg.bd,Alg.l1,Tup.q,Tup.o]
 refine au (fun(y:List Ev×Int×Int×Int×Unit)=>y.1=l∧y.2.1=k∧y.2.2.1=pz (l.take y.2.2.2.1.toNat) k∧0≤y.2.2.2.1∧y.2.2.2.1≤l.length) (fun y=>(l.length-y.2.2.2.1).toNat) ⟨rfl,rfl,by simp;rfl,by simp,by simp⟩ ?_
 rintro⟨(l:List Ev),(k:Int),(n:Int),(i:Int),⟨⟩⟩ hI
 dsimp only at hI ⊢
 obtain⟨rfl,rfl,rfl,h1,h2⟩:=hI
 have b:0≤pz (l.take i.toNat) k∧pz (l.take i.toNat) k≤i:=by
  unfold pz
  have:=List.length_filter_le (fun e:Ev=>decide (e.kind=k)) (l.take i.toNat)
  have:=List.length_take_le i.toNat l
  omega
 simp (disch:=omega) only [RR,RB]
 refine⟨fun h4=>⟨by omega,by omega,?_⟩,fun h4=>by rw [List.take_of_length_le (by omega)]⟩
 have e:l.take (i+1).toNat=l.take i.toNat++ [((l).getD (i).toNat default)]:=by rw [show(i+1).toNat=i.toNat+1 by omega,List.take_succ_eq_append_getElem (by omega),getD_lt (show i.toNat<l.length by omega)]
 refine⟨fun g=>⟨⟨?_,by omega,by omega⟩,by omega⟩,fun g=>⟨⟨?_,by omega,by omega⟩,by omega⟩⟩
 ·rw [e,vG,if_pos g]
 ·rw [e,vG,if_neg g]
theorem ahF {p1:Int×Unit→Bool} {f1:Int×Unit→List aj×Unit} (hp1:∀n,p1 (n,())=true) (hf1:∀n,f1 (n,())=(fE n,())) {p2:Atom×List Atom×Unit→Bool} {f2:Atom×List Atom×Unit→Int×List Atom×Unit} (hp2:∀a t,ShA a→ShT t→aF t→p2 (a,t,())=true) (hf2:∀a t,ShA a→ShT t→aF t→f2 (a,t,())=((aX t a).2,(aX t a).1,())) {p3:List Ev×Int×Unit→Bool} {f3:List Ev×Int×Unit→Int×Unit} (hp3:∀l k,l.length<1000000000→p3 (l,k,())=true) (hf3:∀l k,l.length<1000000000→f3 (l,k,())=(pz l k,())) (l:List Ev) (k:Int) (t:List Atom) (hl:l.length<1000000000) (ht:ShT t) (hk:aF t):QL (std 0) p1 f1 p2 f2 p3 f3 (l,k,t,()) (fun y=>y=((aX t ⟨if k=6 then 3 else 2,pz l k,[],[]⟩).1,fE (aX t ⟨if k=6 then 3 else 2,pz l k,[],[]⟩).2,())):=by
 have sh:∀n:Int,ShA ⟨n,pz l k,[],[]⟩:=fun n=>⟨⟨by simp,fun m hm=>absurd hm (by simp)⟩,⟨by simp,fun m hm=>absurd hm (by simp)⟩⟩
 dsimp only [QL,Alg.cl,Alg.cg,Alg.rb,Alg.bd,Alg.l1,Tup.q,Tup.o]
 simp (disch:=omega) only [RR,hp3 l k hl,hf3 l k hl,hp2 _ t (sh _) ht hk,hf2 _ t (sh _) ht hk,hp1,hf1]
 exact⟨fun h=>by rw [if_pos h],fun h=>by rw [if_neg h]⟩
theorem ahG {p1:List aj×Unit→Bool} {f1:List aj×Unit→List aj×Unit} (hp1:∀a,Sh a→p1 (a,())=true) (hf1:∀a,Sh a→f1 (a,())=(a,())) {p2:List (List aj)×Unit→Bool} {f2:List (List aj)×Unit→List (List aj)×Unit} (hp2:∀a,ShP a→p2 (a,())=true) (hf2:∀a,ShP a→f2 (a,())=(a,())) (o:IOp) (x y:List aj) (r:List (List aj)) (hx:Sh x) (hy:Sh y) (hr:ShP r):QN (std 0) p1 f1 p2 f2 (o,x,y,r,()) (fun z=>z=(o.kind,o.at_,if o.kind=6 then []else x,if o.kind=5 then y else [],if o.kind=4∨o.kind=5 then r else [],())):=by
 dsimp only [QN,Alg.cl,Alg.cg,Alg.rb,Alg.bd,Alg.l1,Tup.q,Tup.o]
 simp (disch:=omega) only [RR,RB,hp1 x hx,hf1 x hx,hp1 y hy,hf1 y hy,hp2 r hr,hf2 r hr]
 refine⟨fun h=>⟨fun g=> ?_,fun g=> ?_⟩,fun h=>⟨fun g=> ?_,fun g=> ?_⟩⟩
 all_goals refine⟨fun k=> ?_,fun k=> ?_⟩
 all_goals first | rw [if_pos h] | rw [if_neg h]
 all_goals first | rw [if_pos g] | rw [if_neg g]
 all_goals first | rw [if_pos k] | rw [if_neg (by omega)]
theorem ZE (s:Sym) (k:Int):QT (std 0) (s,k,()) (fun y=>y=(s.events,s.regs,1,k,())):=by
 dsimp only [QT,Alg.cl,Alg.cg,Alg.rb,Alg.bd,Alg.l1,Tup.q,Tup.o]
 simp (disch:=omega) only [RR,RB]
theorem ZF (b:Blk):QO (std 0) (b,()) (fun y=>y=(if b.fin=1 then-1 else b.x,())):=by
 dsimp only [QO,Alg.cl,Alg.cg,Alg.rb,Alg.bd,Alg.l1,Tup.q,Tup.o]
 simp (disch:=omega) only [RR,RB]
 exact⟨fun h=>by rw [if_pos h],fun h=>by rw [if_neg h]⟩
theorem ZG (b:Blk):QS (std 0) (b,()) (fun y=>y=(if b.fin=1∨b.fin=2 then-1 else b.y,())):=by
 dsimp only [QS,Alg.cl,Alg.cg,Alg.rb,Alg.bd,Alg.l1,Tup.q,Tup.o]
 simp (disch:=omega) only [RR,RB]
 exact⟨fun h=>by rw [if_pos h],fun h=>by rw [if_neg (by omega)]⟩
theorem ahH {p1:List aj×Unit→Bool} {f1:List aj×Unit→Int×Bool×Unit} (hp1:∀a,Sh a→p1 (a,())=true) (hf1:∀a,Sh a→f1 (a,())=((bM a).1,(bM a).2,())) {p2:List aj×List aj×Unit→Bool} {f2:List aj×List aj×Unit→Int×Unit} (hp2:∀a b,Sh a→p2 (a,b,())=true) (hf2:∀a b,Sh a→f2 (a,b,())=(eU a b,())) {p3:Sym×Int×Unit→Bool} {f3:Sym×Int×Unit→List Ev×List (List aj)×Int×Int×Unit} (hp3:∀s k,p3 (s,k,())=true) (hf3:∀s k,f3 (s,k,())=(s.events,s.regs,1,k,())) (s:Sym) (n:Int) (hs:ShY s) (hx:aL s.x) (hy:aL s.y) (hf:s.fin=3∨s.fin=4):QU (std 0) p1 f1 p2 f2 p3 f3 (s,n,()) (fun y=>y=(symEnd s n,())):=by
 dsimp only [QU,Alg.cl,Alg.cg,Alg.rb,Alg.bd,Alg.l1,Tup.q,Tup.o]
 simp (disch:=omega) only [RR,RB,hp1 _ hs.x,hf1 _ hs.x,hp1 _ hs.y,hf1 _ hs.y,hp2 _ _ hs.x,hf2 _ _ hs.x,hp3,hf3]
 have z:eU s.x s.y=0↔s.x=s.y:=iG
 have key:(bM s.x).2=true→(bM s.y).2=true→(bM s.x).1=(bM s.y).1→s.x=s.y:=fun a b c=>(ru a).2.1.trans ((congrArg dw c).trans (ru b).2.1.symm)
 unfold symEnd
 rw [dH ⟨hx,hy⟩,if_neg (show¬(true=false) by decide),if_neg (show¬(s.fin=2∧(bM s.x).2=true) by omega),if_neg (show¬(s.fin≠3∧s.fin≠4) by omega)]
 simp only [z]
 by_cases c:s.x=s.y
 ·have l:¬(bM s.x).1< (bM s.y).1:=by rw [c];omega
  rcases hf with f | f<;>simp [c,f]
 ·rcases hf with f | f<;>by_cases nx:(bM s.x).2=true<;>by_cases ny:(bM s.y).2=true<;>by_cases l:(bM s.x).1< (bM s.y).1<;>by_cases g:0<eU s.x s.y<;>simp [c,f,nx,ny,l,g]
  all_goals rw [if_neg fun e=>c (key nx ny e)]
theorem ahI {p1:List aj×Unit→Bool} {f1:List aj×Unit→Int×Bool×Unit} (hp1:∀a,Sh a→p1 (a,())=true) (hf1:∀a,Sh a→f1 (a,())=((bM a).1,(bM a).2,())) {p2:List aj×Unit→Bool} {f2:List aj×Unit→Bool×Unit} (hp2:∀a,Sh a→p2 (a,())=true) (hf2:∀a,Sh a→f2 (a,())=(bp (aL a),())) {p3:List aj×Unit→Bool} {f3:List aj×Unit→List aj×Unit} (hp3:∀a,Sh a→p3 (a,())=true) (hf3:∀a,Sh a→f3 (a,())=(a,())) {p4:Sym×Int×Unit→Bool} {f4:Sym×Int×Unit→List Ev×List (List aj)×Int×Int×Unit} (hp4:∀s k,p4 (s,k,())=true) (hf4:∀s k,f4 (s,k,())=(s.events,s.regs,1,k,())) {p5:Sym×Int×Unit→Bool} {f5:Sym×Int×Unit→Sym×Unit} (hp5:∀s n,ShY s→aL s.x→aL s.y→(s.fin=3∨s.fin=4)→p5 (s,n,())=true) (hf5:∀s n,ShY s→aL s.x→aL s.y→(s.fin=3∨s.fin=4)→f5 (s,n,())=(symEnd s n,())) {p6:List (List aj)×Unit→Bool} {f6:List (List aj)×Unit→List (List aj)×Unit} (hp6:∀a,ShP a→p6 (a,())=true) (hf6:∀a,ShP a→f6 (a,())=(a,())) (s:Sym) (n:Int) (hs:ShY s):QV (std 0) p1 f1 p2 f2 p3 f3 p4 f4 p5 f5 p6 f6 (s,n,()) (fun y=>y=(symEnd s n,())):=by
 dsimp only [QV,Alg.cl,Alg.cg,Alg.rb,Alg.bd,Alg.l1,Tup.q,Tup.o]
 simp (disch:=omega) only [RR,RB,hp2 _ hs.x,hf2 _ hs.x,hp2 _ hs.y,hf2 _ hs.y]
 have le:=hs.e.1
 have no:(bp (aL s.x)=false∨bp (aL s.y)=false)→symEnd s n=Vx:=fun h=>by
  unfold symEnd;rw [if_pos];rw [o8];rcases h with h | h<;>rw [h]<;>simp
 refine⟨fun h=>by rw [no h];rfl,fun h=> ?_⟩
 have hx:=bg.1 h.1
 have hy:=bg.1 h.2
 refine au (fun(y:Int×Int×Sym×Int×Int×List (List aj)×Int×List aj×List aj×Int×List Ev×Unit)=>y.1=n∧y.2.2.1=s∧y.2.2.2.2.2.2.1=s.fin∧y.2.2.2.2.2.2.2.2.2.1=s.k∧0≤y.2.1∧y.2.1≤s.events.length∧y.2.2.2.2.2.2.2.2.2.2.1=s.events.take y.2.1.toNat) (fun y=>(s.events.length-y.2.1).toNat) ⟨rfl,rfl,rfl,rfl,by simp,by simp,by simp⟩ ?_
 rintro⟨(n':Int),(i:Int),(s':Sym),(z1:Int),(z2:Int),(z3:List (List aj)),(fin:Int),(z4:List aj),(z5:List aj),(k:Int),(ev:List Ev),⟨⟩⟩ hI
 dsimp only at hI ⊢
 obtain⟨rfl,rfl,rfl,rfl,h1,h2,rfl⟩:=hI
 have E:=hs.e.at i.toNat
 have tl:=List.length_take_le' i.toNat s'.events
 by_cases g:i<s'.events.length
 ·simp (disch:=omega) only [RR,RB,g,hp3 _ E.1,hf3 _ E.1,hp3 _ E.2.1,hf3 _ E.2.1,hp6 _ E.2.2,hf6 _ E.2.2]
  exact⟨h1,by simp only [List.length_cons,List.length_nil];omega,⟨by omega,by omega,bU h1 g rfl⟩,by omega⟩
 ·have ef:s'.events.take i.toNat=s'.events:=List.take_of_length_le (by omega)
  rw [ef]
  simp (disch:=omega) only [RR,RB,g,hp3 _ hs.x,hf3 _ hs.x,hp3 _ hs.y,hf3 _ hs.y,hp6 _ hs.r,hf6 _ hs.r,hp1 _ hs.x,hf1 _ hs.x,hp4,hf4]
  have b:¬bp (aL s'.x∧aL s'.y)=false:=by rw [dH ⟨hx,hy⟩];decide
  have P:=fun f=>hp5 s' n' hs hx hy f
  have F:=fun f=>hf5 s' n' hs hx hy f
  have pl:s'.fin≠3∧s'.fin≠4→¬(s'.fin=2∧(bM s'.x).2=true)→symEnd s' n'=s':=fun c d=>by unfold symEnd;rw [if_neg b,if_neg d,if_pos c]
  refine⟨fun f=>⟨fun g=> ?_,fun g=> ?_⟩,fun f=>⟨fun k=>⟨fun _=>⟨P (Or.inl k),?_⟩,fun e=>absurd k e⟩,fun k=>⟨fun l=>⟨P (Or.inr l),?_⟩,fun l=> ?_⟩⟩⟩
  ·unfold symEnd;rw [if_neg b,if_pos ⟨f,g⟩]
  ·rw [pl (by omega) (by rw [g];simp)]
  ·exact congrArg (fun z=>(z.1,())) (F (Or.inl k))
  ·exact congrArg (fun z=>(z.1,())) (F (Or.inr l))
  ·rw [pl ⟨k,l⟩ (fun h=>f h.1)]
end Go.TX.F
namespace Go.TX.F
open Go Go.AE Go.TX
structure Cn (s:SS):Prop where
 ld:s.ld=pz s.evs 4
 inn:s.inn=pz s.evs 6
theorem Cn.stp {s:SS} (h:Cn s) (o:IOp):Cn (stp s o):=by
 constructor
 ·show(if o.kind=4 then s.ld+1 else s.ld)=pz (nE s o) 4
  unfold nE
  by_cases c:evO o
  ·rw [if_pos c,vG,h.ld]
  ·rw [if_neg c,if_neg (fun e=>c (by unfold evO;omega)),h.ld]
 ·show(if o.kind=6 then s.inn+1 else s.inn)=pz (nE s o) 6
  unfold nE
  by_cases c:evO o
  ·rw [if_pos c,vG,h.inn]
  ·rw [if_neg c,if_neg (fun e=>c (by unfold evO;omega)),h.inn]
theorem Cn.run:∀(l:List IOp) (s:SS),Cn s→Cn (l.foldl Go.TX.F.stp s)
 | [],_,h=>h
 | o::r,s,h=>Cn.run r _ (h.stp o)
structure Pt2 (t:List Atom) (b:Blk) (i:Nat) (tb:List Atom) (V:List (List aj)) (ev:List Ev) (rg:List (List aj)):Prop where
 tb:tb=(SW t b i).t
 V:V=(SW t b i).vals
 ev:ev=(SW t b i).evs
 rg:rg=(SW t b i).regs
theorem Pt2.next {t:List Atom} {b:Blk} {i:Nat} {tb:List Atom} {V:List (List aj)} {ev:List Ev} {rg:List (List aj)} (h:Pt2 t b i tb V ev rg) (hi:i<b.ops.length) {o:IOp} (ho:b.ops.getD i default=o)
  {v:List aj} {tb':List Atom} {ev':List Ev} {rg':List (List aj)} (h3:tb'=nT (SW t b i) o) (h4:v=nV (SW t b i) o) (h5:ev'=nE (SW t b i) o) (h6:rg'=nR (SW t b i) o):Pt2 t b (i+1) tb' (V++ [v]) ev' rg':=by
 have e:=Ui (t:=t) hi
 rw [ho]at e
 refine⟨?_,?_,?_,?_⟩<;>rw [e]
 ·exact h3
 ·rw [h.V,h4];rfl
 ·exact h5
 ·exact h6
theorem G6 {α:Type} {l:List α} {i:Nat} (h:i<l.length) (v:α):(l.set i v).take (i+1)=l.take i++ [v]:=by
 rw [List.take_succ_eq_append_getElem (by rw [List.length_set];exact h),List.getElem_set_self,List.take_set_of_le (Nat.le_refl _)]
set_option maxHeartbeats 1000000 in
theorem ahJ {p1:Blk×Unit→Bool} {f1:Blk×Unit→Bool×Unit} (hp1:∀b,b.ops.length<1000000000→p1 (b,())=true) (hf1:∀b,b.ops.length<1000000000→f1 (b,())=(bp (kW b),())) {p2:Int×Unit→Bool} {f2:Int×Unit→List aj×Unit} (hp2:∀n,p2 (n,())=true) (hf2:∀n,f2 (n,())=(fE n,())) {p3:Int×Unit→Bool} {f3:Int×Unit→List aj×Unit} (hp3:∀n,p3 (n,())=true) (hf3:∀n,f3 (n,())=(dw n,())) {p4:Sym×Int×Unit→Bool} {f4:Sym×Int×Unit→Sym×Unit} (hp4:∀s n,ShY s→p4 (s,n,())=true) (hf4:∀s n,ShY s→f4 (s,n,())=(symEnd s n,())) {p5:Unit→Bool} {f5:Unit→List Atom×List (List aj)×Unit} (hp5:p5 ()=true) (hf5:Oj 4 (f5 ()).1∧(f5 ()).2.1.length=4∧∀p∈(f5 ()).2.1,Sh p) {p6:List Atom×Unit→Bool} {f6:List Atom×Unit→Bool×Unit} (hp6:∀a,ShT a→p6 (a,())=true) (hf6:∀a,ShT a→f6 (a,())=(bp (aF a),())) {p7:List aj×Unit→Bool} {f7:List aj×Unit→List aj×Unit} (hp7:∀a,Sh a→p7 (a,())=true) (hf7:∀a,Sh a→f7 (a,())=(a,())) {p8:List Atom×Unit→Bool} {f8:List Atom×Unit→List Atom×Unit} (hp8:∀a,ShT a→p8 (a,())=true) (hf8:∀a,ShT a→f8 (a,())=(a,())) {p9:Int×List aj×List aj×List Atom×Unit→Bool} {f9:Int×List aj×List aj×List Atom×Unit→List Atom×List aj×Unit} (hp9:∀op x y t,(1≤op∧op≤5)→Sh x→Sh y→ShT t→aF t→p9 (op,x,y,t,())=true) (hf9:∀op x y t,(1≤op∧op≤5)→Sh x→Sh y→ShT t→aF t→f9 (op,x,y,t,())=((tDo t op x y).1,(tDo t op x y).2,())) {p10:Atom×List Atom×Unit→Bool} {f10:Atom×List Atom×Unit→Int×List Atom×Unit} (abQ:∀a t,ShA a→ShT t→aF t→p10 (a,t,())=true) (ahD:∀a t,ShA a→ShT t→aF t→f10 (a,t,())=((aX t a).2,(aX t a).1,())) {p11:List Ev×Int×List Atom×Unit→Bool} {f11:List Ev×Int×List Atom×Unit→List Atom×List aj×Unit} (abR:∀l k t,l.length<1000000000→ShT t→aF t→p11 (l,k,t,())=true) (abS:∀l k t,l.length<1000000000→ShT t→aF t→f11 (l,k,t,())=((aX t ⟨if k=6 then 3 else 2,pz l k,[],[]⟩).1,fE (aX t ⟨if k=6 then 3 else 2,pz l k,[],[]⟩).2,())) {p12:IOp×List aj×List aj×List (List aj)×Unit→Bool} {f12:IOp×List aj×List aj×List (List aj)×Unit→Int×Int×List aj×List aj×List (List aj)×Unit} (RA:∀o x y r,Sh x→Sh y→ShP r→p12 (o,x,y,r,())=true) (RD:∀o x y r,Sh x→Sh y→ShP r→f12 (o,x,y,r,())=(o.kind,o.at_,if o.kind=6 then []else x,if o.kind=5 then y else [],if o.kind=4∨o.kind=5 then r else [],())) {p13:Int×List (List aj)×Unit→Bool} {f13:Int×List (List aj)×Unit→List aj×List (List aj)×Unit} (JW:∀k l,p13 (k,l,())=true) (abT:∀k l,f13 (k,l,())=(if k<0∨(l.length:Int)≤k then []else((l).getD (k).toNat default),l,())) {p14:List (List aj)×Unit→Bool} {f14:List (List aj)×Unit→List (List aj)×Unit} (arC:∀a,ShP a→p14 (a,())=true) (arD:∀a,ShP a→f14 (a,())=(a,())) {p15:Blk×Unit→Bool} {f15:Blk×Unit→Int×Unit} (arE:∀b,p15 (b,())=true) (arF:∀b,f15 (b,())=(if b.fin=1 then-1 else b.x,())) {p16:Blk×Unit→Bool} {f16:Blk×Unit→Int×Unit} (arG:∀b,p16 (b,())=true) (arH:∀b,f16 (b,())=(if b.fin=1∨b.fin=2 then-1 else b.y,())) (t:List Atom) (b:Blk) (ht:ShT t) (hb:b.ops.length<1000000000):QW (std 0) p1 f1 p2 f2 p3 f3 p4 f4 p5 f5 p6 f6 p7 f7 p8 f8 p9 f9 p10 f10 p11 f11 p12 f12 p13 f13 p14 f14 p15 f15 p16 f16 (t,b,()) (fun y=>y=((bK t b).1,(bK t b).2,())):=by
 have hlt:=ht.1
 dsimp only [QW,Alg.cl,Alg.cg,Alg.rb,Alg.bd,Alg.l1,Tup.q,Tup.o]
 simp (disch:=omega) only [RR,RB,hp6 t ht,hf6 t ht,hp1 b hb,hf1 b hb,hp8 t ht,hf8 t ht,hp5]
 by_cases c:aF t∧t.length≤100∧kW b
 case neg=>
  refine⟨fun _=> ?_,fun h=> ?_⟩
  ·unfold bK;rw [cZ c];rfl
  ·exact absurd ⟨bg.1 h.1.1,by omega,bg.1 h.1.2⟩ c
 obtain⟨c1,c2,c3⟩:=c
 simp (disch:=omega) only [RR,dH c1,dH c3]
 have sz:=c3.sz
 have hop:=c3.op
 have hk3:=c3.k3
 have i0:=Iy c1 (by omega)
 obtain⟨_,g5,_⟩:=hf5
 refine⟨fun h=>absurd h (by omega),fun _=> ?_⟩
 refine au (fun(y:Int×Blk×Int×Int×Int×Int×List (List aj)×List Atom×Unit)=>0≤y.1∧y.1≤4∧y.2.1=b∧y.2.2.2.2.1=b.fin∧y.2.2.2.2.2.1=b.k∧y.2.2.2.2.2.2.1.length=4∧y.2.2.2.2.2.2.1.take y.1.toNat=(rN t y.1.toNat).2∧y.2.2.2.2.2.2.2.1=(rN t y.1.toNat).1) (fun y=>(4-y.1).toNat) ⟨by simp,by simp,rfl,rfl,rfl,g5,by simp;rfl,rfl⟩ ?_
 rintro⟨(r:Int),(b':Blk),(z1:Int),(z2:Int),(fin:Int),(kk:Int),(rg:List (List aj)),(tb:List Atom),⟨⟩⟩ hI
 dsimp only at hI ⊢
 obtain⟨r0,r1,rfl,rfl,rfl,r4,r5,rfl⟩:=hI
 have ok:=BF c1 (by omega) r.toNat (by omega)
 have okl:=ok.tl
 by_cases h:r<4
 ·have sA:ShA ⟨1,r,[],[]⟩:=⟨⟨by simp,fun m hm=>absurd hm (by simp)⟩,⟨by simp,fun m hm=>absurd hm (by simp)⟩⟩
  have er:((r.toNat:Nat):Int)=r:=by omega
  simp (disch:=omega) only [RR,h,abQ _ _ sA ok.tok.sh ok.tok,ahD _ _ sA ok.tok.sh ok.tok,hp2,hf2,r4,List.length_set]
  have es:rN t (r+1).toNat=((aX (rN t r.toNat).1 ⟨1,r,[],[]⟩).1,(rN t r.toNat).2++ [fE (aX (rN t r.toNat).1 ⟨1,r,[],[]⟩).2]):=by
   rw [show(r+1).toNat=r.toNat+1 by omega,Ci,er]
  refine⟨r0,by omega,r0,by omega,⟨by omega,by omega,?_,by rw [es]⟩,by omega⟩
  rw [es,show(r+1).toNat=r.toNat+1 by omega,G6 (by omega),r5]
 ·have e4:r.toNat=4:=by omega
  rw [e4]at r5 ok
  have eg:rg=(rN t 4).2:=by rw [←r5,List.take_of_length_le (by omega)]
  subst eg
  rw [e4]
  simp (disch:=omega) only [RR,h]
  refine au (fun(y:Int×Blk×Int×Int×Int×Int×List (List aj)×List (List aj)×List Atom×List Ev×Unit)=>0≤y.1∧y.1≤b'.ops.length∧y.2.1=b'∧y.2.2.2.2.1=b'.fin∧y.2.2.2.2.2.1=b'.k∧Pt2 t b' y.1.toNat y.2.2.2.2.2.2.2.2.1 y.2.2.2.2.2.2.2.1 y.2.2.2.2.2.2.2.2.2.1 y.2.2.2.2.2.2.1) (fun y=>(b'.ops.length-y.1).toNat) ⟨by simp,by simp,rfl,rfl,rfl,⟨rfl,rfl,rfl,rfl⟩⟩ ?_
  have siw:∀j:Nat,j≤b'.ops.length→SI (t.length+4) j (SW t b' j):=fun j hj=>by
   have:=(yg (b'.ops.take j) 0 (s0 t) i0 (fun o ho=>hk3 o (List.mem_of_mem_take ho)) (by rw [List.length_take];omega) (by rw [List.length_take];omega)).1
   rw [List.length_take,Nat.min_eq_left hj,Nat.zero_add]at this;exact this
  rintro⟨(i:Int),(b:Blk),(z1:Int),(z2:Int),(fin:Int),(kk:Int),(rg:List (List aj)),(V:List (List aj)),(tb:List Atom),(ev:List Ev),⟨⟩⟩ hI
  dsimp only at hI ⊢
  obtain⟨h1,h2,rfl,rfl,rfl,hA⟩:=hI
  have si:=siw i.toNat (by omega)
  have evl:=Zx (t:=t) (b:=b) i.toNat (by omega)
  have cn:=Cn.run (b.ops.take i.toNat) (s0 t) ⟨rfl,rfl⟩
  have cn:Cn (SW t b i.toNat):=cn
  by_cases h7:i<b.ops.length
  case neg=>
   have en:=c3.en
   have hf:=en.f
   have hpc:=c3.pc
   have hln:=c3.ln
   have ein:i.toNat=b.ops.length:=by omega
   have eS:SW t b i.toNat=gL t b:=by unfold SW gL;rw [ein,List.take_of_length_le (Nat.le_refl _)]
   obtain⟨a3,a4,a5,a6⟩:=hA
   rw [eS]at a3 a4 a5 a6 si
   subst a3 a4 a5 a6
   have pk:=JR (b:=b) si
   have eR:=rz c1 c2 c3
   have sh:ShY (za b (gL t b)):=by
    have hs:=JQ b.ops 0 (s0 t) i0 hk3 (by omega) (by omega) ⟨by simp [s0],fun e he=>absurd he (by simp [s0])⟩
    exact⟨⟨by have:=hs.1;show(b.ops.foldl stp (s0 t)).evs.length<_;omega,hs.2⟩,si.regs,pk.1.sh,pk.2.sh⟩
   have sl:=si.vl
   have x1:=en.x1
   have y1:=en.y1
   have EX:f13 (if b.fin=1 then-1 else b.x,(gL t b).vals,())=((za b (gL t b)).x,(gL t b).vals,()):=by
    rw [abT]
    show _=(if b.fin=1 then []else(((gL t b).vals).getD (b.x).toNat default),_)
    by_cases c:b.fin=1
    ·rw [if_pos c,if_pos c,if_pos (by omega)]
    ·obtain⟨v1,v2,_⟩:=x1 c
     rw [if_neg c,if_neg c,if_neg (by omega)]
   have EY:f13 (if b.fin=1∨b.fin=2 then-1 else b.y,(gL t b).vals,())=((za b (gL t b)).y,(gL t b).vals,()):=by
    rw [abT]
    show _=(if 3≤b.fin then(((gL t b).vals).getD (b.y).toNat default)else [],_)
    by_cases c:b.fin=1∨b.fin=2
    ·rw [if_pos c,if_pos (Or.inl (by decide)),if_neg (show¬3≤b.fin by omega)]
    ·obtain⟨v1,v2,_⟩:=y1 (by omega)
     rw [if_neg c,if_neg (show¬(b.y<0∨((gL t b).vals.length:Int)≤b.y) by omega),if_pos (show 3≤b.fin by have:=hf;omega)]
   have shr:ShP (gL t b).regs:=sh.r
   simp (disch:=omega) only [RR,RB,h7,arC _ shr,arD _ shr,arE,arF,arG,arH,JW,EX,EY,hp7 _ sh.x,hf7 _ sh.x,hp7 _ sh.y,hf7 _ sh.y]
   exact⟨hp4 _ _ sh,by rw [eR];exact congrArg (fun z=>((gL t b).t,z.1,())) (hf4 (za b (gL t b)) (b.pc+b.len) sh)⟩
  have hok:=hop i h1 h7
  have nxt:=fun {v:List aj} {tb':List Atom} {ev':List Ev} {rg':List (List aj)}=>Pt2.next (o:=((b.ops).getD (i).toNat default)) hA (by omega) rfl (v:=v) (tb':=tb') (ev':=ev') (rg':=rg')
  obtain⟨a3,a4,a5,a6⟩:=hA
  have ei:(i+1).toNat=i.toNat+1:=by omega
  obtain⟨sn,so⟩:=GD (o:=((b.ops).getD (i).toNat default)) si hok.k3 (by omega) (by omega)
  have vl:=si.vl
  have shv:∀k:Int,Sh (if k<0∨(V.length:Int)≤k then []else((V).getD (k).toNat default)):=fun k=>by
   split
   ·exact⟨by simp,fun m hm=>absurd hm (by simp)⟩
   ·rw [a4];exact(Ar si.vok k).1.sh
  obtain⟨X,eX⟩:∃X,X=if(((b.ops).getD (i).toNat default)).x<0∨(V.length:Int)≤(((b.ops).getD (i).toNat default)).x then []else((V).getD ((((b.ops).getD (i).toNat default)).x).toNat default):=⟨_,rfl⟩
  obtain⟨Y,eY⟩:∃Y,Y=if(((b.ops).getD (i).toNat default)).y<0∨(V.length:Int)≤(((b.ops).getD (i).toNat default)).y then []else((V).getD ((((b.ops).getD (i).toNat default)).y).toNat default):=⟨_,rfl⟩
  have F1:f13 ((((b.ops).getD (i).toNat default)).x,V,())=(X,V,()):=by rw [abT,eX]
  have F2:f13 ((((b.ops).getD (i).toNat default)).y,V,())=(Y,V,()):=by rw [abT,eY]
  have shx:Sh X:=eX▸shv _
  have shy:Sh Y:=eY▸shv _
  have ex:hX ((b.ops).getD (i).toNat default)→X=xOf (SW t b i.toNat) ((b.ops).getD (i).toNat default):=fun h=>by
   have v:=hok.x1 h
   have v2:=v.2.1
   unfold xOf;rw [if_pos h,eX,if_neg (by rw [a4,vl];have:=v.1;omega),a4]
  have ey:hY ((b.ops).getD (i).toNat default)→Y=yOf (SW t b i.toNat) ((b.ops).getD (i).toNat default):=fun h=>by
   have v:=hok.y1 h
   have v2:=v.2.1
   unfold yOf;rw [if_pos h,eY,if_neg (by rw [a4,vl];have:=v.1;omega),a4]
  clear eX eY shv
  have vl':V.length=i.toNat:=by rw [a4];exact vl
  generalize hs:SW t b i.toNat=s at*
  generalize ho:((b.ops).getD (i).toNat default)=o at*
  have kd:=hok.kd
  subst a3 a5 a6
  have r4:s.regs.length=4:=si.r4
  have tsh:=si.tok.sh
  have cnl:=cn.ld
  have cni:=cn.inn
  have rsh:ShP s.regs:=si.regs
  have dn:=fun {v:List aj} {tb':List Atom} {ev':List Ev} {rg':List (List aj)} (h3:tb'=nT s o) (h4:v=nV s o) (h5:ev'=nE s o) (h6:rg'=nR s o)=>show((V.length:Int)+([v].length:Int)≤1073741824)∧(0≤i+1∧i+1≤b.ops.length∧Pt2 t b (i+1).toNat tb' (V++ [v]) ev' rg')∧(b.ops.length- (i+1)).toNat< (b.ops.length-i).toNat from⟨by simp only [List.length_cons,List.length_nil];omega,⟨by omega,by omega,by rw [ei];exact nxt h3 h4 h5 h6⟩,by omega⟩
  have el1:∀e:Ev,(s.evs.length:Int)+([e].length:Int)≤1073741824:=fun e=>by simp only [List.length_cons,List.length_nil];omega
  have T0:o.kind≠3→o.kind≠4→o.kind≠6→s.t=nT s o:=fun h3 h4 h6=>by unfold nT;rw [if_neg h3,if_neg (by omega)]
  have R0:o.kind≠8→s.regs=nR s o:=fun h=>by unfold nR;rw [if_neg h]
  have E0:¬evO o→s.evs=nE s o:=fun h=>by unfold nE;rw [if_neg h]
  have V0:o.kind=5∨o.kind=7∨o.kind=8→[]=nV s o:=fun h=>by unfold nV;rw [if_neg (by omega),if_neg (by omega),if_neg (by omega),if_neg (by omega)]
  rcases(by omega:o.kind=1∨o.kind=2∨o.kind=3∨o.kind=4∨o.kind=5∨o.kind=6∨o.kind=7∨o.kind=8)with c | c | c | c | c | c | c | c
  ·simp (disch:=omega) only [RR,RB,ho,h7,JW,F1,F2,c,Int.reduceEq,hp3,hf3]
   exact⟨h1,dn (T0 (by omega) (by omega) (by omega)) (show dw o.k=nV s o by unfold nV;rw [if_pos c]) (E0 (by unfold evO;omega)) (R0 (by omega))⟩
  ·have k2:=hok.k2 (Or.inl c)
   simp (disch:=omega) only [RR,RB,ho,h7,JW,F1,F2,c,Int.reduceEq,r4]
   exact⟨h1,k2.1,by omega,k2.1,by omega,dn (T0 (by omega) (by omega) (by omega)) (show((s.regs).getD (o.k).toNat default)=nV s o by unfold nV;rw [if_neg (by omega),if_pos c]) (E0 (by unfold evO;omega)) (R0 (by omega))⟩
  ·have d9:=hok.k3 c
   simp (disch:=omega) only [RR,RB,ho,h7,JW,F1,F2,c,Int.reduceEq,hp9 o.k _ _ _ d9 shx shy tsh si.tok,hf9 o.k _ _ _ d9 shx shy tsh si.tok]
   have e1:=ex (by unfold hX;omega)
   have e2:=ey (by unfold hY;omega)
   exact⟨h1,dn (show(tDo s.t o.k X Y).1=nT s o by unfold nT;rw [if_pos c,e1,e2]) (show(tDo s.t o.k X Y).2=nV s o by unfold nV;rw [if_neg (by omega),if_neg (by omega),if_pos c,e1,e2]) (E0 (by unfold evO;omega)) (R0 (by omega))⟩
  ·have el:s.evs.length<1000000000:=by omega
   have ea:aOf s o=⟨2,pz s.evs 4,[],[]⟩:=by unfold aOf;rw [if_pos c,cnl]
   have e1:=ex (by unfold hX;omega)
   have e2:yOf s o=[]:=by unfold yOf;rw [if_neg (by unfold hY;omega)]
   simp (disch:=omega) only [RR,RB,ho,h7,JW,F1,F2,c,Int.reduceEq,abR s.evs 4 s.t el tsh si.tok,abS s.evs 4 s.t el tsh si.tok,RA o X Y s.regs shx shy rsh,RD o X Y s.regs shx shy rsh,el1]
   exact⟨h1,dn (by unfold nT;rw [if_neg (by omega),if_pos (Or.inl c),ea]) (by unfold nV;rw [if_neg (by omega),if_neg (by omega),if_neg (by omega),if_pos (Or.inl c),ea]) (by unfold nE;rw [if_pos (by unfold evO;omega),if_pos (Or.inl c),c,e1,e2]) (R0 (by omega))⟩
  ·have e1:=ex (by unfold hX;omega)
   have e2:=ey (by unfold hY;omega)
   simp (disch:=omega) only [RR,RB,ho,h7,JW,F1,F2,c,Int.reduceEq,RA o X Y s.regs shx shy rsh,RD o X Y s.regs shx shy rsh,el1]
   exact⟨h1,dn (T0 (by omega) (by omega) (by omega)) (V0 (by omega)) (by unfold nE;rw [if_pos (by unfold evO;omega),if_pos (Or.inr c),c,e1,e2]) (R0 (by omega))⟩
  ·have el:s.evs.length<1000000000:=by omega
   have ea:aOf s o=⟨3,pz s.evs 6,[],[]⟩:=by unfold aOf;rw [if_neg (by omega),cni]
   have e1:xOf s o=[]:=by unfold xOf;rw [if_neg (by unfold hX;omega)]
   have e2:yOf s o=[]:=by unfold yOf;rw [if_neg (by unfold hY;omega)]
   simp (disch:=omega) only [RR,RB,ho,h7,JW,F1,F2,c,Int.reduceEq,abR s.evs 6 s.t el tsh si.tok,abS s.evs 6 s.t el tsh si.tok,RA o X Y s.regs shx shy rsh,RD o X Y s.regs shx shy rsh,el1]
   exact⟨h1,dn (by unfold nT;rw [if_neg (by omega),if_pos (Or.inr c),ea]) (by unfold nV;rw [if_neg (by omega),if_neg (by omega),if_neg (by omega),if_pos (Or.inr c),ea]) (by unfold nE;rw [if_pos (by unfold evO;omega),if_neg (by omega),c,e1,e2]) (R0 (by omega))⟩
  ·have e1:=ex (by unfold hX;omega)
   have e2:yOf s o=[]:=by unfold yOf;rw [if_neg (by unfold hY;omega)]
   simp (disch:=omega) only [RR,RB,ho,h7,JW,F1,F2,c,Int.reduceEq,RA o X Y s.regs shx shy rsh,RD o X Y s.regs shx shy rsh,el1]
   exact⟨h1,dn (T0 (by omega) (by omega) (by omega)) (V0 (by omega)) (by unfold nE;rw [if_pos (by unfold evO;omega),if_neg (by omega),c,e1,e2]) (R0 (by omega))⟩
  ·have k2:=hok.k2 (Or.inr c)
   have e1:=ex (by unfold hX;omega)
   simp (disch:=omega) only [RR,RB,ho,h7,JW,F1,F2,c,Int.reduceEq,r4]
   exact⟨h1,k2.1,by omega,k2.1,by omega,dn (T0 (by omega) (by omega) (by omega)) (V0 (by omega)) (E0 (by unfold evO;omega)) (by unfold nR;rw [if_pos c,e1])⟩
end Go.TX.F
namespace Go.TX.F
open Go Go.AE Go.TX
theorem ahK {α:Type} [Inhabited α] (l:List α) (a:α) (i:Int) (h:0≤i):((l++ [a]).getD (i).toNat default)=if i=l.length then a else((l).getD (i).toNat default):=by
 by_cases c:i=l.length
 ·rw [if_pos c,c,List.getD_eq_getElem?_getD];simp
 ·rw [if_neg c,List.getD_eq_getElem?_getD,List.getD_eq_getElem?_getD]
  by_cases d:i.toNat<l.length
  ·rw [List.getElem?_append_left d]
  ·rw [List.getElem?_eq_none (by rw [List.length_append,List.length_singleton];omega),List.getElem?_eq_none (by omega)]
theorem VA {n:Int} {t u:List Atom} (h:Oj n t) (g:Oj n u):t=u:=by
 obtain⟨h1,h2⟩:=h
 obtain⟨g1,g2⟩:=g
 exact nS (by omega) fun i i0 i1=>by
  have a:=h2 i i0 (by omega)
  have b:=g2 i i0 (by omega)
  exact a.trans b.symm
theorem Uj:∀n:Nat,n≤4→Oj n (rN [] n).1
 | 0,_=>⟨rfl,All.zero⟩
 | n+1,hn=>by
  obtain⟨h1,h2⟩:=Uj n (by omega)
  have ok:=BF vF (by simp) n (by omega)
  have e:aX (rN [] n).1 ⟨1,n,[],[]⟩=((rN [] n).1++ [⟨1,n,[],[]⟩],((rN [] n).1.length:Int)):=by
   rcases jC (rN [] n).1 ⟨1,n,[],[]⟩with⟨f1,f2⟩ | ⟨f1,f2,f3,_⟩
   ·unfold aX
    rw [if_neg (by omega),if_neg]
    rintro(g | g)
    ·exact g (by unfold gY;rw [if_neg (by simp)];exact⟨⟨rfl,rfl⟩,Or.inl ⟨rfl,by dsimp only;omega,by dsimp only;omega⟩⟩)
    ·omega
   ·exfalso
    have a:=h2 _ f1 (by omega)
    dsimp only at a f3
    rw [a]at f3
    injection f3 with _ g
    omega
  have e2:(rN [] (n+1)).1=(rN [] n).1++ [⟨1,n,[],[]⟩]:=by rw [Ci,e]
  rw [e2]
  refine⟨by rw [List.length_append,List.length_singleton];omega,fun i i0 i1=> ?_⟩
  dsimp only
  rw [ahK _ _ _ i0]
  by_cases c:i=((rN [] n).1.length:Int)
  ·rw [if_pos c,c,h1]
  ·rw [if_neg c];exact h2 i i0 (by omega)
theorem aos {t:List Atom} (h:Oj 4 t):t=t4:=VA h (Uj 4 (Nat.le_refl _))
end Go.TX.F
namespace Go.TX.F
open Go Go.AE Go.TX
theorem ahL {p1:List aj×List aj×Unit→Bool} {f1:List aj×List aj×Unit→Int×Unit} (hp1:∀a b,Sh a→p1 (a,b,())=true) (hf1:∀a b,Sh a→f1 (a,b,())=(eU a b,())) (a b:List (List aj)) (ha:ShP a):QZ (std 0) p1 f1 (a,b,()) (fun y=>y=(bp (a=b),())):=by
 have hlen:=ha.1
 dsimp only [QZ,Alg.cl,Alg.cg,Alg.rb,Alg.bd,Alg.l1,Tup.q,Tup.o]
 simp (disch:=omega) only [RR]
 refine⟨fun h=> ?_,fun h=> ?_⟩
 ·rw [cZ (fun e=>h (by rw [e]))]
 have hl:a.length=b.length:=by omega
 refine au (fun(y:List (List aj)×List (List aj)×Int×Unit)=>y.1=a∧y.2.1=b∧0≤y.2.2.1∧y.2.2.1≤a.length∧All y.2.2.1 (fun i=>a.getD i.toNat default=b.getD i.toNat default)) (fun y=>(a.length-y.2.2.1).toNat) ⟨rfl,rfl,by simp,by simp,All.zero⟩ ?_
 rintro⟨(l1:List (List aj)),(l2:List (List aj)),(i:Int),⟨⟩⟩ hI
 dsimp only at hI ⊢
 obtain⟨rfl,rfl,h1,h2,h3⟩:=hI
 simp (disch:=omega) only [RR,hp1 _ _ (ha.at _),hf1 _ _ (ha.at _),iG]
 refine⟨fun h4=>⟨by omega,by omega,by omega,by omega,fun h5=> ?_,fun h5=>⟨⟨by omega,by omega,h3.snoc h5⟩,by omega⟩⟩,fun h4=> ?_⟩
 ·rw [cZ]
  intro e;rw [e]at h5;exact h5 rfl
 ·rw [dH (nS hl (h3.le (by omega)))]
theorem ahM {p1:List aj×List aj×Unit→Bool} {f1:List aj×List aj×Unit→Int×Unit} (hp1:∀a b,Sh a→p1 (a,b,())=true) (hf1:∀a b,Sh a→f1 (a,b,())=(eU a b,())) {p2:List (List aj)×List (List aj)×Unit→Bool} {f2:List (List aj)×List (List aj)×Unit→Bool×Unit} (hp2:∀a b,ShP a→p2 (a,b,())=true) (hf2:∀a b,ShP a→f2 (a,b,())=(bp (a=b),())) (a b:Ev) (ha:ShE a):Q0 (std 0) p1 f1 p2 f2 (a,b,()) (fun y=>y=(bp (a=b),())):=by
 dsimp only [Q0,Alg.cl,Alg.cg,Alg.rb,Alg.bd,Alg.l1,Tup.q,Tup.o]
 simp (disch:=omega) only [RR,RB,hp1 _ _ ha.1,hf1 _ _ ha.1,hp1 _ _ ha.2.1,hf1 _ _ ha.2.1,hp2 _ _ ha.2.2,hf2 _ _ ha.2.2,iG]
 simp only [JV,←o8]
 refine Prod.ext (o9 ?_) rfl
 cases a;cases b;simp only [Ev.mk.injEq]
 constructor<;>(intro h;simp only [h,and_self])
theorem ahN {p1:List aj×List aj×Unit→Bool} {f1:List aj×List aj×Unit→Int×Unit} (hp1:∀a b,Sh a→p1 (a,b,())=true) (hf1:∀a b,Sh a→f1 (a,b,())=(eU a b,())) {p2:Ev×Ev×Unit→Bool} {f2:Ev×Ev×Unit→Bool×Unit} (hp2:∀a b,ShE a→p2 (a,b,())=true) (hf2:∀a b,ShE a→f2 (a,b,())=(bp (a=b),())) {p3:List (List aj)×List (List aj)×Unit→Bool} {f3:List (List aj)×List (List aj)×Unit→Bool×Unit} (hp3:∀a b,ShP a→p3 (a,b,())=true) (hf3:∀a b,ShP a→f3 (a,b,())=(bp (a=b),())) (a b:Sym) (ha:ShY a):Q7 (std 0) p1 f1 p2 f2 p3 f3 (a,b,()) (fun y=>y=(bp (a=b),())):=by
 dsimp only [Q7,Alg.cl,Alg.cg,Alg.rb,Alg.bd,Alg.l1,Tup.q,Tup.o]
 simp (disch:=omega) only [RR,RB,hp1 _ _ ha.x,hf1 _ _ ha.x,hp1 _ _ ha.y,hf1 _ _ ha.y,hp3 _ _ ha.r,hf3 _ _ ha.r,iG,bg,jd]
 have hlen:=ha.e.1
 refine⟨fun h=> ?_,fun h=> ?_⟩
 ·rw [cZ];rintro rfl
  revert h;simp
 refine au (fun(y:Int×Sym×Sym×Unit)=>y.2.1=a∧y.2.2.1=b∧0≤y.1∧y.1≤a.events.length∧All y.1 (fun i=>a.events.getD i.toNat default=b.events.getD i.toNat default)) (fun y=>(a.events.length-y.1).toNat) ⟨rfl,rfl,by simp,by simp,All.zero⟩ ?_
 rintro⟨(i:Int),(a':Sym),(b':Sym),⟨⟩⟩ hI
 dsimp only at hI ⊢
 obtain⟨rfl,rfl,h1,h2,h3⟩:=hI
 have hl:a'.events.length=b'.events.length:=by
  have:=h.1.1.1.1.1;omega
 simp (disch:=omega) only [RR,RB,hp2 _ _ (ha.e.at _),hf2 _ _ (ha.e.at _),bg,jd]
 refine⟨fun h4=>⟨by omega,by omega,by omega,by omega,fun h5=> ?_,fun h5=>⟨⟨by omega,by omega,h3.snoc h5⟩,by omega⟩⟩,fun h4=> ?_⟩
 ·rw [cZ]
  rintro rfl;exact h5 rfl
 ·rw [dH]
  obtain⟨⟨⟨⟨⟨g1,g2⟩,g3⟩,g4⟩,g5⟩,g6⟩:=h
  exact Sym.ext (nS hl (h3.le (by omega))) g2 (by omega) g5 g6 (by omega)
theorem ahO {p1:Blk×Unit→Bool} {f1:Blk×Unit→Bool×Unit} (hp1:∀b,b.ops.length<1000000000→p1 (b,())=true) (hf1:∀b,b.ops.length<1000000000→f1 (b,())=(bp (kW b),())) {p2:Blk×Blk×Unit→Bool} {f2:Blk×Blk×Unit→Bool×Unit} (hp2:∀a b,a.ops.length<1000000000→p2 (a,b,())=true) (hf2:∀a b,a.ops.length<1000000000→f2 (a,b,())=(bp (a=b),())) {p3:Unit→Bool} {f3:Unit→List Atom×List (List aj)×Unit} (hp3:p3 ()=true) (hf3:Oj 4 (f3 ()).1∧(f3 ()).2.1.length=4∧∀p∈(f3 ()).2.1,Sh p) {p4:List Atom×Blk×Unit→Bool} {f4:List Atom×Blk×Unit→List Atom×Sym×Unit} (hp4:∀t b,ShT t→b.ops.length<1000000000→p4 (t,b,())=true) (hf4:∀t b,ShT t→b.ops.length<1000000000→f4 (t,b,())=((bK t b).1,(bK t b).2,())) {p5:Sym×Sym×Unit→Bool} {f5:Sym×Sym×Unit→Bool×Unit} (hp5:∀a b,ShY a→p5 (a,b,())=true) (hf5:∀a b,ShY a→f5 (a,b,())=(bp (a=b),())) (b c:Blk) (hb:b.ops.length<1000000000) (hc:c.ops.length<1000000000):Q8 (std 0) p1 f1 p2 f2 p3 f3 p4 f4 p5 f5 (b,c,()) (fun y=>y=(chk b c,())):=by
 have s4:ShT t4:=Ug.1.sh
 have y1:=zf t4 b
 have hf3:=aos hf3.1
 dsimp only [Q8,Alg.cl,Alg.cg,Alg.rb,Alg.bd,Alg.l1,Tup.q,Tup.o]
 simp (disch:=omega) only [RR,RB,hp1 b hb,hf1 b hb,hp1 c hc,hf1 c hc,hp2 b c hb,hf2 b c hb,hp3,hf3,hp4 t4 b s4 hb,hf4 t4 b s4 hb,hp4 _ c y1.2 hc,hf4 _ c y1.2 hc,hp5 _ _ y1.1,hf5 _ _ y1.1,bg,jd]
 unfold chk
 refine⟨fun h=> ?_,fun h=>⟨fun e=> ?_,fun e=> ?_⟩⟩
 ·rw [cZ];rintro⟨h1,h2,h3,h4,_⟩;simp_all
 ·rw [dH];exact⟨h.1.1.1,h.1.1.2,by simp_all,by simp_all,Or.inl e⟩
 ·refine Prod.ext (o9 ⟨fun g=>⟨h.1.1.1,h.1.1.2,by simp_all,by simp_all,Or.inr g⟩,fun g=>g.2.2.2.2.resolve_left e⟩) rfl
end Go.TX.F
namespace Go.TX.F
open Go Go.AE Go.TX
def o5 (o:IOp):Int×Int×Int×Int×Int×Unit:=(o.kind,o.x,o.y,o.k,o.at_,())
theorem set_mid {α:Type} {l:List α} {z d x:α} {i:Int} (h0:0≤i) (h:i<l.length) (e:x=l.getD i.toNat d):(l.take i.toNat++List.replicate (l.length-i.toNat) z).set i.toNat x=l.take (i+1).toNat++List.replicate (l.length- (i+1).toNat) z:=by
 have ht:(l.take i.toNat).length=i.toNat:=by rw [List.length_take];omega
 rw [List.set_append_right _ _ (by omega),ht,Nat.sub_self,show l.length-i.toNat=(l.length- (i+1).toNat)+1 by omega,List.replicate_succ,List.set_cons_zero,←bU h0 h e,List.append_assoc];rfl
theorem abU {α:Type} {l:List α} {z:α} {i:Nat} (h:i≤l.length):(l.take i++List.replicate (l.length-i) z).length=l.length:=by
 rw [List.length_append,List.length_take,List.length_replicate];omega
theorem acJ (o:IOp):Xe (std 0) (o,()) (fun y=>y=o5 o):=by
 dsimp only [Xe,Alg.cl,Alg.cg,Alg.rb,Alg.bd,Alg.l1,Tup.q,Tup.o]
 simp (disch:=omega) only [RR,RB];rfl
theorem aot {p1:IOp×Unit→Bool} {f1:IOp×Unit→Int×Int×Int×Int×Int×Unit} (hp1:∀o,p1 (o,())=true) (hf1:∀o,f1 (o,())=o5 o) (l:List IOp) (h:l.length<1000000000):Xf (std 0) p1 f1 (l,()) (fun y=>y=(l,())):=by
 dsimp only [Xf,Alg.cl,Alg.cg,Alg.rb,Alg.bd,Alg.l1,Tup.q,Tup.o]
 simp (disch:=omega) only [RR]
 refine⟨by omega,by omega,au (fun(y:List IOp×Int×List IOp×Unit)=>y.1=l∧0≤y.2.1∧y.2.1≤l.length∧y.2.2.1=l.take y.2.1.toNat++List.replicate (l.length-y.2.1.toNat) ⟨0,0,0,0,0⟩) (fun y=>(l.length-y.2.1).toNat) ⟨rfl,by simp,by simp,rfl⟩ ?_⟩
 rintro⟨(l:List IOp),(i:Int),(o:List IOp),⟨⟩⟩ hI
 dsimp only at hI ⊢
 obtain⟨rfl,h1,h2,rfl⟩:=hI
 have ml:=abU (l:=l) (z:=(⟨0,0,0,0,0⟩:IOp)) (i:=i.toNat) (by omega)
 simp (disch:=omega) only [RR,hp1,hf1,ml]
 refine⟨fun g=>⟨by omega,by omega,by omega,by omega,by omega,by omega,⟨by omega,by omega,set_mid h1 g rfl⟩,by omega⟩,fun g=> ?_⟩
 rw [List.take_of_length_le (by omega),show l.length-i.toNat=0 by omega];simp
theorem aou {p1:List IOp×Unit→Bool} {f1:List IOp×Unit→List IOp×Unit} (hp1:∀l,l.length<1000000000→p1 (l,())=true) (hf1:∀l,l.length<1000000000→f1 (l,())=(l,())) (b:Blk) (h:b.ops.length<1000000000):Xg (std 0) p1 f1 (b,()) (fun y=>y=bk7 b):=by
 dsimp only [Xg,Alg.cl,Alg.cg,Alg.rb,Alg.bd,Alg.l1,Tup.q,Tup.o]
 simp (disch:=omega) only [RR,RB,hp1 _ h,hf1 _ h]
theorem acK (a b:IOp):YZ (std 0) (a,b,()) (fun y=>y=(bp (a=b),())):=by
 dsimp only [YZ,Alg.cl,Alg.cg,Alg.rb,Alg.bd,Alg.l1,Tup.q,Tup.o]
 simp (disch:=omega) only [RR,RB]
 refine⟨fun h=> ?_,fun h=>⟨fun h2=> ?_,fun h2=>⟨fun h3=> ?_,fun h3=>⟨fun h4=> ?_,fun h4=>⟨fun h5=> ?_,fun h5=> ?_⟩⟩⟩⟩⟩
 all_goals first | (rw [cZ];rintro rfl;simp_all;done) | (rw [dH];cases a;cases b;simp_all)
theorem aov {p1:IOp×IOp×Unit→Bool} {f1:IOp×IOp×Unit→Bool×Unit} (hp1:∀a b,p1 (a,b,())=true) (hf1:∀a b,f1 (a,b,())=(bp (a=b),())) (a b:List IOp) (hlen:a.length<1000000000):Y0 (std 0) p1 f1 (a,b,()) (fun y=>y=(bp (a=b),())):=by
 dsimp only [Y0,Alg.cl,Alg.cg,Alg.rb,Alg.bd,Alg.l1,Tup.q,Tup.o]
 simp (disch:=omega) only [RR]
 refine⟨fun h=> ?_,fun h=> ?_⟩
 ·rw [cZ (fun e=>h (by rw [e]))]
 have hl:a.length=b.length:=by omega
 refine au (fun(y:List IOp×List IOp×Int×Unit)=>y.1=a∧y.2.1=b∧0≤y.2.2.1∧y.2.2.1≤a.length∧All y.2.2.1 (fun i=>a.getD i.toNat default=b.getD i.toNat default)) (fun y=>(a.length-y.2.2.1).toNat) ⟨rfl,rfl,by simp,by simp,All.zero⟩ ?_
 rintro⟨(l1:List IOp),(l2:List IOp),(i:Int),⟨⟩⟩ hI
 dsimp only at hI ⊢
 obtain⟨rfl,rfl,h1,h2,h3⟩:=hI
 simp (disch:=omega) only [RR,hp1,hf1,bg,jd]
 refine⟨fun h4=>⟨by omega,by omega,by omega,by omega,fun h5=> ?_,fun h5=>⟨⟨by omega,by omega,h3.snoc h5⟩,by omega⟩⟩,fun h4=> ?_⟩
 ·rw [cZ]
  intro e;rw [e]at h5;exact h5 rfl
 ·rw [dH (nS hl (h3.le (by omega)))]
theorem aow {p1:List IOp×List IOp×Unit→Bool} {f1:List IOp×List IOp×Unit→Bool×Unit} (hp1:∀a b,a.length<1000000000→p1 (a,b,())=true) (hf1:∀a b,a.length<1000000000→f1 (a,b,())=(bp (a=b),())) (a b:Blk) (h:a.ops.length<1000000000):Y1 (std 0) p1 f1 (a,b,()) (fun y=>y=(bp (a=b),())):=by
 dsimp only [Y1,Alg.cl,Alg.cg,Alg.rb,Alg.bd,Alg.l1,Tup.q,Tup.o]
 simp (disch:=omega) only [RR,RB,hp1 _ b.ops h,hf1 _ b.ops h,bg,jd]
 have e:a=b↔a.pc=b.pc∧a.len=b.len∧a.ops=b.ops∧a.fin=b.fin∧a.x=b.x∧a.y=b.y∧a.k=b.k:=by
  cases a;cases b;simp only [Blk.mk.injEq]
 by_cases e1:a.pc=b.pc
 ·by_cases e2:a.len=b.len
  ·by_cases e3:a.ops=b.ops
   ·by_cases e4:a.fin=b.fin
    ·by_cases e5:a.x=b.x
     ·by_cases e6:a.y=b.y
      ·by_cases e7:a.k=b.k
       ·rw [dH (e.2 ⟨e1,e2,e3,e4,e5,e6,e7⟩)];simp [e1,e2,e3,e4,e5,e6,e7]
       ·rw [cZ (fun g=>e7 (e.1 g).2.2.2.2.2.2)];simp [e7]
      ·rw [cZ (fun g=>e6 (e.1 g).2.2.2.2.2.1)];simp [e6]
     ·rw [cZ (fun g=>e5 (e.1 g).2.2.2.2.1)];simp [e5]
    ·rw [cZ (fun g=>e4 (e.1 g).2.2.2.1)];simp [e4]
   ·rw [cZ (fun g=>e3 (e.1 g).2.2.1)];simp [e3]
  ·rw [cZ (fun g=>e2 (e.1 g).2.1)];simp [e2]
 ·rw [cZ (fun g=>e1 (e.1 g).1)];simp [e1]
def szL (n m:Int):Int:=if m-n<0 then-1 else m-n
theorem acL (l:List IOp) (m:Int) (h:l.length<9223372036854775808) (h0:0≤m) (h1:m≤1048576):WS (std 0) (l,m,()) (fun y=>y=(szL l.length m,())):=by
 dsimp only [WS,Alg.cl,Alg.cg,Alg.rb,Alg.bd,Alg.l1,Tup.q,Tup.o]
 simp (disch:=omega) only [RR]
 unfold szL
 refine⟨fun g=>by rw [if_pos g],fun g=>by rw [if_neg (by omega)]⟩
theorem RF {n:Nat} {m:Int} (h1:m≤1048576):(szL n m<0→szL n m= -1)∧(0≤szL n m→(n:Int)≤1048576∧szL n m≤1048576):=by
 unfold szL
 split<;>exact⟨fun _=>by omega,fun _=>by omega⟩
theorem aox {p1:List IOp×Int×Unit→Bool} {f1:List IOp×Int×Unit→Int×Unit} (hp1:∀l m,l.length<9223372036854775808→0≤m→m≤1048576→p1 (l,m,())=true) (hf1:∀l m,l.length<9223372036854775808→0≤m→m≤1048576→f1 (l,m,())=(szL l.length m,())) (b:Blk) (m:Int) (h:b.ops.length<9223372036854775808) (h0:0≤m) (h1:m≤1048576):WT (std 0) p1 f1 (b,m,()) (fun y=>y=(szL b.ops.length m,())):=by
 dsimp only [WT,Alg.cl,Alg.cg,Alg.rb,Alg.bd,Alg.l1,Tup.q,Tup.o]
 simp (disch:=omega) only [RR,RB,hp1 _ m h h0 h1,hf1 _ m h h0 h1]
 exact fun g=>by rw [(RF h1).1 g]
theorem aoy {p1:Blk×Blk×Unit→Bool} {f1:Blk×Blk×Unit→Bool×Unit} (hp1:∀b c,b.ops.length<1000000000→c.ops.length<1000000000→p1 (b,c,())=true) (hf1:∀b c,b.ops.length<1000000000→c.ops.length<1000000000→f1 (b,c,())=(chk b c,())) {p2:Blk×Blk×Unit→Bool} {f2:Blk×Blk×Unit→Bool×Unit} (hp2:∀a b,a.ops.length<1000000000→p2 (a,b,())=true) (hf2:∀a b,a.ops.length<1000000000→f2 (a,b,())=(bp (a=b),())) {p3:Blk×Int×Unit→Bool} {f3:Blk×Int×Unit→Int×Unit} (hp3:∀b m,b.ops.length<9223372036854775808→0≤m→m≤1048576→p3 (b,m,())=true) (hf3:∀b m,b.ops.length<9223372036854775808→0≤m→m≤1048576→f3 (b,m,())=(szL b.ops.length m,())) {p4:Blk×Unit→Bool} {f4:Blk×Unit→Int×Int×Int×Int×Int×Int×List IOp×Unit} (hp4:∀b,b.ops.length<1000000000→p4 (b,())=true) (hf4:∀b,b.ops.length<1000000000→f4 (b,())=bk7 b) {p5:Blk×Blk×Unit→Bool} {f5:Blk×Blk×Unit→Bool×Unit} (hp5:∀b c,b.ops.length<1000000000→c.ops.length<1000000000→p5 (b,c,())=true) (hf5:∀b c,b.ops.length<1000000000→c.ops.length<1000000000→f5 (b,c,())=(chk b c,())) (b c:Blk) (hb:b.ops.length<9223372036854775808) (hc:c.ops.length<9223372036854775808):Y2 (std 0) p1 f1 p2 f2 p3 f3 p4 f4 p5 f5 (b,c,()) (fun y=>y=(true,())):=by
 have mB:∀c:Blk,Co.mk .blk (c.pc,c.len,c.ops,c.fin,c.x,c.y,c.k,())=c:=fun _=>rfl
 unfold bk7 at hf4
 dsimp only [Y2,Alg.cl,Alg.cg,Alg.rb,Alg.bd,Alg.l1,Tup.q,Tup.o,Alg.cl,Alg.cg,Alg.rb,Alg.bd,Alg.l1,Tup.q,Tup.o,Vg,List.cons_append,List.nil_append,List.map_cons,List.map_nil]at*
 have s1:=RF (n:=b.ops.length) (m:=1048576) (by omega)
 simp (disch:=omega) only [RR,hp3 b 1048576 hb (by omega) (by omega),hf3 b 1048576 hb (by omega) (by omega)]
 intro g1
 obtain⟨u1,u2⟩:=s1.2 (by omega)
 have s2:=RF (n:=c.ops.length) u2
 have g1:0≤szL b.ops.length 1048576:=by omega
 simp (disch:=omega) only [RR,hp3 c _ hc g1 u2,hf3 c _ hc g1 u2]
 intro g2
 obtain⟨v1,v2⟩:=s2.2 (by omega)
 have B:b.ops.length<1000000000:=by omega
 have C:c.ops.length<1000000000:=by omega
 simp (disch:=omega) only [RR,hp4 b B,hf4 b B,hp4 c C,hf4 c C,mB,hp1 b c B C,hf1 b c B C,hp5 b c B C,hf5 b c B C,hp2 b b B,hf2 b b B,hp2 c c C,hf2 c c C]
 simp [bp]
end Go.TX.F
namespace Go.TX
open Go Go.AE
theorem enters_of {P:Program} {f:FuncId} {fn:Func} {c:Code} (hf:P.funcs[f]? =some fn) (hname:(fn.name== "runtime.NumGoroutine")=false) (hb:fn.body=some c):Enters P f:=by
 intro args w
 have h1:fn.name≠ "runtime.NumGoroutine" :=by simpa using hname
 simp [callFunc,hf,h1,hb,mark]
def Uk (P:Program):Nat→List Field→Bool
 | _,[]=>true
 | k,f::fs=> !(f.name== "_")&&f.offset==k&& (match P.underlying f.type with | some (.int _)=>true | _=>false)&&Uk P (k+1) fs
theorem Ul {P:Program} (w:World) (d:Nat) (xs ys:List Int) (hl:xs.length=ys.length):∀(fs:List Field) (k:Nat),Uk P k fs=true→k+fs.length=xs.length→
  (Op.eqFields (d+1) (xs.map (Value.int .i64)).toArray (ys.map (Value.int .i64)).toArray fs).run P w= .ok (xs.drop k==ys.drop k) w
 | [],k,_,h2=>by
  rw [List.drop_eq_nil_of_le (show xs.length≤k by simp only [List.length_nil]at h2;omega),List.drop_eq_nil_of_le (show ys.length≤k by simp only [List.length_nil]at h2;omega)]
  simp [Op.eqFields]
 | f::fs,k,h1,h2=>by
  simp only [List.length_cons]at h2
  simp only [Uk,Bool.and_eq_true,Bool.not_eq_true',beq_eq_false_iff_ne,beq_iff_eq]at h1
  obtain⟨⟨⟨n1,n2⟩,n3⟩,n4⟩:=h1
  have hk:k<xs.length:=by omega
  have hk':k<ys.length:=by omega
  obtain⟨kd,hu⟩:∃kd,P.underlying f.type=some (.int kd):=by
   cases hu:P.underlying f.type with
   | none=>rw [hu]at n3;cases n3
   | some z=>cases z<;>(first | exact⟨_,rfl⟩ | (rw [hu]at n3;cases n3))
  have pk:P.plainKey f.type=true:=by unfold Program.plainKey;rw [hu]
  have p1:=run_part_plain w pk (xs:=(xs.map (Value.int .i64)).toArray) (off:=f.offset) (v:= .int .i64 xs[k]) (by rw [n2];simp [hk])
  have p2:=run_part_plain w pk (xs:=(ys.map (Value.int .i64)).toArray) (off:=f.offset) (v:= .int .i64 ys[k]) (by rw [n2];simp [hk'])
  have ih:=Ul w d xs ys hl fs (k+1) n4 (by omega)
  simp only [Op.eqFields,if_pos n1,Sem.run_bind,p1,p2,Result.andThen_ok,run_equalIn_int w d f.type .i64 kd _ _ hu]
  have e:(xs.drop k==ys.drop k)=((xs[k]==ys[k])&& (xs.drop (k+1)==ys.drop (k+1))):=by rw [List.drop_eq_getElem_cons hk,List.drop_eq_getElem_cons hk'];rfl
  rw [e]
  by_cases c:(xs[k]==ys[k])=true
  ·rw [c]
   simp only [Bool.not_true,Bool.false_eq_true,if_false,ih,Bool.true_and]
  ·have c2:(xs[k]==ys[k])=false:=by simpa using c
   rw [c2]
   simp only [Bool.not_false,if_true,Sem.run_pure,Bool.false_and]
theorem ahP {P:Program} {t:TypeId} {n:Nat} (hu:P.underlying t=some (.struct (P.fieldsOf t))) (hs:P.stoodInHeld t=false) (hg:P.eqGuardType P.depth t=false) (hf:Uk P 0 (P.fieldsOf t).toList=true) (hn:(P.fieldsOf t).size=n) (xs ys:List Int) (hx:xs.length=n) (hy:ys.length=n) (w:World):
  (Op.equal t (.agg (xs.map (Value.int .i64)).toArray) (.agg (ys.map (Value.int .i64)).toArray)).run P w= .ok (xs==ys) w∧
  (eqGuard .eql t (.tmp 0) (.tmp 0) (.agg (xs.map (Value.int .i64)).toArray) (.agg (ys.map (Value.int .i64)).toArray)).run P w= .ok () w:=by
 refine⟨?_,run_eqGuard_agg w _ _ _ _ _ _ hg⟩
 show(Op.equalIn (9999+1) t _ _).run P w=_
 rw [run_equalIn_struct w 9999 t _ _ hu hs,Ul w 9998 xs ys (by omega) _ 0 hf (by rw [Array.length_toList];omega)]
 rfl
noncomputable def never (s:Sig):Ct aB s:={pre:=fun _=>false,fn:=fun _=>Classical.choice (tL _)}
theorem j5 {E:Tab} {f:FuncId} {s:Sig} (h:Enters E.P f):cO E f (bX (never s)) where
 enters:=h
 calls:=by
  rintro args hh n K ⟨m,vs,h2,h3,h4,h5,cr,h6,h7,h8⟩
  exfalso
  unfold qN at h6
  split at h6
  ·split at h6
   ·split at h6
    ·split at h6
     ·cases h6
      have:=h7 false (List.mem_append_right _ (List.mem_singleton.2 rfl))
      cases this
     ·cases h6
    ·cases h6
   ·cases h6
  ·cases h6
def entry (W:World):Ctx:={K:=fun _ b=>b<W.heap.size,μ:=fun _=>none,n:=0}
theorem RG (W:World):bG (entry W) W []:=
 ⟨fun l o h=>(by cases h),fun l o l' o' b h=>(by cases h),fun f b ⟨l,o,h,_⟩=>(by cases h),fun f b h=>h,fun b h=>h⟩
theorem Oq {W W':World} {c':Ctx} {h':Heap} (g:Grow (entry W) W [] c' W' h'):RowKit.Below W.heap.size W W':=
 ⟨g.os,g.tape,g.output,g.size,fun k hk=>g.kept k hk fun⟨l,o,h,_⟩=>by cases h⟩
theorem abV {c:Ctx} {w:World} {v:Value} {r:PV} {N:NM} {b:Bool} (h1:bE c w v r) (h2:PVR N r (.c (.d true (.bool b)))):v= .bool b:=by
 cases h2 with
 | one h=>
  cases h with
  | c h=>
   cases h with
   | d h3 _=>
    subst h3
    cases h1 with
    | c _ _ h4=>cases h4 with
     | d _ _ _ h5=>cases h5;rfl
  | agg h=>cases h
end Go.TX
namespace Go.TX
open Go Go.AE Go.ChangeShapes Go.WideShapes Go.ChangeAt
inductive DS:Sh→D→Prop
 | int (k:IntKind) (n:Int):DS (.int k) (.int k n)
 | ops (xs:List IOp):xs.length<9223372036854775808→DS (.rows .iop) (.rows 5 (aK .iop xs))
section
variable {H:Type} (enc:TypeId×Value→H) (P:Program) (W:World)
abbrev tr (fuel:Nat) (t:TypeId) (cs:List Value):Option (DataW H×List MemPlace):=DataW.trod enc P W 0 (fun _=>true) true fuel t cs
abbrev inW (W:World) (p:List MemPlace):Prop:=∀x∈p,x.block<W.heap.size
def CO (s:Sh) (t:TypeId):Prop:=∀fuel cs x,tr enc P W fuel t cs=some x→inW W x.2→∃v d,cs=[v]∧cB (fun b=>b<W.heap.size) W v d∧DS s d
def EO (c:Co) (G:c.den→Prop) (t:TypeId):Prop:=∀fuel cs x,tr enc P W fuel t cs=some x→inW W x.2→∃z:c.den,F2 (cB (fun b=>b<W.heap.size) W) cs (c.row z)∧G z
variable {enc P W}
theorem ahQ {k:IntKind} {t:TypeId} (ht:P.underlying t=some (.int k)):CO enc P W (.int k) t:=by
 intro fuel cs x h _
 obtain⟨n,rfl,rfl,_⟩:=DataW.trod_int ht h
 exact⟨_,_,rfl,.int k n,.int k n⟩
theorem ahR {α β:Type} {R:α→β→Prop} {l:List α} {m:List β} (h:F2 R l m) {j:Nat} (a:α) (b:β) (hj:j<m.length):R (l.getD j a) (m.getD j b):=by
 obtain⟨x,h1,h2⟩:=F2.get h (List.getElem?_eq_getElem hj)
 rw [List.getD_eq_getElem?_getD,h1,List.getD_eq_getElem?_getD,List.getElem?_eq_getElem hj];exact h2
theorem VB {c:Co} {G:c.den→Prop} {t e:TypeId} (ht:P.underlying t=some (.slice e)) (hc:P.cellsOf e=c.size) (hs:0<c.size) (hE:EO enc P W c G e) {fuel:Nat} {cs:List Value} {x:DataW H×List MemPlace}
  (h:tr enc P W fuel t cs=some x) (hp:inW W x.2):∃v xs,cs=[v]∧cB (fun b=>b<W.heap.size) W v (.rows c.size (aK c xs))∧xs.length<9223372036854775808∧∀z∈xs,G z:=by
 rcases Deep.open_slice ht h with⟨rfl,rfl⟩ | ⟨a,len,cap,m,n,D,Pl,rfl,_,hl,hm,hmm,rfl,hx⟩
 ·exact⟨_,[],rfl,.none _ _ _,Nat.zero_lt_of_ne_zero (by decide),fun _ h=>by cases h⟩
 have em:m=cap:=by simpa using hmm
 have each:∀i,i<len→∃q:List Value×c.den,W.cells? 0 (a.add (i*c.size)) c.size=some q.1∧F2 (cB (fun b=>b<W.heap.size) W) q.1 (c.row q.2)∧G q.2:=fun i hi=>by
  obtain⟨cs',h1,h2⟩:=hx i (by omega)
  obtain⟨z,z1,z2⟩:=hE n cs' _ h2 (fun p hp'=>hp p (List.mem_append_right _ (List.mem_flatMap.2 ⟨i,List.mem_range.2 (by omega),hp'⟩)))
  exact⟨(cs',z),by rw [←hc];exact h1,z1,z2⟩
 obtain⟨q,hq⟩:=Deep.choose_lt each
 have ml:(maxLen:Nat)=9223372036854775807:=by decide
 refine⟨_,(List.range len).map fun i=>(q i).2,rfl,?_,by rw [List.length_map,List.length_range];omega,fun z hz=> ?_⟩
 ·by_cases h0:len=0
  ·subst h0;exact .none _ _ _
  obtain⟨b,off,spot⟩:=a
  have cell:∀i j,i<len→j<c.size→W.cell? (((⟨b,off,spot⟩:Addr).add (i*c.size)).add j)=(q i).1[j]? :=fun i j hi hj=>(World.cells?_some (hq i hi).1).2.2 j hj
  have ql:∀i,i<len→(q i).1.length=c.size:=fun i hi=>(World.cells?_some (hq i hi).1).2.1
  have hspot:spot=none:=by
   have:=cell 0 0 (by omega) hs
   rw [List.getElem?_eq_getElem (by rw [ql 0 (by omega)];exact hs)]at this
   simpa [Addr.add]using World.cell?_spot this
  subst hspot
  have hbW:b<W.heap.size:=hp (.cell b (off+0)) (List.mem_append_left _ (MemPlace.mem_row.2 ⟨0,by rw [hc];exact Nat.mul_pos (by omega) hs,rfl⟩))
  have len':(aK c ((List.range len).map fun i=>(q i).2)).length=len:=by rw [aK,List.length_map,List.length_map,List.length_range]
  have hget:∀i,i<len→(aK c ((List.range len).map fun i=>(q i).2)).getD i []=c.row (q i).2:=fun i hi=>by
   rw [List.getD_eq_getElem?_getD,aK,List.map_map,List.getElem?_map,List.getElem?_range hi];rfl
  refine .rows b off cap c.size len _ (fun i j=>(q i).1.getD j undef) hbW len'.symm hl (fun i j hi hj=> ?_) (fun i hi=> ?_) (fun i j hi hj=> ?_)
  ·rw [len']at hi
   have:=cell i j hi hj
   rw [add_plain,add_plain]at this
   rw [this,List.getD_eq_getElem?_getD,List.getElem?_eq_getElem (by rw [ql i hi];exact hj)];rfl
  ·rw [len']at hi;rw [hget i hi];exact nK c _
  ·rw [len']at hi
   unfold gd;rw [hget i hi]
   exact ahR (hq i hi).2.1 _ _ (by rw [nK];exact hj)
 ·obtain⟨i,hi,rfl⟩:=List.mem_map.1 hz
  exact(hq i (List.mem_range.1 hi)).2.2
def fsB (P:Program) (tR:Option TypeId):Nat→List Field→List Sh→Bool
 | _,[],[]=>true
 | k,f::fs,s::S=>f.offset==k&&P.cellsOf f.type==1&& (match s with | .int q=>(match P.underlying f.type with | some (.int q')=>decide (q'=q) | _=>false) | .rows .iop=>some f.type==tR | _=>false)&&fsB P tR (k+1) fs S
 | _,_,_=>false
theorem ZH {tR:Option TypeId} {k:Nat} {f:Field} {fs:List Field} {s:Sh} {S:List Sh} (h:fsB P tR k (f::fs) (s::S)=true) (hR:∀t,tR=some t→CO enc P W (.rows .iop) t):
  f.offset=k∧P.cellsOf f.type=1∧CO enc P W s f.type∧fsB P tR (k+1) fs S=true:=by
 simp only [fsB,Bool.and_eq_true,beq_iff_eq]at h
 obtain⟨⟨⟨h1,h2⟩,h3⟩,h4⟩:=h
 refine⟨h1,h2,?_,h4⟩
 cases s with
 | int q=>
  dsimp only at h3
  split at h3
  ·rename_i q' hu
   have e:q'=q:=by simpa using h3
   subst e;exact ahQ hu
  ·cases h3
 | rows c=>
  cases c<;>dsimp only at h3<;>first | (cases h3;done) | skip
  rw [beq_iff_eq]at h3;exact hR _ h3.symm
 | bool=>cases h3
 | str=>cases h3
theorem Um {tR:Option TypeId} (hR:∀t,tR=some t→CO enc P W (.rows .iop) t) {cs:List Value} {n:Nat}:∀(fs:List Field) (S:List Sh) (k:Nat) (xs:List (DataW H×List MemPlace)),fsB P tR k fs S=true→xs.length=fs.length→
  (∀(i:Nat) (f:Field),fs[i]? =some f→tr enc P W n f.type ((cs.drop f.offset).take (P.cellsOf f.type))=xs[i]?)→inW W (xs.flatMap (·.2))→cs.length=k+fs.length→
  ∃ds,F2 (cB (fun b=>b<W.heap.size) W) (cs.drop k) ds∧F2 DS S ds
 | [],S,k,xs,h1,_,_,_,h5=>by
  cases S with
  | nil=>exact⟨[],by rw [List.drop_eq_nil_of_le (by simp at h5;omega)];exact .nil,.nil⟩
  | cons s S=>cases h1
 | f::fs,[],k,xs,h1,_,_,_,_=>by cases h1
 | f::fs,s::S,k,[],_,h2,_,_,_=>by cases h2
 | f::fs,s::S,k,y::xs,h1,h2,h3,h4,h5=>by
  obtain⟨a1,a2,a3,a4⟩:=ZH h1 hR
  have b:=h3 0 f rfl
  rw [a1,a2]at b
  obtain⟨v,d,e,r1,r2⟩:=a3 n _ y b (fun p hp=>h4 p (List.mem_flatMap.2 ⟨y,List.mem_cons_self ..,hp⟩))
  simp only [List.length_cons]at h5 h2
  obtain⟨ds,i1,i2⟩:=Um hR fs S (k+1) xs a4 (by omega) (fun i g hg=>h3 (i+1) g hg) (fun p hp=>h4 p (by rw [List.flatMap_cons];exact List.mem_append_right _ hp)) (by omega)
  have hk:k<cs.length:=by omega
  rw [List.drop_eq_getElem_cons hk]at e ⊢
  rw [List.take_succ_cons,List.take_zero]at e
  cases e
  exact⟨d::ds,.cons r1 i1,.cons r2 i2⟩
theorem Un {t:TypeId} {tR:Option TypeId} {fs:Array Field} {S:List Sh} (ht:P.underlying t=some (.struct fs)) (hn:P.cellsOf t=fs.toList.length) (hf:fsB P tR 0 fs.toList S=true) (hR:∀t,tR=some t→CO enc P W (.rows .iop) t) {fuel:Nat} {cs:List Value} {x:DataW H×List MemPlace}
  (h:tr enc P W fuel t cs=some x) (hp:inW W x.2):∃ds,F2 (cB (fun b=>b<W.heap.size) W) cs ds∧F2 DS S ds:=by
 obtain⟨xs,n,_,rfl,hl,hlen,hf'⟩:=DataW.trod_struct ht h
 exact Um hR fs.toList S 0 xs hf (by rw [hlen,Array.length_toList]) (fun i f hi=>hf' i f (by rw [←Array.getElem?_toList];exact hi)) hp (by omega)
theorem f2c {α β:Type} {R:α→β→Prop} {a:α} {l:List α} {m:List β} (h:F2 R (a::l) m):∃b m',m=b::m'∧R a b∧F2 R l m':=by cases h with | cons h1 h2=>exact⟨_,_,rfl,h1,h2⟩
theorem f2n {α β:Type} {R:α→β→Prop} {m:List β} (h:F2 R [] m):m=[]:=by cases h;rfl
theorem dsi {d:D} (h:DS .i d):∃n,d= .int .i64 n:=by cases h;exact⟨_,rfl⟩
theorem dso {d:D} (h:DS (.rows .iop) d):∃xs:List IOp,d= .rows 5 (aK .iop xs)∧xs.length<9223372036854775808:=by cases h with | ops xs h=>exact⟨xs,rfl,h⟩
theorem ahS {t:TypeId} {fs:Array Field} (ht:P.underlying t=some (.struct fs)) (hn:P.cellsOf t=fs.toList.length) (hf:fsB P none 0 fs.toList [.i,.i,.i,.i,.i]=true):EO enc P W .iop (fun _=>True) t:=by
 intro fuel cs x h hp
 obtain⟨ds,h1,h2⟩:=Un ht hn hf (fun _ h=>by cases h) h hp
 obtain⟨d0,m0,rfl,e0,h2⟩:=f2c h2
 obtain⟨d1,m1,rfl,e1,h2⟩:=f2c h2
 obtain⟨d2,m2,rfl,e2,h2⟩:=f2c h2
 obtain⟨d3,m3,rfl,e3,h2⟩:=f2c h2
 obtain⟨d4,m4,rfl,e4,h2⟩:=f2c h2
 obtain rfl:=f2n h2
 obtain⟨n0,rfl⟩:=dsi e0
 obtain⟨n1,rfl⟩:=dsi e1
 obtain⟨n2,rfl⟩:=dsi e2
 obtain⟨n3,rfl⟩:=dsi e3
 obtain⟨n4,rfl⟩:=dsi e4
 exact⟨⟨n0,n1,n2,n3,n4⟩,h1,trivial⟩
theorem ahT {tR t:TypeId} {fs:Array Field} (hr:P.underlying tR=some (.slice t)) (ht:P.underlying t=some (.struct fs)) (hn:P.cellsOf t=fs.toList.length) (h5:fs.toList.length=5) (hf:fsB P none 0 fs.toList [.i,.i,.i,.i,.i]=true):CO enc P W (.rows .iop) tR:=by
 intro fuel cs x h hp
 obtain⟨v,xs,e,r,l,_⟩:=VB (c:= .iop) hr (hn.trans h5) (by decide) (ahS ht hn hf) h hp
 exact⟨v,_,e,r,.ops xs l⟩
abbrev BG (b:Blk):Prop:=b.ops.length<9223372036854775808
theorem ahU {t tR:TypeId} {fs:Array Field} (ht:P.underlying t=some (.struct fs)) (hn:P.cellsOf t=fs.toList.length) (hf:fsB P (some tR) 0 fs.toList Vg=true) (hR:CO enc P W (.rows .iop) tR):EO enc P W .blk BG t:=by
 intro fuel cs x h hp
 obtain⟨ds,h1,h2⟩:=Un ht hn hf (fun _ h=>by cases h;exact hR) h hp
 obtain⟨d0,m0,rfl,e0,h2⟩:=f2c h2
 obtain⟨d1,m1,rfl,e1,h2⟩:=f2c h2
 obtain⟨d2,m2,rfl,e2,h2⟩:=f2c h2
 obtain⟨d3,m3,rfl,e3,h2⟩:=f2c h2
 obtain⟨d4,m4,rfl,e4,h2⟩:=f2c h2
 obtain⟨d5,m5,rfl,e5,h2⟩:=f2c h2
 obtain⟨d6,m6,rfl,e6,h2⟩:=f2c h2
 obtain rfl:=f2n h2
 obtain⟨n0,rfl⟩:=dsi e0
 obtain⟨n1,rfl⟩:=dsi e1
 obtain⟨xs,rfl,l⟩:=dso e2
 obtain⟨n3,rfl⟩:=dsi e3
 obtain⟨n4,rfl⟩:=dsi e4
 obtain⟨n5,rfl⟩:=dsi e5
 obtain⟨n6,rfl⟩:=dsi e6
 exact⟨⟨n0,n1,xs,n3,n4,n5,n6⟩,h1,l⟩
end
abbrev arI:Sig:={args:=[.sv false .blk,.sv false .blk],objs:=[],res:=[.c .bool],dP:=[]}
theorem Uo {c:Ctx} {W:World} (hK:c.K false=fun b=>b<W.heap.size) {co:Co} {x:co.den} {cs:List Value} (h:F2 (cB (fun b=>b<W.heap.size) W) cs (co.row x)):bE c W (.agg cs.toArray) (.agg ((co.row x).map (.d false))):=by
 refine .agg _ _ ?_
 rw [←hK]at h
 generalize co.row x=ds at h
 induction h with
 | nil=>exact .nil
 | cons h1 _ ih=>exact .cons (.d false _ _ h1) ih
theorem ZI {N:NM} (co:Co) (x:co.den):PVR N (.agg ((co.row x).map (.d false))) (.sv false co x):=by
 refine .one (.agg rfl ?_)
 show F2 (RC N) _ (List.map (TC.d false) (eB (std 0) co x 0 co.fields))
 rw [←jq 0 co x]
 exact F2.Wo (fun h=>h) _
theorem abW {E:Tab} {f:FuncId} {c:Ct aB arI} (hc:cO E f (bX c)) {x y:Blk} {W:World} {cs ds:List Value} (hv:F2 (cB (fun b=>b<W.heap.size) W) cs (Co.row .blk x)) (hu:F2 (cB (fun b=>b<W.heap.size) W) ds (Co.row .blk y))
  (hg:qC E (entry W) W) (hp:c.pre (x,y,())=true):Go.Calls E.P f #[.agg cs.toArray,.agg ds.toArray] W fun e W'=>e= .returned (.bool (c.fn (x,y,())).1)∧RowKit.Below W.heap.size W W':=by
 refine(hc.calls [.agg ((Co.row .blk x).map (.d false)),.agg ((Co.row .blk y).map (.d false))] [] 0 (fun r _ _=>PVR (nmh []) r (.c (.d true (.bool (c.fn (x,y,())).1)))) ?_ (entry W) W [.agg cs.toArray,.agg ds.toArray] rfl
  (.cons (Uo rfl hv) (.cons (Uo rfl hu) .nil)) (RG W) hg).mono ?_
 ·refine⟨0,[.sv false .blk x,.sv false .blk y],[],.cons (ZI .blk x) (.cons (ZI .blk y) .nil),⟨fun l o h=>(by cases h),fun _ _=>rfl⟩,rfl,_,rfl,?_,_,_,rfl,?_⟩
  ·intro b hb
   rcases List.mem_append.1 hb with h | h
   ·cases h
   ·rw [List.mem_singleton]at h;rw [h];exact hp
  ·intro r _ _ h _ _ _;exact h
 ·rintro e W' he
  cases e with
  | returned u=>
   obtain⟨c',r,h',j,g,_,_,h1,h2⟩:=he
   exact⟨by rw [abV h1 h2],Oq g⟩
  | outgrown=>exact he.elim
  | panicked _=>exact he.elim
end Go.TX
namespace Go.TX.Seat
open Go Go.AE Go.TX Go.TX.F Go.Proofs
set_option maxRecDepth 100000
theorem arJ:∀t n,E.ieq t=some n→∀(xs ys:List Int),xs.length=n→ys.length=n→∀w,
  (Op.equal t (.agg (xs.map (Value.int .i64)).toArray) (.agg (ys.map (Value.int .i64)).toArray)).run E.P w= .ok (xs==ys) w∧
  (eqGuard .eql t (.tmp 0) (.tmp 0) (.agg (xs.map (Value.int .i64)).toArray) (.agg (ys.map (Value.int .i64)).toArray)).run E.P w= .ok () w:=by
 intro t n h
 obtain⟨c,hc,rfl⟩:∃c,ieq t=some c∧c.size=n:=by
  have h':(ieq t).map (fun c=>c.size)=some n:=h
  cases hi:ieq t with
  | none=>rw [hi]at h';cases h'
  | some c=>rw [hi]at h';cases h';exact⟨c,rfl,rfl⟩
 unfold ieq at hc
 split at hc
 all_goals first | (cases hc;exact ahP (by kernel_rfl) (by kernel_rfl) (by kernel_rfl) (by kernel_rfl) (by kernel_rfl)) | cases hc
theorem hE:aF E:=⟨arq,arJ⟩
theorem arK:∀t c,X.ieq t=some c→(c= .ins∧E.ieq t=some 4)∨(c= .iop∧E.ieq t=some 5):=by
 intro t c h
 have h:ieq t=some c:=h
 have e:E.ieq t=(ieq t).map fun c=>c.size:=rfl
 rw [e,h]
 unfold ieq at h
 split at h
 all_goals first | (cases h;first | exact Or.inl ⟨rfl,rfl⟩ | exact Or.inr ⟨rfl,rfl⟩) | cases h
theorem xok:XOK X E:=⟨rfl,fun g c h=>(by cases h),arK⟩
theorem hm:E.P.follows .mixedOrders=true:=by kernel_rfl
theorem hlN:∀p∈([]:List (FuncId×Sigma (Ct aB))),cO E p.1 (bX p.2.2):=fun _ h=>by cases h
theorem hlC {f:FuncId} {s:Sig} {c:Ct aB s} {l:List (FuncId×Sigma (Ct aB))} (h:cO E f (bX c)) (r:∀p∈l,cO E p.1 (bX p.2.2)):∀p∈(f,⟨s,c⟩)::l,cO E p.1 (bX p.2.2):=fun p hp=>by
 rcases List.mem_cons.1 hp with rfl | hp
 ·exact h
 ·exact r p hp
@[reducible] def _root_.Go.TX.Fn.c {E : Tab} {f : FuncId} {s : Sig} {F : iy s.inp → (iy s.out → Prop) → Prop} {c : Ct aB s} (_ : Fn E f F c) : Ct aB s := c
theorem mk {lk:aH} {f:FuncId} {fn:Func} (hf:E.P.funcs[f]? =some fn) {l:List (FuncId×Sigma (Ct aB))} (hl:∀p∈l,cO E p.1 (bX p.2.2)) {ord:List (Nat×List fM)} {s:Sig} {an:Ann}
 {F:iy s.inp→(iy s.out→Prop)→Prop} (h:Ru X E (std 0) ord an s fn l F) (hb:fn.body.isSome=true:=by rfl) (hn:(fn.name== "runtime.NumGoroutine")=false:=by kernel_rfl):Fn E f F (cn F):=aqI hE xok hm hf hb (fun _=>enters_of hf hn) hl h
theorem ZJ {E:Tab} {f:FuncId} {c:Ct aB {args:=[.c (.int .u64)],objs:=[],res:=[.c (.int .i64)],dP:=[]}} {g:Int→Int} (hent:Enters E.P f) (hg:(fun x:Int=>(c.fn (x,())).1)=g)
  (h:∀(x:Int) (w:World),c.pre (x,())=true→Go.Calls E.P f #[.int .u64 x] w fun e w'=>e= .returned (.int .i64 (g x))∧w'=w):cO E f (bX c) where
 enters:=hent
 calls:=by
  rintro args hh n K ⟨m,qs,hs,hargs,HR,hlen,cr,hcall,abo,v,kT,hvk,hK⟩ c1 w vs hcn qg Hh Gl
  have key:∀f0 (x:Int),qs=[.c (.d f0 (.int .u64 x))]→qN (std m) hs {args:=[.c (.int .u64)],objs:=[],res:=[.c (.int .i64)],dP:=[]} c qs=some {ck:=[c.pre (x,())],ts:=[.i],y:=c.fn (x,()),touched:=[],pure:=true,k:=fun y=>some (.c (.d true (.int .i64 y.1)),hs)}:=by
   intro f0 x e;subst e;rfl
  have hq:∃f0 x,qs=[.c (.d f0 (.int .u64 x))]:=by
   unfold qN at hcall
   cases qs with
   | nil=>simp [nJ]at hcall
   | cons q r=>
    cases r with
    | cons q2 r2=>
     exfalso
     simp only [nJ]at hcall
     cases hx:GY (std m) hs (.c (.int .u64)) q (es0 (std m) 0 [])with
     | none=>rw [hx]at hcall;simp at hcall
     | some s=>rw [hx]at hcall;simp [nJ]at hcall
    | nil=>
     simp only [nJ]at hcall
     cases q with
     | c y=>
      simp only [GY,extC]at hcall
      cases y with
      | d f0 y=>
       cases y with
       | int k x=>
        by_cases hk:IntKind.u64=k
        ·subst hk;exact⟨f0,x,rfl⟩
        ·simp [hk]at hcall
       | _=>simp at hcall
      | _=>simp at hcall
     | _=>simp [GY]at hcall
  obtain⟨f0,x,rfl⟩:=hq
  rw [key f0 x rfl]at hcall
  simp only [Option.some.injEq]at hcall
  subst hcall
  simp only [Option.some.injEq,Prod.mk.injEq]at hvk
  obtain⟨rfl,rfl⟩:=hvk
  have hpre:=abo _ (List.mem_singleton.2 rfl)
  have hv:vs=[.int .u64 x]:=by
   cases hargs with
   | cons h1 h2=>
    cases h2
    cases qg with
    | cons h3 h4=>
     cases h4
     cases h1 with
     | one h1=>
      cases h1 with
      | c h1=>
       cases h1 with
       | d h5 _=>
        subst h5
        cases h3 with
        | c _ _ h6=>cases h6 with
         | d _ _ _ h7=>cases h7;rfl
      | agg h1=>cases h1
  subst hv
  refine(h x w hpre).mono ?_
  rintro e w' ⟨rfl,rfl⟩
  refine⟨c1,.c (.d true (.int .i64 (g x))),hh,0,.refl _ _ _,Hh,hcn,.c _ _ (.d _ _ _ (.int _ _)),hK _ _ _ ?_ HR (.refl _ _ _) hlen⟩
  rw [←hg]
  exact .one (.c (.d rfl fun _=> .inl rfl))
end Go.TX.Seat
namespace Go.TX.F
open Go Go.AE Go.TX Go.TX.Seat Go.Proofs
set_option maxRecDepth 100000
def Uq:=mk Tryz.func21 hlN (al8 (std 0))
noncomputable def Nc:=Uq.c
def aoz:=fun l m h h0 h1=>(Uq.cs (acL l m h h0 h1)).1
def aoA:=fun l m h h0 h1=>(Uq.cs (acL l m h h0 h1)).2
def ZK:=mk Tryz.func6 (hlC Uq.ok hlN) (al9 (std 0) Nc)
noncomputable def Od:=ZK.c
def qp:=fun b m h h0 h1=>ZK.cs (aox aoz aoA b m h h0 h1)
def aoB:=fun b m h h0 h1=>(qp b m h h0 h1).1
def aoC:=fun b m h h0 h1=>(qp b m h h0 h1).2
def pE:=mk Tryz.func47 hlN (afA (std 0))
noncomputable def bP:=pE.c
def yh:=fun a b c=>(pE.cs (Zd a b c)).1
def yj:=fun a b c=>(pE.cs (Zd a b c)).2
def yu:=mk Tryz.func99 hlN (afB (std 0))
noncomputable def gU:=yu.c
def JX:=fun a=>(yu.cs (Ze a)).1
def JY:=fun a=>(yu.cs (Ze a)).2
def RH:=mk Tryz.func136 (hlC pE.ok hlN) (afC (std 0) bP)
noncomputable def Fw:=RH.c
def uH:=fun k=>RH.cs (ahy yh yj k)
def ahV:=fun k=>(uH k).1
def ahW:=fun k=>(uH k).2
def JZ:=mk Tryz.func100 (hlC RH.ok hlN) (afD (std 0) Fw)
noncomputable def oK:=JZ.c
def zh:=fun ops x n h1=>JZ.cs (ahz ahV ahW ops x n h1)
def ZL:=fun ops x n h1=>(zh ops x n h1).1
def ZM:=fun ops x n h1=>(zh ops x n h1).2
def RJ:=mk Tryz.func48 (hlC yu.ok (hlC pE.ok (hlC JZ.ok hlN))) (afE (std 0) gU bP oK)
noncomputable def Fy:=RJ.c
def BH:=fun ops i len h0 h1 h3=>RJ.cs (ahA JX JY yh yj ZL ZM ops i len h0 h1 h3)
def ahX:=fun ops i len h0 h1 h3=>(BH ops i len h0 h1 h3).1
def ahY:=fun ops i len h0 h1 h3=>(BH ops i len h0 h1 h3).2
def RL:=mk Tryz.func49 (hlC yu.ok (hlC JZ.ok hlN)) (afF (std 0) gU oK)
noncomputable def Fx:=RL.c
def zi:=fun b=>RL.cs (ahB JX JY ZL ZM b)
def ahZ:=fun b=>(zi b).1
def ah0:=fun b=>(zi b).2
def J2:=mk Tryz.func22 (hlC pE.ok (hlC RL.ok (hlC RJ.ok hlN))) (afG (std 0) bP Fx Fy)
noncomputable def oV:=J2.c
def BI:=fun b h2=>J2.cs (ahC yh yj ahZ ah0 ahX ahY b h2)
def ZN:=fun b h2=>(BI b h2).1
def ZO:=fun b h2=>(BI b h2).2
def J3:=mk Tryz.func23 hlN (afH (std 0))
noncomputable def F7:=J3.c
def ah1:=fun a b ha=>(J3.cs (Zz a b ha)).1
def ah2:=fun a b ha=>(J3.cs (Zz a b ha)).2
def Au:=mk Tryz.func50 (hlC pE.ok hlN) (afI (std 0) bP)
noncomputable def gV:=Au.c
def uI:=fun a=>Au.cs (ag6 yh yj a)
def J4:=fun a=>(uI a).1
def J5:=fun a=>(uI a).2
def J6:=mk Tryz.func24 (hlC Au.ok hlN) (afJ (std 0) gV)
noncomputable def oW:=J6.c
def wJ:=J6.cs (ahr J4 J5)
def ZP:=(wJ).1
def ZQ:=(wJ).2
def Av:=mk Tryz.func111 hlN (afK (std 0))
noncomputable def jw:=Av.c
def RN:=fun a b ha=>(Av.cs (Zh a b ha)).1
def RO:=fun a b ha=>(Av.cs (Zh a b ha)).2
def RP:=mk Tryz.func144 (hlC pE.ok hlN) (afL (std 0) bP)
noncomputable def Fz:=RP.c
def wK:=fun m hm=>RP.cs (ag7 yh yj m hm)
def ah3:=fun m hm=>(wK m hm).1
def ah4:=fun m hm=>(wK m hm).2
def uJ:=mk Tryz.func107 (hlC RP.ok (hlC Av.ok hlN)) (afM (std 0) Fz jw)
noncomputable def dD:=uJ.c
def zk:=fun a ha=>uJ.cs (ag8 ah3 ah4 RN RO a ha)
def Aw:=fun a ha=>(zk a ha).1
def Ay:=fun a ha=>(zk a ha).2
def J7:=mk Tryz.func137 hlN (afN (std 0))
noncomputable def FC:=J7.c
def ah5:=fun a=>(J7.cs (Zj a)).1
def ah6:=fun a=>(J7.cs (Zj a)).2
def J8:=mk Tryz.func138 hlN (afO (std 0))
noncomputable def FB:=J8.c
def ah7:=fun a n ha=>(J8.cs (Zi a n ha)).1
def ah8:=fun a n ha=>(J8.cs (Zi a n ha)).2
def J9:=mk Tryz.func101 (hlC pE.ok (hlC uJ.ok (hlC J8.ok (hlC J7.ok hlN)))) (afP (std 0) bP dD FB FC)
noncomputable def oL:=J9.c
def wL:=fun a n ha=>J9.cs (aha yh yj Aw Ay ah7 ah8 ah5 ah6 a n ha)
def ZR:=fun a n ha=>(wL a n ha).1
def ZT:=fun a n ha=>(wL a n ha).2
def rA:=mk Tryz.func65 (hlC Av.ok hlN) (afQ (std 0) jw)
noncomputable def bQ:=rA.c
def rT:=fun a b ha=>rA.cs (ag9 RN RO a b ha)
def yw:=fun a b ha=>(rT a b ha).1
def yx:=fun a b ha=>(rT a b ha).2
def Ka:=mk Tryz.func102 (hlC rA.ok hlN) (afR (std 0) bQ)
noncomputable def oM:=Ka.c
def wM:=fun a b ha=>Ka.cs (ahb yw yx a b ha)
def ZU:=fun a b ha=>(wM a b ha).1
def ZV:=fun a b ha=>(wM a b ha).2
def RQ:=mk Tryz.func51 (hlC J9.ok (hlC Ka.ok hlN)) (afS (std 0) oL oM)
noncomputable def FV:=RQ.c
def zl:=fun a ha=>RQ.cs (ahc ZR ZT ZU ZV a ha)
def ah9:=fun a ha=>(zl a ha).1
def aia:=fun a ha=>(zl a ha).2
def lJ:=mk Tryz.func60 hlN (afT (std 0))
noncomputable def bA:=lJ.c
def rC:=fun a ha=>(lJ.cs (Zl a ha)).1
def rD:=fun a ha=>(lJ.cs (Zl a ha)).2
def Kc:=mk Tryz.func103 (hlC lJ.ok hlN) (afU (std 0) bA)
noncomputable def oN:=Kc.c
def wN:=fun a ha=>Kc.cs (ahg rC rD a ha)
def ZW:=fun a ha=>(wN a ha).1
def ZX:=fun a ha=>(wN a ha).2
def RS:=mk Tryz.func52 (hlC Kc.ok hlN) (afV (std 0) oN)
noncomputable def FW:=RS.c
def wO:=fun a ha=>RS.cs (ahh ZW ZX a ha)
def aib:=fun a ha=>(wO a ha).1
def aic:=fun a ha=>(wO a ha).2
def GH:=mk Tryz.func53 (hlC J9.ok (hlC Ka.ok (hlC Kc.ok hlN))) (afW (std 0) oL oM oN)
noncomputable def jA:=GH.c
def zm:=fun a t ha ht hok=>GH.cs (ahi ZR ZT ZU ZV ZW ZX a t ha ht hok)
def RU:=fun a t ha ht hok=>(zm a t ha ht hok).1
def RV:=fun a t ha ht hok=>(zm a t ha ht hok).2
def Ke:=mk Tryz.func54 hlN (afX (std 0))
noncomputable def F3:=Ke.c
def aie:=fun k l=>(Ke.cs (ZA k l)).1
def aif:=fun k l=>(Ke.cs (ZA k l)).2
def Kg:=mk Tryz.func55 (hlC pE.ok hlN) (afY (std 0) bP)
noncomputable def oQ:=Kg.c
def rU:=fun a=>Kg.cs (ag5 yh yj a)
def ZY:=fun a=>(rU a).1
def Z0:=fun a=>(rU a).2
def yA:=mk Tryz.func173 hlN (afZ (std 0))
noncomputable def gW:=yA.c
def Kh:=fun a=>(yA.cs (Zg a)).1
def Ki:=fun a=>(yA.cs (Zg a)).2
def Kj:=mk Tryz.func171 (hlC Av.ok (hlC yA.ok hlN)) (af0 (std 0) jw gW)
noncomputable def oO:=Kj.c
def wP:=fun l m hl hn hm hma=>Kj.cs (ahn RN RO Kh Ki l m hl hn hm hma)
def Z4:=fun l m hl hn hm hma=>(wP l m hl hn hm hma).1
def Z5:=fun l m hl hn hm hma=>(wP l m hl hn hm hma).2
def Kk:=mk Tryz.func172 (hlC lJ.ok hlN) (af2 (std 0) bA)
noncomputable def oP:=Kk.c
def zn:=fun a ha=>Kk.cs (ahf rC rD a ha)
def Z6:=fun a ha=>(zn a ha).1
def Z7:=fun a ha=>(zn a ha).2
def RX:=mk Tryz.func139 (hlC uJ.ok (hlC Kj.ok (hlC Kk.ok hlN))) (af3 (std 0) dD oO oP)
noncomputable def FJ:=RX.c
def wQ:=fun a b ha hb=>RX.cs (aho Aw Ay Z4 Z5 Z6 Z7 a b ha hb)
def aii:=fun a b ha hb=>(wQ a b ha hb).1
def aij:=fun a b ha hb=>(wQ a b ha hb).2
def RY:=mk Tryz.func140 (hlC uJ.ok (hlC yA.ok (hlC lJ.ok (hlC yu.ok hlN)))) (af4 (std 0) dD gW bA gU)
noncomputable def FK:=RY.c
def rV:=fun a n ha=>RY.cs (ahq Aw Ay Kh Ki rC rD JX JY a n ha)
def aik:=fun a n ha=>(rV a n ha).1
def ail:=fun a n ha=>(rV a n ha).2
def Kl:=mk Tryz.func174 hlN (af5 (std 0))
noncomputable def FD:=Kl.c
def ain:=fun a b ha hb sa sb=>(Kl.cs (Zo a b ha hb sa sb)).1
def aio:=fun a b ha hb sa sb=>(Kl.cs (Zo a b ha hb sa sb)).2
def RZ:=mk Tryz.func141 (hlC uJ.ok (hlC yA.ok (hlC Kj.ok (hlC Kl.ok (hlC Kk.ok hlN))))) (af6 (std 0) dD gW oO FD oP)
noncomputable def FH:=RZ.c
def wR:=fun a b ha hb=>RZ.cs (ahp Aw Ay Kh Ki Z4 Z5 ain aio Z6 Z7 a b ha hb)
def aip:=fun a b ha hb=>(wR a b ha hb).1
def aiq:=fun a b ha hb=>(wR a b ha hb).2
def R3:=mk Tryz.func104 (hlC RZ.ok (hlC RX.ok (hlC RY.ok hlN))) (af7 (std 0) FH FJ FK)
noncomputable def FP:=R3.c
def wS:=fun op x y hx hy=>R3.cs (ahl aip aiq aii aij aik ail op x y hx hy)
def air:=fun op x y hx hy=>(wS op x y hx hy).1
def ais:=fun op x y hx hy=>(wS op x y hx hy).2
def GI:=mk Tryz.func108 (hlC uJ.ok hlN) (af8 (std 0) dD)
noncomputable def jy:=GI.c
def wT:=fun a ha=>GI.cs (ahe Aw Ay a ha)
def R4:=fun a ha=>(wT a ha).1
def R5:=fun a ha=>(wT a ha).2
def R6:=mk Tryz.func142 (hlC yA.ok (hlC yu.ok hlN)) (af9 (std 0) gW gU)
noncomputable def FL:=R6.c
def zo:=fun op a b=>R6.cs (ahd JX JY Kh Ki op a b)
def ait:=fun op a b=>(zo op a b).1
def aiu:=fun op a b=>(zo op a b).2
def R7:=mk Tryz.func143 (hlC lJ.ok hlN) (aga (std 0) bA)
noncomputable def FN:=R7.c
def wU:=fun op n y hy=>R7.cs (ahj rC rD op n y hy)
def aiv:=fun op n y hy=>(wU op n y hy).1
def aiw:=fun op n y hy=>(wU op n y hy).2
def R8:=mk Tryz.func105 (hlC rA.ok (hlC lJ.ok (hlC R6.ok (hlC Kg.ok (hlC GI.ok (hlC R7.ok hlN)))))) (agb (std 0) bQ bA FL oQ jy FN)
noncomputable def FQ:=R8.c
def wV:=fun op x y hx hy=>R8.cs (ahk yw yx rC rD ait aiu ZY Z0 R4 R5 aiv aiw op x y hx hy)
def aix:=fun op x y hx hy=>(wV op x y hx hy).1
def aiy:=fun op x y hx hy=>(wV op x y hx hy).2
def R9:=mk Tryz.func56 (hlC Au.ok (hlC rA.ok (hlC R3.ok (hlC R8.ok (hlC GH.ok hlN))))) (agc (std 0) gV bQ FP FQ jA)
noncomputable def FX:=R9.c
def BJ:=fun op x y t hop hx hy ht hok=>R9.cs (ahm J4 J5 yw yx air ais aix aiy RU RV op x y t hop hx hy ht hok)
def aiz:=fun op x y t hop hx hy ht hok=>(BJ op x y t hop hx hy ht hok).1
def aiA:=fun op x y t hop hx hy ht hok=>(BJ op x y t hop hx hy ht hok).2
def Km:=mk Tryz.func106 hlN (agd (std 0))
noncomputable def FR:=Km.c
def aiB:=fun l k hl=>(Km.cs (ZB l k hl)).1
def aiC:=fun l k hl=>(Km.cs (ZB l k hl)).2
def Sb:=mk Tryz.func57 (hlC Au.ok (hlC GH.ok (hlC Km.ok hlN))) (agf (std 0) gV jA FR)
noncomputable def FY:=Sb.c
def uK:=fun l k t hl ht hk=>Sb.cs (ahF J4 J5 RU RV aiB aiC l k t hl ht hk)
def aiD:=fun l k t hl ht hk=>(uK l k t hl ht hk).1
def aiE:=fun l k t hl ht hk=>(uK l k t hl ht hk).2
def GJ:=mk Tryz.func59 (hlC lJ.ok hlN) (agh (std 0) bA)
noncomputable def jB:=GJ.c
def uL:=fun a ha=>GJ.cs (ahE rC rD a ha)
def Sc:=fun a ha=>(uL a ha).1
def Sd:=fun a ha=>(uL a ha).2
def Sg:=mk Tryz.func58 (hlC lJ.ok (hlC GJ.ok hlN)) (agi (std 0) bA jB)
noncomputable def FZ:=Sg.c
def uM:=fun o x y r hx hy hr=>Sg.cs (ahG rC rD Sc Sd o x y r hx hy hr)
def aiF:=fun o x y r hx hy hr=>(uM o x y r hx hy hr).1
def aiG:=fun o x y r hx hy hr=>(uM o x y r hx hy hr).2
def Kn:=mk Tryz.func61 hlN (agj (std 0))
noncomputable def F4:=Kn.c
def aiH:=fun b=>(Kn.cs (ZF b)).1
def aiI:=fun b=>(Kn.cs (ZF b)).2
def Ko:=mk Tryz.func62 hlN (agk (std 0))
noncomputable def F5:=Ko.c
def aiJ:=fun b=>(Ko.cs (ZG b)).1
def aiK:=fun b=>(Ko.cs (ZG b)).2
end Go.TX.F
namespace Go.TX.F
open Go Go.AE Go.TX Go.TX.Seat Go.Proofs
set_option maxRecDepth 100000
def GK:=mk Tryz.func109 hlN (agl (std 0))
noncomputable def oU:=GK.c
def Z8:=fun s k=>(GK.cs (ZE s k)).1
def Z9:=fun s k=>(GK.cs (ZE s k)).2
def Si:=mk Tryz.func110 (hlC GI.ok (hlC rA.ok (hlC GK.ok hlN))) (agm (std 0) jy bQ oU)
noncomputable def FT:=Si.c
def BK:=fun s n hs hx hy hf=>Si.cs (ahH R4 R5 yw yx Z8 Z9 s n hs hx hy hf)
def aiL:=fun s n hs hx hy hf=>(BK s n hs hx hy hf).1
def aiM:=fun s n hs hx hy hf=>(BK s n hs hx hy hf).2
def Sj:=mk Tryz.func63 (hlC GI.ok (hlC uJ.ok (hlC lJ.ok (hlC GK.ok (hlC Si.ok (hlC GJ.ok hlN)))))) (agn (std 0) jy dD bA oU FT jB)
noncomputable def FU:=Sj.c
def wW:=fun s n hs=>Sj.cs (ahI R4 R5 Aw Ay rC rD Z8 Z9 aiL aiM Sc Sd s n hs)
def aiN:=fun s n hs=>(wW s n hs).1
def aiO:=fun s n hs=>(wW s n hs).2
def Sk:=mk Tryz.func25 (hlC J2.ok (hlC Au.ok (hlC Kg.ok (hlC Sj.ok (hlC J6.ok (hlC RQ.ok (hlC lJ.ok (hlC RS.ok (hlC R9.ok (hlC GH.ok (hlC Sb.ok (hlC Sg.ok (hlC Ke.ok (hlC GJ.ok (hlC Kn.ok (hlC Ko.ok hlN)))))))))))))))) (agp (std 0) oV gV oQ FU oW FV bA FW FX jA FY FZ F3 jB F4 F5)
noncomputable def F8:=Sk.c
def wX:=fun t b ht hb=>Sk.cs (ahJ ZN ZO J4 J5 ZY Z0 aiN aiO ZP ZQ ah9 aia rC rD aib aic aiz aiA RU RV aiD aiE aiF aiG aie aif Sc Sd aiH aiI aiJ aiK t b ht hb)
def aiP:=fun t b ht hb=>(wX t b ht hb).1
def aiQ:=fun t b ht hb=>(wX t b ht hb).2
def Kq:=mk Tryz.func64 (hlC rA.ok hlN) (agq (std 0) bQ)
noncomputable def oZ:=Kq.c
def uN:=fun a b ha=>Kq.cs (ahL yw yx a b ha)
def aac:=fun a b ha=>(uN a b ha).1
def aad:=fun a b ha=>(uN a b ha).2
def Sl:=mk Tryz.func66 (hlC rA.ok (hlC Kq.ok hlN)) (agr (std 0) bQ oZ)
noncomputable def F6:=Sl.c
def uO:=fun a b ha=>Sl.cs (ahM yw yx aac aad a b ha)
def aiR:=fun a b ha=>(uO a b ha).1
def aiS:=fun a b ha=>(uO a b ha).2
def Sn:=mk Tryz.func26 (hlC rA.ok (hlC Sl.ok (hlC Kq.ok hlN))) (ags (std 0) bQ F6 oZ)
noncomputable def F9:=Sn.c
def uP:=fun a b ha=>Sn.cs (ahN yw yx aiR aiS aac aad a b ha)
def aiT:=fun a b ha=>(uP a b ha).1
def aiU:=fun a b ha=>(uP a b ha).2
def Sq:=mk Tryz.func7 (hlC J2.ok (hlC J3.ok (hlC J6.ok (hlC Sk.ok (hlC Sn.ok hlN))))) (agt (std 0) oV F7 oW F8 F9)
noncomputable def Gq:=Sq.c
def uQ:=fun b c hb hc=>Sq.cs (ahO ZN ZO ah1 ah2 ZP ZQ aiP aiQ aiT aiU b c hb hc)
def aiV:=fun b c hb hc=>(uQ b c hb hc).1
def aiW:=fun b c hb hc=>(uQ b c hb hc).2
def Ur:=mk Tryz.func67 hlN (ama (std 0))
noncomputable def Ng:=Ur.c
def aoD:=fun o=>(Ur.cs (acJ o)).1
def aoE:=fun o=>(Ur.cs (acJ o)).2
def aae:=mk Tryz.func27 (hlC Ur.ok hlN) (amb (std 0) Ng)
noncomputable def Nh:=aae.c
def uR:=fun l h=>aae.cs (aot aoD aoE l h)
def aoF:=fun l h=>(uR l h).1
def aoG:=fun l h=>(uR l h).2
def aaf:=mk Tryz.func8 (hlC aae.ok hlN) (amc (std 0) Nh)
noncomputable def Oe:=aaf.c
def qw:=fun b h=>aaf.cs (aou aoF aoG b h)
def aoH:=fun b h=>(qw b h).1
def aoI:=fun b h=>(qw b h).2
def kX:=mk Tryz.func68 hlN (amd (std 0))
noncomputable def aV:=kX.c
def kY:=fun a b c=>(kX.cs (acw a b c)).1
def kZ:=fun a b c=>(kX.cs (acw a b c)).2
def Us:=mk Tryz.func75 (hlC kX.ok hlN) (ame (std 0) aV)
noncomputable def vU:=Us.c
def rW:=fun o=>Us.cs (an3 kY kZ o)
def acM:=fun o=>(rW o).1
def acN:=fun o=>(rW o).2
def BL:=mk Tryz.func112 (hlC kX.ok hlN) (amf (std 0) aV)
noncomputable def iE:=BL.c
def Ou:=fun a=>(BL.cs (acy kY kZ a)).1
def Ov:=fun a=>(BL.cs (acy kY kZ a)).2
def Ow:=mk Tryz.func113 (hlC kX.ok hlN) (amg (std 0) aV)
noncomputable def vW:=Ow.c
def acO:=fun a=>(Ow.cs (acA kY kZ a)).1
def acP:=fun a=>(Ow.cs (acA kY kZ a)).2
def Ox:=mk Tryz.func114 (hlC kX.ok hlN) (amh (std 0) aV)
noncomputable def vV:=Ox.c
def acQ:=fun a=>(Ox.cs (acz kY kZ a)).1
def acR:=fun a=>(Ox.cs (acz kY kZ a)).2
def aag:=mk Tryz.func145 (hlC kX.ok hlN) (ami (std 0) aV)
noncomputable def Ni:=aag.c
def lg:=fun o=>aag.cs (an4 kY kZ o)
def aoJ:=fun o=>(lg o).1
def aoK:=fun o=>(lg o).2
def Ut:=mk Tryz.func115 (hlC aag.ok (hlC kX.ok hlN)) (amj (std 0) Ni aV)
noncomputable def vT:=Ut.c
def lu:=fun b x n h0 h1 h2=>Ut.cs (an6 aoJ aoK kY kZ b x n h0 h1 h2)
def acS:=fun b x n h0 h1 h2=>(lu b x n h0 h1 h2).1
def acT:=fun b x n h0 h1 h2=>(lu b x n h0 h1 h2).2
def aah:=mk Tryz.func69 (hlC Ut.ok (hlC Us.ok (hlC BL.ok (hlC kX.ok (hlC Ox.ok (hlC Ow.ok hlN)))))) (amk (std 0) vT vU iE aV vV vW)
noncomputable def Nk:=aah.c
def lS:=fun b i h0 h1 h2 h3=>aah.cs (an7 acS acT acM acN Ou Ov kY kZ acQ acR acO acP b i h0 h1 h2 h3)
def aoL:=fun b i h0 h1 h2 h3=>(lS b i h0 h1 h2 h3).1
def aoM:=fun b i h0 h1 h2 h3=>(lS b i h0 h1 h2 h3).2
def Oy:=mk Tryz.func81 hlN (aml (std 0))
noncomputable def vX:=Oy.c
def acU:=fun b=>(Oy.cs (acG b)).1
def acV:=fun b=>(Oy.cs (acG b)).2
def aai:=mk Tryz.func70 (hlC Oy.ok (hlC Ut.ok (hlC BL.ok (hlC kX.ok hlN)))) (amm (std 0) vX vT iE aV)
noncomputable def Nj:=aai.c
def lC:=fun b h2=>aai.cs (an8 acU acV acS acT Ou Ov kY kZ b h2)
def aoN:=fun b h2=>(lC b h2).1
def aoO:=fun b h2=>(lC b h2).2
def Uu:=mk Tryz.func28 (hlC aai.ok (hlC aah.ok (hlC kX.ok hlN))) (amn (std 0) Nj Nk aV)
noncomputable def wH:=Uu.c
def BM:=fun b h2=>Uu.cs (an9 aoN aoO aoL aoM kY kZ b h2)
def acW:=fun b h2=>(BM b h2).1
def acX:=fun b h2=>(BM b h2).2
def Uv:=mk Tryz.func71 hlN (amo (std 0))
noncomputable def Nl:=Uv.c
def aoP:=fun a b ha=>(Uv.cs (acI a b ha)).1
def aoQ:=fun a b ha=>(Uv.cs (acI a b ha)).2
def aaj:=mk Tryz.func29 (hlC Uv.ok hlN) (amq (std 0) Nl)
noncomputable def NY:=aaj.c
def wY:=fun a b ha=>aaj.cs (aoj aoP aoQ a b ha)
def aoR:=fun a b ha=>(wY a b ha).1
def aoS:=fun a b ha=>(wY a b ha).2
def Uw:=mk Tryz.func176 hlN (amr (std 0))
noncomputable def Nn:=Uw.c
def aoT:=fun a n=>(Uw.cs (acB a n)).1
def aoU:=fun a n=>(Uw.cs (acB a n)).2
def Sr:=mk Tryz.func198 (hlC Uw.ok hlN) (agu (std 0) Nn)
noncomputable def Ga:=Sr.c
def iT:=fun a n ha=>Sr.cs (agX aoT aoU a n ha)
def aiX:=fun a n ha=>(iT a n ha).1
def aiY:=fun a n ha=>(iT a n ha).2
def aak:=mk Tryz.func175 (hlC Sr.ok hlN) (ams (std 0) Ga)
noncomputable def Np:=aak.c
def gZ:=fun a n ha=>aak.cs (anw aiX aiY a n ha)
def aoV:=fun a n ha=>(gZ a n ha).1
def aoW:=fun a n ha=>(gZ a n ha).2
def Ux:=mk Tryz.func147 (hlC aak.ok hlN) (amt (std 0) Np)
noncomputable def vY:=Ux.c
def rX:=fun a n ha=>Ux.cs (anx aoV aoW a n ha)
def acY:=fun a n ha=>(rX a n ha).1
def acZ:=fun a n ha=>(rX a n ha).2
def aal:=mk Tryz.func182 hlN (ars (std 0))
noncomputable def GZ:=aal.c
def aoX:=fun a=>(aal.cs (anr a)).1
def aoY:=fun a=>(aal.cs (anr a)).2
def aam:=mk Tryz.func155 (hlC aal.ok hlN) (aru (std 0) GZ)
noncomputable def xX:=aam.c
def nX:=fun a b=>aam.cs (arz aoX aoY a b)
def aiZ:=fun a b=>(nX a b).1
def ai0:=fun a b=>(nX a b).2
def aan:=mk Tryz.func156 hlN (arv (std 0))
noncomputable def G5:=aan.c
def aoZ:=fun a b=>(aan.cs (ant a b)).1
def ao0:=fun a b=>(aan.cs (ant a b)).2
def aao:=mk Tryz.func183 (hlC aam.ok hlN) (amu (std 0) xX)
noncomputable def Nq:=aao.c
def jg:=fun a b ha=>aao.cs (anu aiZ ai0 a b ha)
def ao1:=fun a b ha=>(jg a b ha).1
def ao2:=fun a b ha=>(jg a b ha).2
def IC:=mk Tryz.func157 (hlC aan.ok (hlC aam.ok (hlC aao.ok hlN))) (amv (std 0) G5 xX Nq)
noncomputable def jK:=IC.c
def nY:=fun a b ha=>IC.cs (anv aiZ ai0 ao1 ao2 aoZ ao0 a b ha)
def Uy:=fun a b ha=>(nY a b ha).1
def Uz:=fun a b ha=>(nY a b ha).2
def aap:=mk Tryz.func184 (hlC aal.ok hlN) (arw (std 0) GZ)
noncomputable def xY:=aap.c
def uS:=fun a b=>aap.cs (arA aoX aoY a b)
def ao3:=fun a b=>(uS a b).1
def ao4:=fun a b=>(uS a b).2
def Sv:=mk Tryz.func159 (hlC aap.ok hlN) (agv (std 0) xY)
noncomputable def Gc:=Sv.c
def je:=fun a ha=>Sv.cs (agW ao3 ao4 a ha)
def ai1:=fun a ha=>(je a ha).1
def ai2:=fun a ha=>(je a ha).2
def UA:=mk Tryz.func161 hlN (amw (std 0))
noncomputable def Nr:=UA.c
def ao5:=fun m=>(UA.cs (acC m)).1
def ao6:=fun m=>(UA.cs (acC m)).2
def Sw:=mk Tryz.func185 (hlC UA.ok hlN) (agw (std 0) Nr)
noncomputable def Gb:=Sw.c
def dA:=fun a ha=>Sw.cs (agY (G:=(fun m:aj=>0<m.atoms.length∧m.atoms.getD 0 default<0)) ao5 ao6 a ha)
def ai3:=fun a ha=>(dA a ha).1
def ai4:=fun a ha=>(dA a ha).2
def aaq:=mk Tryz.func160 (hlC Sw.ok hlN) (amx (std 0) Gb)
noncomputable def Ns:=aaq.c
def bZ:=fun a ha=>aaq.cs (anz (G:=(fun m:aj=>0<m.atoms.length∧m.atoms.getD 0 default<0)) ai3 ai4 a ha)
def ao7:=fun a ha=>(bZ a ha).1
def ao8:=fun a ha=>(bZ a ha).2
end Go.TX.F
namespace Go.TX.F
open Go Go.AE Go.TX Go.TX.Seat Go.Proofs
set_option maxRecDepth 100000
def zq:=mk Tryz.func123 (hlC kX.ok (hlC Ux.ok (hlC Sv.ok (hlC IC.ok (hlC aaq.ok hlN))))) (amy (std 0) aV vY Gc jK Ns)
noncomputable def eH:=zq.c
def zu:=fun a ha=>zq.cs (anA kY kZ acY acZ ai1 ai2 Uy Uz ao7 ao8 a ha)
def GL:=fun a ha=>(zu a ha).1
def GN:=fun a ha=>(zu a ha).2
def UC:=mk Tryz.func117 (hlC kX.ok (hlC Ox.ok (hlC Ux.ok (hlC zq.ok (hlC Ow.ok hlN))))) (amA (std 0) aV vV vY eH vW)
noncomputable def vZ:=UC.c
def j6:=fun a n ha=>UC.cs (anO kY kZ acQ acR acY acZ GL GN acO acP a n ha)
def ac0:=fun a n ha=>(j6 a n ha).1
def ac1:=fun a n ha=>(j6 a n ha).2
def Oz:=mk Tryz.func120 (hlC aan.ok (hlC aam.ok (hlC IC.ok hlN))) (amB (std 0) G5 xX jK)
noncomputable def mP:=Oz.c
def rY:=fun a b ha=>Oz.cs (anB aoZ ao0 aiZ ai0 Uy Uz a b ha)
def aar:=fun a b ha=>(rY a b ha).1
def aas:=fun a b ha=>(rY a b ha).2
def BN:=mk Tryz.func85 (hlC Oz.ok hlN) (amC (std 0) mP)
noncomputable def fV:=BN.c
def lT:=fun a b ha=>BN.cs (anC aar aas a b ha)
def IE:=fun a b ha=>(lT a b ha).1
def IG:=fun a b ha=>(lT a b ha).2
def aat:=mk Tryz.func150 (hlC BN.ok hlN) (amD (std 0) fV)
noncomputable def Nt:=aat.c
def lU:=fun a b ha=>aat.cs (anL IE IG a b ha)
def ao9:=fun a b ha=>(lU a b ha).1
def apa:=fun a b ha=>(lU a b ha).2
def aau:=mk Tryz.func149 (hlC aat.ok hlN) (amE (std 0) Nt)
noncomputable def Nu:=aau.c
def lD:=fun a b hb=>aau.cs (anM ao9 apa a b hb)
def apb:=fun a b hb=>(lD a b hb).1
def apc:=fun a b hb=>(lD a b hb).2
def Sy:=mk Tryz.func148 (hlC aau.ok hlN) (agx (std 0) Nu)
noncomputable def Gd:=Sy.c
def dB:=fun a b ha hb=>Sy.cs (agZ apb apc a b ha hb)
def ai5:=fun a b ha hb=>(dB a b ha hb).1
def ai6:=fun a b ha hb=>(dB a b ha hb).2
def UD:=mk Tryz.func118 (hlC Sy.ok hlN) (amF (std 0) Gd)
noncomputable def wm:=UD.c
def mZ:=fun a b ha hb=>UD.cs (anN ai5 ai6 a b ha hb)
def ac2:=fun a b ha hb=>(mZ a b ha hb).1
def ac3:=fun a b ha hb=>(mZ a b ha hb).2
def aav:=mk Tryz.func158 hlN (amG (std 0))
noncomputable def Nv:=aav.c
def dW:=fun a=>aav.cs (anK a)
def apd:=fun a=>(dW a).1
def ape:=fun a=>(dW a).2
def UE:=mk Tryz.func121 (hlC UC.ok (hlC UD.ok (hlC aav.ok hlN))) (amH (std 0) vZ wm Nv)
noncomputable def wu:=UE.c
def nZ:=fun t a ht ha=>UE.cs (anQ ac0 ac1 ac2 ac3 apd ape t a ht ha)
def ac4:=fun t a ht ha=>(nZ t a ht ha).1
def ac5:=fun t a ht ha=>(nZ t a ht ha).2
def UF:=mk Tryz.func122 (hlC kX.ok hlN) (amI (std 0) aV)
noncomputable def wo:=UF.c
def uT:=fun a=>UF.cs (anF kY kZ a)
def ac6:=fun a=>(uT a).1
def ac7:=fun a=>(uT a).2
def UG:=mk Tryz.func80 (hlC UF.ok (hlC UE.ok hlN)) (amJ (std 0) wo wu)
noncomputable def wz:=UG.c
def qx:=fun kd k t fl ht=>UG.cs (aod ac6 ac7 ac4 ac5 kd k t fl ht)
def ac8:=fun kd k t fl ht=>(qx kd k t fl ht).1
def ac9:=fun kd k t fl ht=>(qx kd k t fl ht).2
def UH:=mk Tryz.func72 (hlC UG.ok hlN) (amK (std 0) wz)
noncomputable def wD:=UH.c
def og:=fun t fl ht hl=>UH.cs (aoe ac8 ac9 t fl ht hl)
def ada:=fun t fl ht hl=>(og t fl ht hl).1
def adb:=fun t fl ht hl=>(og t fl ht hl).2
def OA:=mk Tryz.func146 hlN (amL (std 0))
noncomputable def wB:=OA.c
def ade:=fun a ha=>(OA.cs (acE a ha)).1
def adf:=fun a ha=>(OA.cs (acE a ha)).2
def OB:=mk Tryz.func116 (hlC OA.ok hlN) (amM (std 0) wB)
noncomputable def mQ:=OB.c
def lF:=fun a ha=>OB.cs (anH ade adf a ha)
def aaw:=fun a ha=>(lF a ha).1
def aax:=fun a ha=>(lF a ha).2
def UJ:=mk Tryz.func73 (hlC OB.ok hlN) (amN (std 0) mQ)
noncomputable def wC:=UJ.c
def lV:=fun a ha=>UJ.cs (anI aaw aax a ha)
def adg:=fun a ha=>(lV a ha).1
def adh:=fun a ha=>(lV a ha).2
def aay:=mk Tryz.func30 (hlC UJ.ok (hlC UH.ok hlN)) (amO (std 0) wC wD)
noncomputable def NZ:=aay.c
def wZ:=aay.cs (aog adg adh ada adb)
def apf:=(wZ).1
def apg:=(wZ).2
def aaz:=mk Tryz.func74 (hlC UC.ok (hlC UD.ok hlN)) (amP (std 0) vZ wm)
noncomputable def NQ:=aaz.c
def zw:=fun a ha=>aaz.cs (anP ac0 ac1 ac2 ac3 a ha)
def aph:=fun a ha=>(zw a ha).1
def apj:=fun a ha=>(zw a ha).2
def aaA:=mk Tryz.func76 (hlC kX.ok hlN) (amQ (std 0) aV)
noncomputable def NK:=aaA.c
def oh:=fun o=>aaA.cs (an5 kY kZ o)
def apk:=fun o=>(oh o).1
def apl:=fun o=>(oh o).2
def aaB:=mk Tryz.func77 hlN (amR (std 0))
noncomputable def NS:=aaB.c
def dR:=fun a h0 h1=>aaB.cs (aof a h0 h1)
def apm:=fun a h0 h1=>(dR a h0 h1).1
def apn:=fun a h0 h1=>(dR a h0 h1).2
def OC:=mk Tryz.func78 (hlC kX.ok hlN) (amS (std 0) aV)
noncomputable def mU:=OC.c
def rZ:=fun a=>OC.cs (anE kY kZ a)
def aaC:=fun a=>(rZ a).1
def aaD:=fun a=>(rZ a).2
def UK:=mk Tryz.func125 (hlC zq.ok hlN) (amT (std 0) eH)
noncomputable def wG:=UK.c
def w9:=fun a ha=>UK.cs (anG GL GN a ha)
def adi:=fun a ha=>(w9 a ha).1
def adk:=fun a ha=>(w9 a ha).2
def II:=mk Tryz.func181 hlN (amU (std 0))
noncomputable def mR:=II.c
def aaE:=fun a=>(II.cs (acD a)).1
def aaF:=fun a=>(II.cs (acD a)).2
def UL:=mk Tryz.func200 (hlC IC.ok hlN) (amV (std 0) jK)
noncomputable def nP:=UL.c
def zy:=fun a b ha=>UL.cs (anJ Uy Uz a b ha)
def adl:=fun a b ha=>(zy a b ha).1
def adn:=fun a b ha=>(zy a b ha).2
def Sz:=mk Tryz.func217 (hlC UL.ok hlN) (agy (std 0) nP)
noncomputable def Gg:=Sz.c
def dK:=fun a b d hd h1 h2 h3=>Sz.cs (ag1 adl adn a b d hd h1 h2 h3)
def ai7:=fun a b d hd h1 h2 h3=>(dK a b d hd h1 h2 h3).1
def ai8:=fun a b d hd h1 h2 h3=>(dK a b d hd h1 h2 h3).2
def Kr:=mk Tryz.func226 hlN (agz (std 0))
noncomputable def Gf:=Kr.c
def ai9:=fun a b n d hl h1 h2 h3 h4=>(Kr.cs (Y9 a b n d hl h1 h2 h3 h4)).1
def aja:=fun a b n d hl h1 h2 h3 h4=>(Kr.cs (Y9 a b n d hl h1 h2 h3 h4)).2
def SA:=mk Tryz.func224 (hlC Kr.ok hlN) (agA (std 0) Gf)
noncomputable def qZ:=SA.c
def fJ:=fun a m b d hl h1 h2 h3 h4=>SA.cs (ag0 ai9 aja a m b d hl h1 h2 h3 h4)
def ajb:=fun a m b d hl h1 h2 h3 h4=>(fJ a m b d hl h1 h2 h3 h4).1
def ajc:=fun a m b d hl h1 h2 h3 h4=>(fJ a m b d hl h1 h2 h3 h4).2
noncomputable def cK:Nat→Ct aB mO
 | 0=>never mO
 | k+1=>cn (Fj (std 0) nP.pre nP.fn qZ.pre qZ.fn (cK k).pre (cK k).fn)
theorem kK:∀k:Nat,cO E 218 (bX (cK k))∧∀(a m b:Int) (d:List aj),Ao a m b d→b-a<k→(cK k).pre (a,m,b,d,())=true∧Mrg d ((cK k).fn (a,m,b,d,())).1 a b
 | 0=>⟨j5 (enters_of Tryz.func218 (by kernel_rfl) rfl),fun a m b d h1 h2=>(by have g1:=h1.h2;have g2:=h1.h3;omega)⟩
 | k+1=>by
  have ih:=kK k
  have t:Fn E 218 (Fj (std 0) nP.pre nP.fn qZ.pre qZ.fn (cK k).pre (cK k).fn) (cK (k+1)):=mk Tryz.func218 (hlC UL.ok (hlC SA.ok (hlC ih.1 hlN))) (agB (std 0) nP qZ (cK k))
  exact⟨t.ok,fun a m b d h1 h2=>t.cs (ag2 adl adn ajb ajc (k:Int) (fun a m b d h1 h2=>(ih.2 a m b d h1 h2).1) (fun a m b d h1 h2=>(ih.2 a m b d h1 h2).2) a m b d h1 (by omega))⟩
noncomputable def o7:Ct aB mO:=cK 1000000000
theorem ajd:cO E 218 (bX o7):=(kK 1000000000).1
theorem ado {a m b:Int} {d:List aj} (h:Ao a m b d):b-a< ((1000000000:Nat):Int):=by have g0:=h.sh.1;have g1:=h.h1;have g2:=h.h4;omega
def aje:=fun a m b d h=>((kK 1000000000).2 a m b d h (ado h)).1
def ajf:=fun a m b d h=>((kK 1000000000).2 a m b d h (ado h)).2
def SB:=mk Tryz.func206 (hlC Sz.ok (hlC ajd hlN)) (agC (std 0) Gg o7)
noncomputable def Gh:=SB.c
def fK:=fun n d hd hn=>SB.cs (ag3 ai7 ai8 aje ajf n d hd hn)
def ajg:=fun n d hd hn=>(fK n d hd hn).1
def ajh:=fun n d hd hn=>(fK n d hd hn).2
def SE:=mk Tryz.func199 (hlC SB.ok hlN) (agD (std 0) Gh)
noncomputable def Gi:=SE.c
def bT:=fun d hd=>SE.cs (ag4 ajg ajh d hd)
def aji:=fun d hd=>(bT d hd).1
def ajj:=fun d hd=>(bT d hd).2
def UM:=mk Tryz.func177 (hlC IC.ok (hlC zq.ok (hlC II.ok (hlC OA.ok (hlC SE.ok hlN))))) (amW (std 0) jK eH mR wB Gi)
noncomputable def wE:=UM.c
def GQ:=fun l hl hc=>UM.cs (anS Uy Uz GL GN aaE aaF ade adf aji ajj l hl hc)
def adp:=fun l hl hc=>(GQ l hl hc).1
def adq:=fun l hl hc=>(GQ l hl hc).2
end Go.TX.F
namespace Go.TX.F
open Go Go.AE Go.TX Go.TX.Seat Go.Proofs
set_option maxRecDepth 100000
def aaG:=mk Tryz.func201 hlN (amX (std 0))
noncomputable def Nw:=aaG.c
def dZ:=fun n h1 h2=>aaG.cs (anT n h1 h2)
def apo:=fun n h1 h2=>(dZ n h1 h2).1
def apq:=fun n h1 h2=>(dZ n h1 h2).2
def aaH:=mk Tryz.func178 (hlC aaG.ok hlN) (amY (std 0) Nw)
noncomputable def Ny:=aaH.c
def dN:=fun a b ha hb=>aaH.cs (anU apo apq a b ha hb)
def apr:=fun a b ha hb=>(dN a b ha hb).1
def aps:=fun a b ha hb=>(dN a b ha hb).2
def aaI:=mk Tryz.func151 (hlC zq.ok (hlC UM.ok (hlC aaH.ok hlN))) (amZ (std 0) eH wE Ny)
noncomputable def NC:=aaI.c
def xg:=fun a b ha hb=>aaI.cs (anW GL GN adp adq apr aps a b ha hb)
def apt:=fun a b ha hb=>(xg a b ha hb).1
def apu:=fun a b ha hb=>(xg a b ha hb).2
def Kt:=mk Tryz.func202 hlN (agE (std 0))
noncomputable def Gj:=Kt.c
def ajk:=fun n h1 h2=>(Kt.cs (Za n h1 h2)).1
def ajl:=fun n h1 h2=>(Kt.cs (Za n h1 h2)).2
def aaJ:=mk Tryz.func179 (hlC Kt.ok hlN) (am0 (std 0) Gj)
noncomputable def Nz:=aaJ.c
def jN:=fun a b ha hb=>aaJ.cs (anV ajk ajl a b ha hb)
def apv:=fun a b ha hb=>(jN a b ha hb).1
def apw:=fun a b ha hb=>(jN a b ha hb).2
def SF:=mk Tryz.func207 (hlC aap.ok hlN) (agF (std 0) xY)
noncomputable def Gm:=SF.c
def fZ:=fun a b d hd h1 h2=>SF.cs (ahs ao3 ao4 a b d hd h1 h2)
def ajm:=fun a b d hd h1 h2=>(fZ a b d hd h1 h2).1
def ajn:=fun a b d hd h1 h2=>(fZ a b d hd h1 h2).2
noncomputable def Ad:Ct aB EP:=never EP
theorem ajo:cO E 208 (bX Ad):=j5 (enters_of Tryz.func208 (by kernel_rfl) rfl)
noncomputable def Ae:Ct aB ER:=never ER
theorem ajp:cO E 209 (bX Ae):=j5 (enters_of Tryz.func209 (by kernel_rfl) rfl)
noncomputable def Af:Ct aB ET:=never ET
theorem ajq:cO E 210 (bX Af):=j5 (enters_of Tryz.func210 (by kernel_rfl) rfl)
noncomputable def Ag:Ct aB EU:=never EU
theorem ajr:cO E 211 (bX Ag):=j5 (enters_of Tryz.func211 (by kernel_rfl) rfl)
noncomputable def Ah:Ct aB EW:=never EW
theorem ajs:cO E 212 (bX Ah):=j5 (enters_of Tryz.func212 (by kernel_rfl) rfl)
noncomputable def Ai:Ct aB EZ:=never EZ
theorem ajt:cO E 213 (bX Ai):=j5 (enters_of Tryz.func213 (by kernel_rfl) rfl)
noncomputable def Aj:Ct aB E5:=never E5
theorem aju:cO E 214 (bX Aj):=j5 (enters_of Tryz.func214 (by kernel_rfl) rfl)
noncomputable def iF:Ct aB oH:=never oH
theorem lK:cO E 203 (bX iF):=j5 (enters_of Tryz.func203 (by kernel_rfl) rfl)
def SG:=mk Tryz.func203 (hlC aap.ok (hlC SF.ok (hlC ajo (hlC ajp (hlC ajq (hlC ajr (hlC ajs (hlC ajt (hlC aju (hlC lK hlN)))))))))) (agG (std 0) xY Gm Ad Ae Af Ag Ah Ai Aj iF)
noncomputable def q8:=SG.c
def iK:=fun a b k d hd h1 h2=>SG.cs (aht ajm ajn _ _ _ _ _ _ _ _ _ _ _ _ _ _ _ _ a b k d hd h1 h2)
def ajv:=fun a b k d hd h1 h2=>(iK a b k d hd h1 h2).1
def ajw:=fun a b k d hd h1 h2=>(iK a b k d hd h1 h2).2
noncomputable def Gn:Ct aB TK:={pre:=fun x=>decide ((0:Int)≤x.1)&&decide ((x.1:Int)≤18446744073709551615),fn:=fun x=>((Lib.bitLen (x.1:Int).toNat:Int),())}
theorem apx (n:Int) (h1:0≤n) (h2:n≤18446744073709551615):Gn.pre (n,())=true:=by
 show(decide _&&decide _)=true;simp only [Bool.and_eq_true,decide_eq_true_eq];exact⟨h1,h2⟩
theorem apy:cO E 204 (bX Gn):=
 ZJ (enters_of Tryz.func204 (by kernel_rfl) rfl) rfl fun x w h=>by
  have h':(decide ((0:Int)≤x)&&decide (x≤18446744073709551615))=true:=h
  simp only [Bool.and_eq_true,decide_eq_true_eq]at h'
  exact bits_Len x w h'.1 h'.2
def SH:=mk Tryz.func180 (hlC SG.ok (hlC apy hlN)) (agH (std 0) q8 Gn)
noncomputable def Gp:=SH.c
def kr:=fun a ha=>SH.cs (ahu ajv ajw apx a ha)
def ajx:=fun a ha=>(kr a ha).1
def ajy:=fun a ha=>(kr a ha).2
def UN:=mk Tryz.func153 (hlC zq.ok (hlC II.ok (hlC UM.ok (hlC aaJ.ok (hlC SH.ok hlN))))) (am1 (std 0) eH mR wE Nz Gp)
noncomputable def wF:=UN.c
def xk:=fun a b ha hb=>UN.cs (anX GL GN aaE aaF adp adq apv apw ajx ajy a b ha hb)
def adr:=fun a b ha hb=>(xk a b ha hb).1
def ads:=fun a b ha hb=>(xk a b ha hb).2
def aaK:=mk Tryz.func152 (hlC zq.ok (hlC OC.ok (hlC BL.ok (hlC UN.ok hlN)))) (am2 (std 0) eH mU iE wF)
noncomputable def ND:=aaK.c
def r9:=fun a n ha=>aaK.cs (anY GL GN aaC aaD Ou Ov adr ads a n ha)
def apz:=fun a n ha=>(r9 a n ha).1
def apA:=fun a n ha=>(r9 a n ha).2
def aaL:=mk Tryz.func154 (hlC BL.ok (hlC II.ok hlN)) (am3 (std 0) iE mR)
noncomputable def NA:=aaL.c
def zB:=fun op a b=>aaL.cs (anD Ou Ov aaE aaF op a b)
def apB:=fun op a b=>(zB op a b).1
def apC:=fun op a b=>(zB op a b).2
def aaM:=mk Tryz.func119 (hlC BN.ok (hlC OC.ok (hlC aaL.ok (hlC aaI.ok (hlC UN.ok (hlC aaK.ok (hlC UK.ok hlN))))))) (am4 (std 0) fV mU NA NC wF ND wG)
noncomputable def NG:=aaM.c
def xq:=fun op x y hx hy=>aaM.cs (anZ IE IG aaC aaD apB apC apt apu adr ads apz apA adi adk op x y hx hy)
def apD:=fun op x y hx hy=>(xq op x y hx hy).1
def apE:=fun op x y hx hy=>(xq op x y hx hy).2
def aaN:=mk Tryz.func79 (hlC Oz.ok (hlC aaM.ok (hlC UE.ok (hlC UF.ok hlN)))) (am5 (std 0) mP NG wu wo)
noncomputable def NR:=aaN.c
def qy:=fun t op x y ht hx hy=>aaN.cs (an0 aar aas apD apE ac4 ac5 ac6 ac7 t op x y ht hx hy)
def apF:=fun t op x y ht hx hy=>(qy t op x y ht hx hy).1
def apG:=fun t op x y ht hx hy=>(qy t op x y ht hx hy).2
def aaO:=mk Tryz.func162 (hlC OB.ok hlN) (am6 (std 0) mQ)
noncomputable def NH:=aaO.c
def om:=fun a ha=>aaO.cs (aob aaw aax a ha)
def apH:=fun a ha=>(om a ha).1
def apI:=fun a ha=>(om a ha).2
def aaP:=mk Tryz.func124 (hlC OB.ok (hlC aaO.ok hlN)) (am7 (std 0) mQ NH)
noncomputable def NI:=aaP.c
def lW:=fun s hs=>aaP.cs (aoc aaw aax apH apI s hs)
def apJ:=fun s hs=>(lW s hs).1
def apK:=fun s hs=>(lW s hs).2
def aaQ:=mk Tryz.func126 (hlC BL.ok hlN) (am8 (std 0) iE)
noncomputable def NJ:=aaQ.c
def xu:=fun r a b=>aaQ.cs (aoa Ou Ov r a b)
def apL:=fun r a b=>(xu r a b).1
def apM:=fun r a b=>(xu r a b).2
def aaR:=mk Tryz.func82 (hlC UK.ok (hlC zq.ok (hlC Oz.ok (hlC aaP.ok (hlC BN.ok (hlC aaQ.ok hlN)))))) (am9 (std 0) wG eH mP NI fV NJ)
noncomputable def NP:=aaR.c
def xw:=fun s n hs h0 h1=>aaR.cs (aoh adi adk GL GN aar aas apJ apK IE IG apL apM s n hs h0 h1)
def apN:=fun s n hs h0 h1=>(xw s n hs h0 h1).1
def apO:=fun s n hs h0 h1=>(xw s n hs h0 h1).2
def aaS:=mk Tryz.func31 (hlC Oy.ok (hlC Uu.ok (hlC aaA.ok (hlC Us.ok (hlC OC.ok (hlC aaR.ok (hlC aaz.ok (hlC UJ.ok (hlC aaN.ok (hlC UG.ok (hlC UH.ok (hlC aaB.ok hlN)))))))))))) (ana (std 0) vX wH NK vU mU NP NQ wC NR wz wD NS)
noncomputable def N7:=aaS.c
def xA:=fun t b ht hb=>aaS.cs (aoi acU acV acW acX apk apl acM acN aaC aaD apN apO aph apj adg adh apF apG ac8 ac9 ada adb apm apn t b ht hb)
def apP:=fun t b ht hb=>(xA t b ht hb).1
def apQ:=fun t b ht hb=>(xA t b ht hb).2
def aaT:=mk Tryz.func128 (hlC BN.ok hlN) (anb (std 0) fV)
noncomputable def NT:=aaT.c
def ni:=fun a b ha=>aaT.cs (aol IE IG a b ha)
def apR:=fun a b ha=>(ni a b ha).1
def apS:=fun a b ha=>(ni a b ha).2
def aaU:=mk Tryz.func127 (hlC aaT.ok hlN) (ane (std 0) NT)
noncomputable def NU:=aaU.c
def aY:=fun a b ha=>aaU.cs (aom apR apS a b ha)
def apT:=fun a b ha=>(aY a b ha).1
def apU:=fun a b ha=>(aY a b ha).2
def UO:=mk Tryz.func86 (hlC aaU.ok hlN) (anf (std 0) NU)
noncomputable def wI:=UO.c
def qz:=fun a b ha=>UO.cs (aon apT apU a b ha)
def adt:=fun a b ha=>(qz a b ha).1
def adu:=fun a b ha=>(qz a b ha).2
def aaV:=mk Tryz.func84 (hlC BN.ok (hlC UO.ok hlN)) (ang (std 0) fV wI)
noncomputable def NV:=aaV.c
def qA:=fun a b ha=>aaV.cs (aoo IE IG adt adu a b ha)
def apV:=fun a b ha=>(qA a b ha).1
def apW:=fun a b ha=>(qA a b ha).2
def aaW:=mk Tryz.func83 (hlC aaV.ok hlN) (anh (std 0) NV)
noncomputable def NW:=aaW.c
def aT:=fun a b ha=>aaW.cs (aop apV apW a b ha)
def apX:=fun a b ha=>(aT a b ha).1
def apY:=fun a b ha=>(aT a b ha).2
end Go.TX.F
namespace Go.TX.F
open Go Go.AE Go.TX Go.TX.Seat Go.Proofs
set_option maxRecDepth 100000
def aaX:=mk Tryz.func32 (hlC BN.ok (hlC UO.ok (hlC aaW.ok hlN))) (ani (std 0) fV wI NW)
noncomputable def N8:=aaX.c
def uU:=fun a b ha=>aaX.cs (aoq IE IG adt adu apX apY a b ha)
def apZ:=fun a b ha=>(uU a b ha).1
def ap0:=fun a b ha=>(uU a b ha).2
def aaY:=mk Tryz.func9 (hlC Uu.ok (hlC aaj.ok (hlC aay.ok (hlC aaS.ok (hlC aaX.ok hlN))))) (anj (std 0) wH NY NZ N7 N8)
noncomputable def Ob:=aaY.c
def uV:=fun b c hb hc=>aaY.cs (aor acW acX aoR aoS apf apg apP apQ apZ ap0 b c hb hc)
def ap1:=fun b c hb hc=>(uV b c hb hc).1
def ap2:=fun b c hb hc=>(uV b c hb hc).2
def UQ:=mk Tryz.func87 hlN (ank (std 0))
noncomputable def N9:=UQ.c
def ap3:=fun a b=>(UQ.cs (acK a b)).1
def ap4:=fun a b=>(UQ.cs (acK a b)).2
def aaZ:=mk Tryz.func33 (hlC UQ.ok hlN) (anl (std 0) N9)
noncomputable def Oa:=aaZ.c
def uW:=fun a b hlen=>aaZ.cs (aov ap3 ap4 a b hlen)
def ap5:=fun a b hlen=>(uW a b hlen).1
def ap6:=fun a b hlen=>(uW a b hlen).2
def aa0:=mk Tryz.func10 (hlC aaZ.ok hlN) (anm (std 0) Oa)
noncomputable def Oc:=aa0.c
def qB:=fun a b h=>aa0.cs (aow ap5 ap6 a b h)
def ap7:=fun a b h=>(qB a b h).1
def ap8:=fun a b h=>(qB a b h).2
def adw:=mk Tryz.func3 (hlC aaY.ok (hlC aa0.ok (hlC ZK.ok (hlC aaf.ok (hlC Sq.ok hlN))))) (ano (std 0) Ob Oc Od Oe Gq)
def ku:=fun b c hb hc=>adw.cs (aoy ap1 ap2 ap7 ap8 aoB aoC aoH aoI aiV aiW b c hb hc)
def ap9:=fun b c hb hc=>(ku b c hb hc).1
def aqa:=fun b c hb hc=>(ku b c hb hc).2
end Go.TX.F
namespace Go.TX.F
open Go Go.AE Go.TX Go.TX.Seat Go.Proofs
set_option maxRecDepth 100000
end Go.TX.F
namespace Go.Proofs.YtpijningoklkpaaGreat
open Go.ChangeShapes Go.WideShapes Go.ChangeAt Go.RowKit
theorem arL:ownKnob Tryz.prog.godebug=Option.none:=by kernel_rfl
theorem adx:laidOutB Tryz.prog=true:=by kernel_rfl
set_option maxRecDepth 100000 in
theorem lifted (os:Os) (started:os.Started) (H:Type) (enc:TypeId×Value→H):
  ReturnsInHanded {} Tryz.checked os 3 .any (Rows.fnExactChkSameSpec.pre6 enc Tryz.prog Tryz.f3 Rows.fnExactChkSameRow.domain false) (Rows.fnExactChkSameSpec.post enc Tryz.prog Tryz.f3 false true false false):=by
 refine returnsInHanded_of_change (C:=Tryz.checked) arL started (by kernel_rfl) Tryz.func3
  (ChangeSpec.witness6 (enc:=enc) (C:=Tryz.checked) false ⟨#[], #[.agg #[.int .i64 0,.int .i64 0,.slice none 0 0,.int .i64 0,.int .i64 0,.int .i64 0,.int .i64 0],.agg #[.int .i64 0,.int .i64 0,.slice none 0 0,.int .i64 0,.int .i64 0,.int .i64 0,.int .i64 0]],[]⟩ 8 (by kernel_rfl) (by kernel_rfl) (by kernel_rfl) (by kernel_rfl)) ?_
 intro W base args ds gs before hval0 hW _ _
 have hval:∀(j:Nat) t v,Tryz.f3.params[j]? =some t→args[j]? =some v→Value.okWide Tryz.prog W .any base t v:=hval0
 have hW':=hW
 obtain⟨p,q,hA0,hV,rfl,_,_⟩:=hW
 have hA:DataW.TrodAll enc Tryz.prog W 0 (fun _=>true) true Tryz.f3.params.toList args.toList ds p:=hA0
 rw [Tryz.params3]at hA hval
 obtain⟨v0,v1,d0,d1,p0,p1,rfl,rfl,rfl,h0,h1⟩:=trodAll_two hA
 obtain⟨rfl,rfl⟩:=trodVars_none hV
 clear hA0 hval0
 simp only [List.append_nil]at hW'
 have arM:Go.TX.CO enc Tryz.prog W (.rows .iop) 22:=Go.TX.ahT Tryz.underlying22 Tryz.underlying107 (by kernel_rfl) rfl (by kernel_rfl)
 have aqb:Go.TX.EO enc Tryz.prog W .blk Go.TX.BG 24:=Go.TX.ahU Tryz.underlying24 (by kernel_rfl) (by kernel_rfl) arM
 have hlt:∀x∈p0++p1,x.block<W.heap.size:=fun x hx=>by simpa using hW'.lt x (by simpa using hx)
 have hl0:∀x∈p0,x.block<W.heap.size:=fun x hx=>hlt x (List.mem_append_left _ hx)
 have hl1:∀x∈p1,x.block<W.heap.size:=fun x hx=>hlt x (List.mem_append_right _ hx)
 obtain⟨c0,rfl,_⟩:=okWide_struct Tryz.underlying24 (hval 0 24 v0 rfl rfl)
 obtain⟨c1,rfl,_⟩:=okWide_struct Tryz.underlying24 (hval 1 24 v1 rfl rfl)
 obtain⟨l0,rfl⟩:∃l:List Value,c0=l.toArray:=⟨c0.toList,by simp⟩
 obtain⟨l1,rfl⟩:∃l:List Value,c1=l.toArray:=⟨c1.toList,by simp⟩
 have h0':=h0
 have h1':=h1
 obtain⟨f0,q0⟩:=h0'
 obtain⟨f1,q1⟩:=h1'
 obtain⟨x,hr,hb⟩:=aqb f0 l0 _ q0 hl0
 obtain⟨y,hs,hc⟩:=aqb f1 l1 _ q1 hl1
 have hp:=Go.TX.F.ap9 x y hb hc
 have hq:=Go.TX.F.aqa x y hb hc
 refine(Go.TX.abW Go.TX.F.adw.ok hr hs (fun g d h=>by cases h) hp).mono fun e W' ⟨he,hw⟩=> ?_
 have he:e= .returned (.bool true):=he.trans (congrArg (fun z:Bool×Unit=>Ending.returned (.bool z.1)) hq)
 refine⟨_,he,[d0,d1],[],p0++p1,[],p0++p1,[],hW',trodAll_mk1 (shut_bool Tryz.underlying4 true),?_,rfl,hw.frame _,fun h=>by cases h⟩
 exact trodAll_mk2 (Below.trod adx (by kernel_rfl) (of_decide_eq_true (by kernel_rfl)) h0 hw hl0) (Below.trod adx (by kernel_rfl) (of_decide_eq_true (by kernel_rfl)) h1 hw hl1)
theorem y1:Tryz.pinned.checked.prog.funcNamed Rows.fnExactChkSameRow.func=some 3:=by kernel_rfl
theorem aS {a b:Bool} (h:a=true) (k:b=true):(a&&b)=true:=by rw [h,k];rfl
set_option maxHeartbeats 4000000 in
theorem y2:joinedFacts Tryz.pinned.checked.prog 3 Tryz.f3 Rows.fnExactChkSameSpec Rows.fnExactChkSameRow=true:=by
 unfold joinedFacts
 repeat' with_reducible apply aS
 all_goals (as_aux_lemma=>kernel_rfl)
theorem y3:Func.isWrapper Tryz.prog Tryz.f3 Rows.fnExactChkSameRow.wrapper Rows.fnExactChkSameRow.mainSum:=(by unfold Func.isWrapper;first | (rw [if_pos (by decide+kernel)];kernel_rfl) | (rw [if_neg (by decide+kernel)];exact⟨rfl,rfl⟩))
theorem x_holds:Rows.FnExactChkSameSaid:=
 OpenClaim.holds_of_wide 3 Tryz.f3 rfl rfl rfl rfl rfl rfl rfl ⟨rfl,rfl,rfl,rfl,rfl⟩ rfl rfl rfl rfl rfl y1 Tryz.func3 y2
  (of_decide_eq_true (by kernel_rfl)) y3
  (fun os started H enc _=>lifted os started H enc)
end Go.Proofs.YtpijningoklkpaaGreat
