/- Part 4 of a proof: what the last part needs. No condition. -/
import Derived.Test.YthhkbfpkkbhibaaGreatDoorZc
import Derived.Lib.Bytes
set_option maxHeartbeats 1000000
set_option linter.all false
set_option linter.unusedSectionVars false
set_option linter.unusedVariables false
set_option linter.unusedSimpArgs false
namespace Go.TX.F
open Go Go.AE Go.TX
def E8{m:aj}(n:Int)(h:aok m.atoms):mulM m ⟨n,[]⟩=⟨m.bC*n%65536,m.atoms⟩:=by
 unfold mulM;rw [<-nG (a:=m.atoms++ []) (o:=m.atoms) h.1 (by simp)]
def Br(a:List aj)(n:aj):prods a [n]=a.map (λm=>mulM m n):=by
 induction a with
 | nil=>rfl
 | cons x a ih=>simp only [prods,List.flatMap_cons,List.map_cons,List.map_nil]at ih ⊢;rw [ih];rfl
def KT{t:List Int}:∀ {l:List aj},(∀m∈l,m.bC=0)->cf l t=0
 | [],_=>rfl
 | m::l,h=>by rw [aV,KT (λm hm=>h m (by simp [hm])),h m (by simp)];split<;>rfl
def dQ:aI []:=eH.2 ⟨⟨List.Pairwise.nil,λm hm=>absurd hm (by simp)⟩,by simp,λm hm=>absurd hm (by simp)⟩
def jU(n:Int):aI (bS n):=by
 unfold bS;split
 .refine eH.2 ⟨⟨List.pairwise_singleton _ _,λm hm=> ?_⟩,by simp,λm hm=> ?_⟩
  .rw [List.mem_singleton]at hm;subst hm;assumption
  .rw [List.mem_singleton]at hm;subst hm;exact⟨by simp,List.Pairwise.nil,λk hk=>absurd hk (by simp)⟩
 .exact dQ
def jH(n:Int):aI (dG n):=by
 unfold dG;split
 .refine eH.2 ⟨⟨List.pairwise_singleton _ _,λm hm=> ?_⟩,by simp,λm hm=> ?_⟩
  .rw [List.mem_singleton]at hm;subst hm;dsimp only;omega
  .rw [List.mem_singleton]at hm;subst hm;exact⟨by simp,List.pairwise_singleton _ _,λk hk=>by rw [List.mem_singleton]at hk;omega⟩
 .exact dQ
def aiI{p1 f1 p0 f0 p4 f4 p3 f3}(U1:Y11 p1 f1)(U0:Y10 p0 f0)(U4:Y13 p4 f4)(U3:Y9 p3 f3)(a:List aj)(n:Int)(ha:Sh a):NZ.F (p1,f1,p0,f0,p4,f4,p3,f3,()) (a,n,()) (λy=>y=(gK a n,())):=by
 dsimp only [NZ,gm];simp (disch:=omega) only [RR,U1.hp a ha,U1.hf a ha,U3.hp,U3.hf,aN,fT,bM,jq];unfold gK;refine⟨λh=> ?_,λ⟨h1,h2⟩=> ?_⟩
 .rw [if_neg];rw [Bool.and_eq_true,aN,bM];rintro⟨g1,g2⟩;rcases h with h | h
  .exact h g1
  .exact h g2
 rw [if_pos (by rw [aU h1,Bool.true_and,bM];exact h2)];have l1:=h1.len;have hss:=h1.nf.ss
 refine ak (λ(y:Int×Int×List aj×List aj×Unit)=>y.1=n/\y.2.2.1=a/\0<=y.2.1/\y.2.1<=a.length/\Nf y.2.2.2.1/\(y.2.2.2.1.length:Int)<=y.2.1/\(∀t,cf y.2.2.2.1 t=cf ((a.take y.2.1.toNat).map (λm=>⟨m.bC*n%65536,m.atoms⟩)) t%65536)
   /\(∀x∈y.2.2.2.1,x.atoms.length<=4/\(y.2.1<a.length->lt x ((a).getD (y.2.1).toNat default)))) (λy=>(a.length-y.2.1).toNat)
  ⟨rfl,rfl,by simp,by simp,⟨List.Pairwise.nil,λm hm=>absurd hm (by simp)⟩,by simp,λt=>by simp [cf],λx hx=>absurd hx (by simp)⟩ ?_
 rintro⟨(n':Int),(i:Int),(a':List aj),(o:List aj),⟨⟩⟩ hI;dsimp only at hI ⊢;obtain⟨rfl,rfl,h3,h4,h5,h6,h7,h8⟩:=hI;have so:Sh o:=⟨ah,λm hm=>by have:=(h8 m hm).1;omega⟩;by_cases h9:i<a'.length
 .have ma:((a').getD (i).toNat default)∈a':=cO h3 h9;have ca:=h1.nf.co _ ma;have qa:=h1.aok ma;have hm:=I5 (show 0<=((a').getD (i).toNat default).bC by omega) ah h2.1 h2.2;have nx:i+1<a'.length->lt ((a').getD (i).toNat default) ((a').getD (i+1).toNat default):=λh=>by
   have:=(dB (d:=default) (R:=lt) eF).1 hss (i+1) ah h;rw [show i+1-1=i by omega]at this;exact this
  have tk:(a'.take (i+1).toNat).map (λm:aj=>(⟨m.bC*n'%65536,m.atoms⟩:aj))=(a'.take i.toNat).map (λm:aj=>(⟨m.bC*n'%65536,m.atoms⟩:aj))++ [⟨((a').getD (i).toNat default).bC*n'%65536,((a').getD (i).toNat default).atoms⟩]:=by
   rw [<-bK (d:=default) h3 h9 rfl,List.map_append];rfl
  simp (disch:=omega) only [RR,U0.hp,U0.hf];refine⟨λ_=>⟨ah,ah,λg=>⟨ah,ah,by simp only [List.length_cons,List.length_nil];omega,⟨ah,ah,?_,?_,λt=> ?_,λx hx=> ?_⟩,ah⟩,λg=>⟨⟨ah,ah,h5,ah,λt=> ?_,λx hx=>⟨(h8 x hx).1,λg2=>eF ((h8 x hx).2 h9) (nx g2)⟩⟩,ah⟩⟩,λh=>absurd h9 h⟩
  .refine⟨?_,λx hx=> ?_⟩
   .rw [List.pairwise_append];exact⟨h5.ss,List.pairwise_singleton _ _,λx hx z hz=>by rw [List.mem_singleton]at hz;subst hz;exact(h8 x hx).2 h9⟩
   .rw [List.mem_append,List.mem_singleton]at hx;rcases hx with hx | rfl
    .exact h5.co x hx
    .dsimp only;omega
  .rw [List.length_append];simp only [List.length_cons,List.length_nil];omega
  .rw [tk,dz,dz,h7 t,aV,iM];dsimp only;by_cases et:((a').getD (i).toNat default).atoms=t
   .rw [if_pos et];have z:cf o t=0:=gF λx hx e=>((h8 x hx).2 h9).ne (e.trans et.symm)
    rw [h7 t]at z;omega
   .rw [if_neg et];omega
  .rw [List.mem_append,List.mem_singleton]at hx;rcases hx with hx | rfl
   .exact⟨(h8 x hx).1,λg2=>eF ((h8 x hx).2 h9) (nx g2)⟩
   .exact⟨qa.1,λg2=>nx g2⟩
  .rw [tk,dz,h7 t,aV,iM];dsimp only;have:((a').getD (i).toNat default).bC*n'%65536=0:=by omega
   rw [this];split<;>omega
 .simp (disch:=omega) only [RR,U4.hp o so,U4.hf o so];refine⟨λh=>absurd h h9,λ_=> ?_⟩;have eq:∀t,cf o t=cf (prods a' (bS n')) t%65536:=λt=>by
   rw [h7 t,List.take_of_length_le ah];unfold bS;by_cases hn:1<=n'/\n'<=65535
   .rw [if_pos hn,Br]
    congr 2
    exact List.map_congr_left λm hm=>(E8 n' (h1.aok hm).2).symm
   .rw [if_neg hn];have hz:n'=0:=by omega
    have hz2:cf (a'.map (λm=>(⟨m.bC*n'%65536,m.atoms⟩:aj))) t=0:=KT λm hm=>by
     rw [List.mem_map]at hm;obtain⟨x,_,rfl⟩:=hm;dsimp only;rw [hz];simp
    rw [hz2,show prods a' []=[] by simp [prods]];rfl
  have fb:I7 o:=⟨ah,λm hm=>(h8 m hm).1⟩;have:=I8 h5 eq (λm hm=>by
   unfold bS at hm;split at hm
   .rw [Br,List.mem_map]at hm;obtain⟨x,hx,rfl⟩:=hm;rw [E8 n' (h1.aok hx).2];exact(h1.aok hx).2
   .rw [show prods a' []=[] by simp [prods]]at hm;exact absurd hm (by simp))
  unfold kF;rw [if_pos (by rw [aU h1,aU (jU n')];rfl),<-congrArg Prod.snd this];dsimp only;rw [aU fb];rfl
def Zu(l:List aj):(Nf (nf l)/\∀k,cf (nf l) k=cf l k%65536)\/nf l=[]:=by
 by_cases he:∃o,Nf o/\∀k,cf o k=cf l k%65536
 .obtain⟨o,h1,h2⟩:=he;rw [EW h1 h2];exact Or.inl ⟨h1,h2⟩
 .right;unfold nf;rw [dif_neg he]
def Zv{l:List aj}{n:Int}(h:aX l n):aX (nf l) n:=by
 rcases Zu l with⟨h1,h2⟩ | h1
 .refine bO.2 λm hm k hk=> ?_
  obtain⟨m',g1,g2⟩:=h1.from h2 hm;exact bO.1 h m' g1 k (g2▸hk)
 .rw [h1];exact bO.2 λm hm=>absurd hm (by simp)
def je(n:Int):aX [] n:=bO.2 λm hm=>absurd hm (by simp)
def R9(l:List aj):aI (jZ l).2:=by
 unfold jZ;by_cases h:aI (nf l)
 .rw [aU h];exact h
 .rw [aR h];exact dQ
def E9{l:List aj}{n:Int}(h:aX l n):aX (jZ l).2 n:=by
 unfold jZ;dsimp only;split
 .exact Zv h
 .exact je n
def Um{a b:List aj}{n:Int}(h1:aX a n)(h2:aX b n):aX (a++b) n:=bO.2 λm hm k hk=>by
 rw [List.mem_append]at hm;rcases hm with hm | hm
 .exact bO.1 h1 m hm k hk
 .exact bO.1 h2 m hm k hk
def KU{a b:List aj}{n:Int}(h1:aX a n)(h2:aX b n):aX (prods a b) n:=bO.2 λm hm k hk=>by
 unfold prods at hm;rw [List.mem_flatMap]at hm;obtain⟨x,hx,hm⟩:=hm;rw [List.mem_map]at hm;obtain⟨y,hy,rfl⟩:=hm;have:k∈x.atoms++y.atoms:=List.mem_mergeSort.1 hk;rw [List.mem_append]at this;rcases this with hk | hk
 .exact bO.1 h1 x hx k hk
 .exact bO.1 h2 y hy k hk
def Sb(a b:List aj):aI (kZ a b).2:=by unfold kZ;split;exact R9 _;exact dQ
def adK(a b:List aj):aI (kF a b).2:=by unfold kF;split;exact R9 _;exact dQ
def Fa{a b:List aj}{n:Int}(h1:aX a n)(h2:aX b n):aX (kZ a b).2 n:=by unfold kZ;split;exact E9 (Um h1 h2);exact je n
def Fb{a b:List aj}{n:Int}(h1:aX a n)(h2:aX b n):aX (kF a b).2 n:=by unfold kF;split;exact E9 (KU h1 h2);exact je n
def uP(c n:Int):aX (bS c) n:=bO.2 λm hm k hk=>by
 unfold bS at hm;split at hm
 .rw [List.mem_singleton]at hm;subst hm;exact absurd hk (by simp)
 .exact absurd hm (by simp)
def rG{k n:Int}(h:k<n):aX (dG k) n:=bO.2 λm hm j hj=>by
 unfold dG at hm;split at hm
 .rw [List.mem_singleton]at hm;subst hm;rw [List.mem_singleton]at hj;omega
 .exact absurd hm (by simp)
def aF.sh{t:List Atom}(h:aF t):ShT t:=⟨by have:=h.2;omega,λa ha=>by
 obtain⟨i,hi,rfl⟩:=List.getElem_of_mem ha;have:=(h.1 i ah ah).1;rw [show(i:Int).toNat=i from rfl,getD_lt hi]at this;unfold gq at this;split at this
 .exact⟨this.2.1.sh,this.2.2.1.sh⟩
 .rw [ShA,this.1.1,this.1.2];exact⟨nD,nD⟩⟩
def zy{t:List Atom}{a:Atom}(h:aF t)(h2:t.length<200):aF (aT t a).1/\t.length<=(aT t a).1.length/\(aT t a).1.length<=t.length+1/\(gq a t.length->0<=(aT t a).2):=by
 have hsp:=iV t a;unfold aT;split
 .rename_i h3;exact⟨h,Nat.le_refl _,Nat.le_succ _,λ_=>h3⟩
 .rename_i h3;split
  .rename_i h4;exact⟨h,Nat.le_refl _,Nat.le_succ _,λh5=>by rcases h4 with h4 | h4;exact absurd h5 h4;omega⟩
  .rename_i h4;have h5:gq a t.length:=Classical.byContradiction λh5=>h4 (Or.inl h5)
   refine⟨iL.2 ⟨?_,by rw [List.length_append];simp only [List.length_cons,List.length_nil];omega⟩,by rw [List.length_append];exact Nat.le_add_right _ _,by rw [List.length_append];exact Nat.le_refl _,λ_=>by dsimp only;omega⟩;have hl:((t++ [a]).length:Int)=t.length+1:=by rw [List.length_append];rfl
   have g1:∀i:Int,0<=i->i<t.length->(t++ [a]).getD i.toNat default=t.getD i.toNat default:=λi i1 i2=>by
    rw [getD_lt (show i.toNat< (t++ [a]).length by omega),getD_lt (show i.toNat<t.length by omega),List.getElem_append_left]
   have g2:(t++ [a]).getD ((t.length:Int)).toNat default=a:=by
    rw [getD_lt (show((t.length:Int)).toNat< (t++ [a]).length by omega)];simp
   rw [hl];intro i i1 i2;dsimp only;by_cases i3:i<t.length
   .rw [g1 i i1 i3];have:=(iL.1 h).1 i i1 i3;exact⟨this.1,λj j1 j2=>by dsimp only;rw [g1 j j1 ah];exact this.2 j j1 j2⟩
   .have:i=t.length:=by omega
    subst this;rw [g2];refine⟨h5,λj j1 j2=> ?_⟩;dsimp only;rw [g1 j j1 j2];rcases hsp with⟨_,g⟩ | ⟨g,_⟩
    .exact g j j1 j2
    .exact absurd g h3
def By(b:List Int):Prop:=∀z∈b,0<=z/\z<=255
structure Bt(b:List Int):Prop where
 len:b.length<=2000
 rng:By b
def By.at{b:List Int}(h:By b)(n:Nat):0<=b.getD n default/\b.getD n default<=255:=by
 by_cases h1:n<b.length
 .rw [getD_lt h1];exact h _ (List.getElem_mem _)
 .simp only [List.getD,List.getElem?_eq_none (by omega:b.length<=n)];decide
def Pk(n:Int)(b:List Int)(p:Int)(y:Int×List Int×Int×Unit):Prop:=y.2.1=b/\y.2.2.1=p+1/\0<=y.1/\(y.1<n\/y.1=0)
structure Y38(pp:Int×List Int×Int×Unit->Bool)(ff:Int×List Int×Int×Unit->Int×List Int×Int×Unit):Prop where
 hp:∀n b p,Bt b->0<=p->p<1000000000->pp (n,b,p,())=true
 hf:∀n b p,Bt b->0<=p->p<1000000000->Pk n b p (ff (n,b,p,()))
def Wd(b:List Int)(p:Int)(y:Int×List Int×Int×Unit):Prop:=y.2.1=b/\p<=y.2.2.1/\y.2.2.1<=p+3/\(0<=y.1/\y.1<=65535)
structure Y39(pp:Int×List Int×Int×Unit->Bool)(ff:Int×List Int×Int×Unit->Bool×List Int×Int×Unit):Prop where
 hp:∀n b p,Bt b->0<=p->p<1000000000->pp (n,b,p,())=true
 hf:∀n b p,Bt b->0<=p->p<1000000000->(ff (n,b,p,())).2.1=b/\(ff (n,b,p,())).2.2.1=p+1
structure Y40(pp:List Int×Int×Unit->Bool)(ff:List Int×Int×Unit->Int×List Int×Int×Unit):Prop where
 hp:∀b p,Bt b->0<=p->p<900000000->pp (b,p,())=true
 hf:∀b p,Bt b->0<=p->p<900000000->Wd b p (ff (b,p,()))
structure Y41(pp:List Int×Unit->Bool)(ff:List Int×Unit->List Int×Int×Unit):Prop where
 hp:∀b,By b->b.length<1000000000->pp (b,())=true
 hf:∀b,By b->b.length<1000000000->Bt (ff (b,())).1/\(ff (b,())).2.1=0
structure aoE(n:Int)(b:List Int)(p:Int)(y:List Int×Int×List aj×Unit):Prop where
 b:y.1=b
 lo:p<=y.2.1
 hi:y.2.1<=p+200
 ok:aI y.2.2.1
 un:aX y.2.2.1 n
def P8(n:Int)(t:List Atom):Prop:=(t.length:Int)=n/\All n (λi=>((t).getD (i).toNat default)=⟨1,i,[],[]⟩)
def aiJ{p2 f2}(U2:Y28 p2 f2):Nv.F (p2,f2,()) () (λy=>P8 4 y.1/\y.2.1.length=4/\∀p∈y.2.1,Sh p):=by
 dsimp only [Nv,gm];simp (disch:=omega) only [RR,U2.hp,U2.hf];refine ak (λ(y:Int×List (List aj)×List Atom×Unit)=>0<=y.1/\y.1<=4/\(y.2.1.length:Int)=y.1/\(∀p∈y.2.1,Sh p)/\P8 y.1 y.2.2.1) (λy=>(4-y.1).toNat) ⟨by simp,by simp,by simp,by simp,by simp,All.zero⟩ ?_;rintro⟨(i:Int),(q:List (List aj)),(t:List Atom),⟨⟩⟩ hI;dsimp only at hI ⊢;obtain⟨h1,h2,h3,h0,h4,h5⟩:=hI;simp (disch:=omega) only [RR,U2.hp,U2.hf,List.length_cons,List.length_nil];refine⟨λh6=>⟨ah,ah,⟨ah,ah,by rw [List.length_append];simp only [List.length_cons,List.length_nil];omega,λp hp=>(List.mem_append.1 hp).elim (h0 p) (λg=>by rw [List.mem_singleton.1 g];exact(jH _).sh),by rw [List.length_append];simp only [List.length_cons,List.length_nil];omega,λj j1 j2=> ?_⟩,ah⟩,λh6=> ?_⟩
 .dsimp only;have hl:((t++ [(⟨1,i,[],[]⟩:Atom)]).length:Int)=t.length+1:=by rw [List.length_append];rfl
  by_cases c:j<i
  .have:=h5 j j1 c;dsimp only at this;rw [getD_lt (show j.toNat<t.length by omega)]at this;rw [getD_lt (show j.toNat< (t++ [(⟨1,i,[],[]⟩:Atom)]).length by omega),List.getElem_append_left (show j.toNat<t.length by omega)];exact this
  .have:j=i:=by omega
   subst this;rw [getD_lt (show j.toNat< (t++ [(⟨1,j,[],[]⟩:Atom)]).length by omega),List.getElem_append_right ah];simp
 .rw [show i=4 by omega]at h4 h5;exact⟨⟨h4,h5⟩,ah,h0⟩
structure aub(b:List Int)(p n:Int)(y:List Int×Int×List Atom×Unit):Prop where
 b:y.1=b
 lo:p<=y.2.1
 hi:y.2.1<=p+10000
 sh:ShT y.2.2.1
 ne:0<y.2.2.1.length
 le:(y.2.2.1.length:Int)<=n
structure Y42(pp:List Atom×Int×List aj×List aj×Unit->Bool)(ff:List Atom×Int×List aj×List aj×Unit->List Atom×List aj×Unit):Prop where
 hp:∀t op x y,ShT t->Sh x->Sh y->pp (t,op,x,y,())=true
 hf:∀t op x y,ShT t->Sh x->Sh y->ff (t,op,x,y,())=((afa t op x y).1,(afa t op x y).2,())
structure Y43(pp:Int×List Int×Int×Unit->Bool)(ff:Int×List Int×Int×Unit->List Int×Int×List aj×Unit):Prop where
 hp:∀n b p,Bt b->0<=n->0<=p->p<500000000->pp (n,b,p,())=true
 hf:∀n b p,Bt b->0<=n->0<=p->p<500000000->aoE n b p (ff (n,b,p,()))
structure Y44(pp:Unit->Bool)(ff:Unit->List Atom×List (List aj)×Unit):Prop where
 hp:pp ()=true
 hf:P8 4 (ff ()).1/\(ff ()).2.1.length=4/\∀p∈(ff ()).2.1,Sh p
structure Y45(pp:Int×List Int×Int×Unit->Bool)(ff:Int×List Int×Int×Unit->List Int×Int×List Atom×Unit):Prop where
 hp:∀n b p,Bt b->0<=p->p<300000000->pp (n,b,p,())=true
 hf:∀n b p,Bt b->0<=p->p<300000000->(ff (n,b,p,())).1=b/\p<=(ff (n,b,p,())).2.1/\(ff (n,b,p,())).2.1<=p+20000/\ShT (ff (n,b,p,())).2.2.1/\0< (ff (n,b,p,())).2.2.1.length
def Sc{l o:List aj}(h:aI o)(h2:∀k,cf o k=cf l k%65536):jZ l=(true,o):=by
 unfold jZ;rw [EW h.nf h2,aU h,if_pos rfl]
def P9{x:List aj}(h:aI x):aI (gK x 65535)/\∀k,cf (gK x 65535) k=(65535*cf x k)%65536:=by
 have hc:∀(l:List aj) k,cf (l.map λm=>(⟨m.bC*65535%65536,m.atoms⟩:aj)) k%65536=(65535*cf l k)%65536:=λl k=>by
  induction l with
  | nil=>rfl
  | cons m l ih=>rw [List.map_cons,aV,aV];dsimp only;split<;>omega
 have no:Nf (x.map λm=>(⟨m.bC*65535%65536,m.atoms⟩:aj)):=⟨by
  rw [List.pairwise_map];exact h.nf.ss,λm hm=>by
  rw [List.mem_map]at hm;obtain⟨n,hn,rfl⟩:=hm;have:=h.nf.co n hn;dsimp only;omega⟩
 have ok:aI (x.map λm=>(⟨m.bC*65535%65536,m.atoms⟩:aj)):=eH.2 ⟨no,by rw [List.length_map];exact h.len,λm hm=>by
  rw [List.mem_map]at hm;obtain⟨n,hn,rfl⟩:=hm;exact show n.atoms.length<=4/\aok n.atoms from h.aok hn⟩
 have pe:prods x (bS 65535)=x.map λm=>(⟨m.bC*65535%65536,m.atoms⟩:aj):=by
  unfold bS;rw [if_pos ah,Br];exact List.map_congr_left λm hm=>E8 65535 (h.aok hm).2
 have e:gK x 65535=x.map λm=>(⟨m.bC*65535%65536,m.atoms⟩:aj):=by
  unfold gK kF;rw [if_pos (by rw [aU h];rfl),if_pos (by rw [aU h,aU (jU _)];rfl),pe,Sc ok (λk=>by have:=no.bnd k;omega)]
 rw [e];exact⟨ok,λk=>by rw [<-hc];have:=no.bnd k;omega⟩
def sub_self{x:List aj}(h:aI x):fD 2 x x=([],true):=by
 obtain⟨h1,h2⟩:=P9 h;unfold fD kZ;rw [if_neg ah,if_pos rfl,if_pos (by rw [aU h,aU h1];rfl),Sc dQ (λk=>by rw [dz,h2,iM];omega)]
def rH{x:List aj}(h:(cB x).2=true):aI x/\x=bS (cB x).1/\0<=(cB x).1/\(cB x).1<=65535:=by
 unfold cB at h ⊢;by_cases c:aI x
 .rw [aU c,if_pos rfl]at h ⊢;refine⟨c,?_⟩;by_cases c1:x.length=0
  .rw [if_pos c1];exact⟨by rw [List.eq_nil_of_length_eq_zero c1];rfl,ah,ah⟩
  .rw [if_neg c1]at h ⊢;by_cases c2:x.length=1/\(x.getD 0 default).atoms.length=0
   .rw [if_pos c2]
    match x,c,c2 with
    | [m],c,c2=>
     have hc:=c.nf.co m (by simp);have ha:m.atoms=[]:=List.eq_nil_of_length_eq_zero c2.2;refine⟨?_,by show 0<=m.bC;omega,by show m.bC<=65535;omega⟩;show [m]=bS m.bC;unfold bS;rw [if_pos hc,<-ha]
   .rw [if_neg c2]at h;exact absurd h (by simp)
 .rw [aR c]at h;exact absurd h (by simp)
structure Y46(pp:List Int×Unit->Bool)(ff:List Int×Unit->Int×List aj×List aj×List Atom×Unit):Prop where
 hp:∀c,By c->c.length<1000000000->pp (c,())=true
 hf:∀c,By c->c.length<1000000000->Sh (ff (c,())).2.1/\Sh (ff (c,())).2.2.1/\ShT (ff (c,())).2.2.2.1/\0< (ff (c,())).2.2.2.1.length
structure Y47(pp:Unit->Bool)(ff:Unit->Bool×Unit):Prop where
 hp:pp ()=true
 hf:ff ()=(true,())
structure Y48(pp:List Atom×List Atom×Unit->Bool)(ff:List Atom×List Atom×Unit->Bool×Unit):Prop where
 hp:∀a b,ShT a->pp (a,b,())=true
 hf:∀a b,ShT a->ff (a,b,())=(bp (a=b),())
def Sd{d:List Int}{i j x:Int}(h1:0<=i)(h2:i<d.length)(h3:0<=j):((d.set i.toNat x).getD (j).toNat default)=if j=i then x else((d).getD (j).toNat default):=by
 simp only [List.getD];by_cases h:j=i
 .subst h;rw [if_pos rfl,List.getElem?_set_self ah];rfl
 .rw [if_neg h,List.getElem?_set_ne ah]
def Un{d:List Int}{i j:Int}(h1:0<=i)(h2:i<d.length)(h3:0<=j)(h4:j<d.length)(h5:i≠j):((d.set i.toNat ((d).getD (j).toNat default)).set j.toNat ((d).getD (i).toNat default)).Perm d:=by
 rw [List.perm_iff_count];intro x;rw [getD_lt (show i.toNat<d.length by omega),getD_lt (show j.toNat<d.length by omega),List.count_set (by simp;omega),List.count_set ah,List.getElem_set_ne ah];have h6:(if d[i.toNat]==x then 1 else 0)<=List.count x d:=by
  split
  .rename_i h;exact List.count_pos_iff.2 (by rw [<-eq_of_beq h];exact List.getElem_mem _)
  .omega
 split<;>split<;>simp_all<;>omega
def aiK{p f}(U:Y5 p f)(a b:Int)(d:List Int)(hd:d.length<1000000000)(h1:a=0)(h2:b=d.length):
  Pw.F (p,f,()) (a,b,d,()) (λy=>y.1=bW d):=by
 subst h1;dsimp only [Pw,gm];simp (disch:=omega) only [RR];have fin:∀e:List Int,e.Perm d->(∀q:Int,1<=q->q<e.length->((e).getD (q-1).toNat default)<=((e).getD (q).toNat default))->e=bW d:=λe g1 g2=>
  nG ((dB (d:=default) (R:=λa b:Int=>a<=b) (λh1 h2=>Int.le_trans h1 h2)).2 g2) g1
 refine ak (λ(y:Int×Int×Int×List Int×Unit)=>y.1=0/\y.2.1=b/\1<=y.2.2.1/\(y.2.2.1<=b\/y.2.2.1=1)/\y.2.2.2.1.Perm d/\∀q,1<=q->q<y.2.2.1->((y.2.2.2.1).getD (q-1).toNat default)<=((y.2.2.2.1).getD (q).toNat default)) (λy=>(b-y.2.2.1).toNat)
  ⟨rfl,rfl,by simp,Or.inr rfl,List.Perm.refl d,λq g1 g2=>by dsimp only at g2;omega⟩ ?_
 rintro⟨(a':Int),(b':Int),(i:Int),(e:List Int),⟨⟩⟩ hI;dsimp only at hI ⊢;obtain⟨rfl,rfl,h4,h5,h6,h7⟩:=hI;have hle:=h6.length_eq;simp (disch:=omega) only [RR];refine⟨λh9=> ?_,λh9=>fin e h6 λq g1 g2=>h7 q g1 ah⟩
 refine ak (λ(y:Int×Int×Int×Int×List Int×Unit)=>y.1=0/\y.2.1=b'/\y.2.2.1=i/\0<=y.2.2.2.1/\y.2.2.2.1<=i/\y.2.2.2.2.1.Perm d
   /\(∀q,1<=q->q<=i->q≠y.2.2.2.1->((y.2.2.2.2.1).getD (q-1).toNat default)<=((y.2.2.2.2.1).getD (q).toNat default))/\(1<=y.2.2.2.1->y.2.2.2.1+1<=i->((y.2.2.2.2.1).getD (y.2.2.2.1-1).toNat default)<=((y.2.2.2.2.1).getD (y.2.2.2.1+1).toNat default))) (λy=>y.2.2.2.1.toNat)
  ⟨rfl,rfl,rfl,by simp;omega,by simp,h6,λq g1 g2 g3=>h7 q g1 (by dsimp only at g3;omega),λg1 g2=>by dsimp only at g2;omega⟩ ?_
 rintro⟨(a'':Int),(b'':Int),(i':Int),(j:Int),(e':List Int),⟨⟩⟩ hI;dsimp only at hI ⊢;obtain⟨rfl,rfl,rfl,h10,h11,h12,h13,h14⟩:=hI;have hle':=h12.length_eq;simp (disch:=omega) only [RR,List.length_set,U.hp,U.hf]
 repeat' (refine And.intro ?_ ?_)
 all_goals try omega
 .intro ⟨g1,g2⟩;have at2:∀k,0<=k->(((e'.set j.toNat ((e').getD (j-1).toNat default)).set (j-1).toNat ((e').getD (j).toNat default)).getD (k).toNat default)=if k=j-1 then((e').getD (j).toNat default)else if k=j then((e').getD (j-1).toNat default)else((e').getD (k).toNat default):=λk hk=>by
   rw [Sd ah (by simp;omega) hk,Sd ah ah hk]
  repeat' (refine And.intro ?_ ?_)
  all_goals try omega
  .exact(Un ah ah ah ah ah).trans h12
  .intro q k1 k2 k3;rw [at2 _ ah,at2 _ ah];by_cases c1:q=j
   .subst c1;rw [if_pos rfl,if_neg ah,if_pos rfl];omega
   .rw [if_neg ah];by_cases c2:q=j+1
    .subst c2;rw [if_pos ah,if_neg ah,if_neg ah];exact h14 ah ah
    .rw [if_neg ah,if_neg ah,if_neg ah];exact h13 q k1 k2 c1
  .intro k1 k2;rw [at2 _ ah,at2 _ ah,if_neg ah,if_neg ah,if_neg ah,if_pos ah];have:=h13 (j-1) ah ah ah;exact this
 .intro g;refine⟨⟨ah,ah,h12,λq k1 k2=> ?_⟩,ah⟩;by_cases c:q=j
  .subst c;rw [Bool.and_eq_false_iff,decide_eq_false_iff_not,decide_eq_false_iff_not]at g;omega
  .exact h13 q k1 ah c
def aiL{p:Int×Int×Unit->Bool}{f:Int×Int×Unit->Bool×Unit}
  {p1:Int×Int×List Int×Unit->Bool} {f1:Int×Int×List Int×Unit->List Int×Unit} (hp1:∀(a b:Int) (d:List Int),d.length<1000000000->a=0->b=d.length->p1 (a,b,d,())=true) (hf1:∀(a b:Int) (d:List Int),d.length<1000000000->a=0->b=d.length->(f1 (a,b,d,())).1=bW d)
  (p2 p3 f2 f3 p4 f4 p5 f5 p6 f6 p7 f7 p8 f8 p9 f9) (a b k:Int) (d:List Int) (hd:d.length<=12) (h1:a=0) (h2:b=d.length):
  Px.F (p,f,p1,f1,p2,f2,p3,f3,p4,f4,p5,f5,p6,f6,p7,f7,p8,f8,p9,f9,()) (a,b,k,d,()) (λy=>y.1=bW d):=by
 subst h1;dsimp only [Px,gm];simp (disch:=omega) only [RR];refine ak (λ(y:Int×Int×Int×Bool×Bool×List Int×Unit)=>y.1=0/\y.2.1=b/\y.2.2.2.2.2.1=d) (λy=>0) ⟨rfl,rfl,rfl⟩ ?_;rintro⟨(a':Int),(b':Int),(k':Int),(u:Bool),(v:Bool),(e:List Int),⟨⟩⟩ hI;dsimp only at hI ⊢;obtain⟨rfl,rfl,rfl⟩:=hI;simp (disch:=omega) only [RR];exact⟨λ_=>⟨hp1 0 b' e ah rfl h2,hf1 0 b' e ah rfl h2⟩,λh=>absurd h ah⟩
def aiM{p1:Int×Int×Int×List Int×Unit->Bool}{f1:Int×Int×Int×List Int×Unit->List Int×Unit}(hp1:∀(a b k:Int) (d:List Int),d.length<=12->a=0->b=d.length->p1 (a,b,k,d,())=true)(hf1:∀(a b k:Int) (d:List Int),d.length<=12->a=0->b=d.length->(f1 (a,b,k,d,())).1=bW d)
  {p2:Int×Unit->Bool} {f2:Int×Unit->Int×Unit} (hp2:∀n,0<=n->n<=18446744073709551615->p2 (n,())=true) (a:List Int) (ha:a.length<=8):
  Py.F (p1,f1,p2,f2,()) (a,()) (λy=>y=(bW a,())):=by
 dsimp only [Py,gm];have e:IntKind.u64.wrap (a.length:Int)=(a.length:Int):=IntWalk.u64_in _ ah;refine⟨?_,hp1 _ _ _ _ ah rfl rfl,by rw [hf1 _ _ _ _ ah rfl rfl]⟩;rw [e];exact hp2 _ ah ah
def wOK(l:List Int):Prop:=∀z∈l,0<=z/\z<=65535
def wOK.at{l:List Int}(h:wOK l)(n:Nat):0<=l.getD n default/\l.getD n default<=65535:=by
 by_cases hn:n<l.length
 .rw [getD_lt hn];exact h _ (List.getElem_mem _)
 .rw [List.getD,List.getElem?_eq_none ah];decide
def Zw(v:List Int)(k:Int):Int:=if k<v.length then((v).getD (k).toNat default)else 0
def evM(v:List Int)(c:Int)(l:List Int):Int:=l.foldl (λc k=>c*Zw v k%65536) c
def evF(v:List Int)(p:List aj):Int:=p.foldl (λs m=>(s+evM v m.bC m.atoms)%65536) 0
def aoF{p1 f1}(U1:Y9 p1 f1)(a:List Int)(ha:a.length<1000000000):
  YL.F (p1,f1,()) (a,()) (λy=>y=(bp (wOK a),())):=by
 dsimp only [YL,gm];simp (disch:=omega) only [RR];refine ak (λ(y:List Int×Int×Int×Unit)=>y.1=a/\y.2.1=a.length/\0<=y.2.2.1/\y.2.2.1<=a.length/\All y.2.2.1 (λi=>0<=((a).getD (i).toNat default)/\((a).getD (i).toNat default)<=65535)) (λy=>(a.length-y.2.2.1).toNat) ⟨rfl,rfl,by simp,by simp,All.zero⟩ ?_;rintro⟨(l:List Int),(n:Int),(i:Int),⟨⟩⟩ hI;dsimp only at hI ⊢;obtain⟨rfl,rfl,h1,h2,h3⟩:=hI;simp (disch:=omega) only [RR,U1.hp,U1.hf];refine⟨λh4=>⟨ah,ah,λh5=> ?_,λh5=>⟨⟨ah,ah,h3.snoc ?_⟩,ah⟩⟩,λh4=> ?_⟩
 .rw [jq]at h5;rw [aR λg=>h5 (g.at _)]
 .rw [bM]at h5;exact h5
 .rw [aU];exact mI (d:=default) (G:=λz:Int=>0<=z/\z<=65535).1 (h3.le ah)
structure Y49(pp:List Int×Unit->Bool)(ff:List Int×Unit->Bool×Unit):Prop where
 hp:∀a,a.length<1000000000->pp (a,())=true
 hf:∀a,a.length<1000000000->ff (a,())=(bp (wOK a),())
structure Y50(pp:List aj×List Int×Unit->Bool)(ff:List aj×List Int×Unit->Int×Unit):Prop where
 hp:∀a v,aI a->wOK v->v.length<1000000000->pp (a,v,())=true
 hf:∀a v,aI a->wOK v->v.length<1000000000->ff (a,v,())=(evF v a,())
def aVal(regs loads ins out:List Int)(a:Atom):Int:=
 if a.kind=1 then Zw regs a.k else if a.kind=2 then Zw loads a.k else if a.kind=3 then Zw ins a.k else wdo a.k (evF out a.x) (evF out a.y)
def tv(regs loads ins:List Int)(t:List Atom):List Int:=t.foldl (λo a=>o++ [aVal regs loads ins o a]) []
def wOK.snoc{l:List Int}(h:wOK l){x:Int}(hx:0<=x/\x<=65535):wOK (l++ [x]):=λz hz=>by
 rw [List.mem_append,List.mem_singleton]at hz;rcases hz with hz | rfl
 .exact h z hz
 .exact hx
def ins(c:Int)(at_:List Int):List aj->List aj
 | []=>if c%65536=0 then []else [⟨c%65536,at_⟩]
 | m::o=>if dx at_ m.atoms<0 then(if c%65536=0 then m::o else⟨c%65536,at_⟩::m::o)
  else if at_=m.atoms then(if(c+m.bC)%65536=0 then o else⟨(c+m.bC)%65536,at_⟩::o)else m::ins c at_ o
def Zx{c:Int}{a:List Int}{x:aj}(hx:dx x.atoms a<0):∀ {o:List aj},(∀y∈o,lt x y)->∀y∈ins c a o,lt x y
 | [],_,y,hy=>by
  unfold ins at hy;split at hy
  .cases hy
  .rw [List.mem_singleton]at hy;subst hy;exact hx
 | m::o,h,y,hy=>by
  unfold ins at hy;split at hy
  .split at hy
   .exact h y hy
   .rcases List.mem_cons.1 hy with rfl | hy
    .exact hx
    .exact h y hy
  .split at hy
   .split at hy
    .exact h y (List.mem_cons_of_mem _ hy)
    .rcases List.mem_cons.1 hy with rfl | hy
     .exact hx
     .exact h y (List.mem_cons_of_mem _ hy)
   .rcases List.mem_cons.1 hy with rfl | hy
    .exact h _ (List.mem_cons_self ..)
    .exact Zx hx (λz hz=>h z (List.mem_cons_of_mem _ hz)) y hy
def Zy(c:Int)(a:List Int):∀ {o:List aj},Nf o->Nf (ins c a o)/\∀k,cf (ins c a o) k=((if a=k then c else 0)+cf o k)%65536
 | [],h=>by
  unfold ins;by_cases h1:c%65536=0
  .rw [if_pos h1];exact⟨h,λk=>by rw [iM];split<;>omega⟩
  .rw [if_neg h1];refine⟨⟨List.pairwise_singleton _ _,λm hm=>by rw [List.mem_singleton]at hm;subst hm;dsimp only;omega⟩,λk=> ?_⟩;rw [aV,iM];dsimp only;split<;>omega
 | m::o,h=>by
  have hb:=h.bnd;have ho:Nf o:=⟨h.ss.tail,λx hx=>h.co x (List.mem_cons_of_mem _ hx)⟩;have hm:=h.co m (List.mem_cons_self ..);unfold ins;by_cases h1:dx a m.atoms<0
  .rw [if_pos h1];by_cases h2:c%65536=0
   .rw [if_pos h2];exact⟨h,λk=>by have:=hb k;split<;>omega⟩
   .rw [if_neg h2];have g:Nf (⟨c%65536,a⟩::m::o):=⟨List.pairwise_cons.2 ⟨λy hy=>by
     rcases List.mem_cons.1 hy with rfl | hy
     .exact h1
     .exact eF (b:=m) h1 (List.rel_of_pairwise_cons h.ss hy),h.ss⟩,λx hx=>by
     rcases List.mem_cons.1 hx with rfl | hx
     .dsimp only;omega
     .exact h.co x hx⟩
    refine⟨g,λk=> ?_⟩;have hk:=hb k;have gk:=g.bnd k;rw [aV]at gk ⊢;dsimp only at gk ⊢;split<;>split at gk<;>omega
  .rw [if_neg h1];by_cases h2:a=m.atoms
   .rw [if_pos h2];by_cases h3:(c+m.bC)%65536=0
    .rw [if_pos h3];refine⟨ho,λk=> ?_⟩;have ok:=ho.bnd k;have hk:=hb k;rw [aV]at hk ⊢;rw [h2];by_cases h4:m.atoms=k
     .rw [if_pos h4,if_pos h4];have:cf o k=0:=gF λx hx e=>(List.rel_of_pairwise_cons h.ss hx:lt m x).ne (h4.trans e.symm)
      omega
     .rw [if_neg h4,if_neg h4];omega
    .rw [if_neg h3];have g:Nf (⟨(c+m.bC)%65536,a⟩::o):=⟨List.pairwise_cons.2 ⟨λy hy=>by
      have:lt m y:=List.rel_of_pairwise_cons h.ss hy;unfold lt at this ⊢;rw [h2];exact this,ho.ss⟩,λx hx=>by
      rcases List.mem_cons.1 hx with rfl | hx
      .dsimp only;omega
      .exact ho.co x hx⟩
     refine⟨g,λk=> ?_⟩;have ok:=ho.bnd k;rw [aV,aV];dsimp only;rw [h2];by_cases h4:m.atoms=k
     .rw [if_pos h4,if_pos h4,if_pos h4];have:cf o k=0:=gF λx hx e=>(List.rel_of_pairwise_cons h.ss hx:lt m x).ne (h4.trans e.symm)
      omega
     .rw [if_neg h4,if_neg h4,if_neg h4];omega
   .rw [if_neg h2];obtain⟨i1,i2⟩:=Zy c a ho;have hlt:dx m.atoms a<0:=by
     have:=jS m.atoms a;by_cases z:dx m.atoms a=0
     .exact absurd (gZ.1 z).symm h2
     .omega
    refine⟨⟨List.pairwise_cons.2 ⟨Zx hlt (λy hy=>List.rel_of_pairwise_cons h.ss hy),i1.ss⟩,λx hx=>by
     rcases List.mem_cons.1 hx with rfl | hx
     .exact hm
     .exact i1.co x hx⟩,λk=> ?_⟩
    rw [aV,aV,i2 k];by_cases h4:m.atoms=k
    .have:cf o k=0:=gF λx hx e=>(List.rel_of_pairwise_cons h.ss hx:lt m x).ne (h4.trans e.symm)
     rw [if_pos h4,if_neg (by rw [<-h4];exact h2),this];omega
    .rw [if_neg h4];omega
def afb:∀l:List aj,∃o,Nf o/\∀k,cf o k=cf l k%65536
 | []=>⟨[],⟨List.Pairwise.nil,λm hm=>by cases hm⟩,λk=>rfl⟩
 | m::l=>by
  obtain⟨o,h1,h2⟩:=afb l;obtain⟨g1,g2⟩:=Zy m.bC m.atoms h1;refine⟨_,g1,λk=> ?_⟩;rw [g2,aV,h2];split<;>omega
def I9(l:List aj):Nf (nf l)/\∀k,cf (nf l) k=cf l k%65536:=by
 obtain⟨o,h1,h2⟩:=afb l;rw [EW h1 h2];exact⟨h1,h2⟩
def Zz{op:Int}(hop:1<=op/\op<=5){x y:List aj}(hx:aI x)(hy:aI y):aI (fD op x y).1:=by
 unfold fD;split
 .exact Sb _ _
 .split
  .exact Sb _ _
  .split
   .exact adK _ _
   .unfold uO
    repeat' split
    all_goals first | exact jU _ | exact dQ | assumption
structure Y51(pp:List aj×List Int×Unit->Bool)(ff:List aj×List Int×Unit->Int×Unit):Prop where
 hp:∀a v,Sh a->v.length<1000000000->pp (a,v,())=true
 hf:∀a v,Sh a->v.length<1000000000->ff (a,v,())=(if bp (aI a/\wOK v)then evF v a else 0,())
abbrev hX(o : IOp) : Prop := o.kind ≠ 1 /\ o.kind ≠ 2 /\ o.kind ≠ 6
abbrev hY(o : IOp) : Prop := o.kind = 3 \/ o.kind = 5
abbrev mkV(o : IOp) : Prop := (1 <= o.kind /\ o.kind <= 4) \/ o.kind = 6
abbrev evO(o : IOp) : Prop := 4 <= o.kind /\ o.kind <= 7
def Vl(ops:List IOp)(x n:Int):Prop:=0<=x/\x<n/\mkV ((ops).getD (x).toNat default)
structure nP(ops:List IOp)(len i:Int)(o:IOp):Prop where
 kd:1<=o.kind/\o.kind<=8
 x1:hX o->Vl ops o.x i
 x0:¬hX o->o.x=0
 y1:hY o->Vl ops o.y i
 y0:¬hY o->o.y=0
 k1:o.kind=1->0<=o.k/\o.k<=65535
 k2:o.kind=2\/o.kind=8->0<=o.k/\o.k<=3
 k3:o.kind=3->1<=o.k/\o.k<=5
 k0:4<=o.kind->o.kind<=7->o.k=0
 a1:evO o->0<=o.at_/\o.at_<len
 a0:¬evO o->o.at_=0
structure zB(b:Blk):Prop where
 f:1<=b.fin/\b.fin<=4
 x1:b.fin≠1->Vl b.ops b.x b.ops.length
 x0:b.fin=1->b.x=0
 y1:3<=b.fin->Vl b.ops b.y b.ops.length
 y0:b.fin<=2->b.y=0
 k1:b.fin≠2->0<=b.k/\b.k<=65535
 k0:b.fin=2->b.k=0
structure iK(b:Blk):Prop where
 ln:1<=b.len/\b.len<=8
 pc:0<=b.pc/\b.pc<=64-b.len
 sz:b.ops.length<=48
 op:∀i:Int,0<=i->i<b.ops.length->nP b.ops b.len i ((b.ops).getD (i).toNat default)
 en:zB b
structure SS where
 t:List Atom
 regs:List (List aj)
 vals:List (List aj)
 ld:Int
 inn:Int
 evs:List Ev
def xOf(s:SS)(o:IOp):List aj:=if hX o then((s.vals).getD (o.x).toNat default)else []
def yOf(s:SS)(o:IOp):List aj:=if hY o then((s.vals).getD (o.y).toNat default)else []
def aOf(s:SS)(o:IOp):Atom:=if o.kind=4 then⟨2,s.ld,[],[]⟩else⟨3,s.inn,[],[]⟩
noncomputable def nT (s:SS) (o:IOp):List Atom:=if o.kind=3 then(tDo s.t o.k (xOf s o) (yOf s o)).1 else if o.kind=4\/o.kind=6 then(aT s.t (aOf s o)).1 else s.t
noncomputable def nV (s:SS) (o:IOp):List aj:=if o.kind=1 then bS o.k else if o.kind=2 then((s.regs).getD (o.k).toNat default)else if o.kind=3 then(tDo s.t o.k (xOf s o) (yOf s o)).2 else if o.kind=4\/o.kind=6 then dG (aT s.t (aOf s o)).2 else []
def nR(s:SS)(o:IOp):List (List aj):=if o.kind=8 then s.regs.set o.k.toNat (xOf s o)else s.regs
def nE(s:SS)(o:IOp):List Ev:=if evO o then s.evs++ [⟨o.kind,o.at_,xOf s o,yOf s o,if o.kind=4\/o.kind=5 then s.regs else []⟩]else s.evs
noncomputable def stp (s:SS) (o:IOp):SS:=⟨nT s o,nR s o,s.vals++ [nV s o],if o.kind=4 then s.ld+1 else s.ld,if o.kind=6 then s.inn+1 else s.inn,nE s o⟩
noncomputable def rN (t:List Atom):Nat->List Atom×List (List aj)
 | 0=>(t,[])
 | n+1=>((aT (rN t n).1 ⟨1,n,[],[]⟩).1,(rN t n).2++ [dG (aT (rN t n).1 ⟨1,n,[],[]⟩).2])
noncomputable def s0 (t:List Atom):SS:=⟨(rN t 4).1,(rN t 4).2,[],0,0,[]⟩
noncomputable def gQ (t:List Atom) (b:Blk):SS:=b.ops.foldl stp (s0 t)
def zC(b:Blk)(s:SS):Sym:=⟨s.evs,s.regs,b.fin,if b.fin=1 then []else((s.vals).getD (b.x).toNat default),if 3<=b.fin then((s.vals).getD (b.y).toNat default)else [],b.k⟩
def Uo:Sym:=⟨[],[],0,[],[],0⟩
noncomputable def symEnd (s:Sym) (behind:Int):Sym:=
 if bp (aI s.x/\aI s.y)=false then Uo
 else if s.fin=2/\(cB s.x).2=true then⟨s.events,s.regs,1,[],[],(cB s.x).1⟩
 else if s.fin≠3/\s.fin≠4 then s
 else if s.x=s.y\/(cB s.x).2=true/\(cB s.y).2=true then
  ⟨s.events,s.regs,1,[],[],if s.x=s.y/\s.fin=3\/((cB s.x).2=true/\(cB s.y).2=true)/\(s.fin=3/\(cB s.x).1=(cB s.y).1\/s.fin=4/\(cB s.x).1< (cB s.y).1)then s.k else behind⟩
 else if s.fin=3/\0<eZ s.x s.y then⟨s.events,s.regs,s.fin,s.y,s.x,s.k⟩else s
noncomputable def bP (t:List Atom) (b:Blk):List Atom×Sym:=if bp (aF t/\t.length<=100/\iK b)=true then((gQ t b).t,symEnd (zC b (gQ t b)) (b.pc+b.len))else([],Uo)
def uQ(t:List Atom)(a:Atom):t<+:(aT t a).1:=by
 unfold aT;split
 .exact List.prefix_refl _
 .split
  .exact List.prefix_refl _
  .exact List.prefix_append _ _
def oH{α:Type}{a b:List α}(h:a<+:b):a.length<=b.length:=h.length_le
def aiN{α:Type}{d:α}{a b:List α}(h:a<+:b){i:Int}(h1:i.toNat<a.length):b.getD i.toNat d=a.getD i.toNat d:=by
 obtain⟨c,rfl⟩:=h;rw [getD_lt h1,getD_lt (by rw [List.length_append];omega),List.getElem_append_left h1]
def rJ{t:List Atom}{a:Atom}(h:0<=(aT t a).2):(aT t a).2< (aT t a).1.length/\(((aT t a).1).getD ((aT t a).2).toNat default)=a:=by
 have hsp:=iV t a
 revert h
 unfold aT;split
 .intro h;rcases hsp with⟨h1,_⟩ | ⟨_,h2,h3,_⟩
  .exact absurd h (by dsimp only;omega)
  .exact⟨h2,h3.symm⟩
 .split
  .intro h;exact absurd h (by dsimp only;omega)
  .intro _;dsimp only;refine⟨by rw [List.length_append];simp only [List.length_cons,List.length_nil];omega,?_⟩;rw [getD_lt (by rw [List.length_append];simp only [List.length_cons,List.length_nil];omega)];simp
def Qa{u:List Atom}{a:Atom}(hu:aF u){k:Int}(h0:0<=k)(h1:k<u.length)(h2:((u).getD (k).toNat default)=a):aT u a=(u,k):=by
 have hf:oG u a=k:=by
  refine(iV u a).uniq (Or.inr ⟨h0,h1,h2.symm,λj j1 j2=> ?_⟩);have:=(iL.1 hu).1 k h0 h1;have g:=this.2 j j1 j2;dsimp only at g ⊢;rw [h2]at g;exact g
 unfold aT;rw [hf,if_pos h0]
def zD{t u:List Atom}{a:Atom}(hu:aF u)(h:0<=(aT t a).2)(hp:(aT t a).1<+:u):aT u a=(u,(aT t a).2):=by
 obtain⟨g1,g2⟩:=rJ h;have:=oH hp;exact Qa hu h ah (by rw [aiN hp ah,g2])
def KV{op n:Int}{x y:List aj}(ux:aX x n)(uy:aX y n):aX (fD op x y).1 n:=by
 unfold fD;split
 .exact Fa ux uy
 .split
  .refine Fa ux ?_;unfold gK;split
   .exact Fb uy (uP _ _)
   .exact je _
  .split
   .exact Fb ux uy
   .unfold uO
    repeat' split
    all_goals first | exact ux | exact uy | exact je _ | exact uP _ _
structure aiO(t:List Atom)(op:Int)(x y:List aj):Prop where
 tok:aF (tDo t op x y).1
 pre:t<+:(tDo t op x y).1
 len:(tDo t op x y).1.length<=t.length+1
 pok:aI (tDo t op x y).2
 und:aX (tDo t op x y).2 (tDo t op x y).1.length
 ok:tOk t op x y=true
def adL{t:List Atom}{op:Int}{x y:List aj}(h:aF t)(h2:t.length<200)(h3:1<=op/\op<=5)(hx:aI x)(hy:aI y)(ux:aX x t.length)(uy:aX y t.length):aiO t op x y:=by
 by_cases c:(fD op x y).2=true
 .have e:tDo t op x y=(t,(fD op x y).1):=by unfold tDo;rw [if_pos c]
  refine⟨?_,?_,?_,?_,?_,by unfold tOk;rw [c];rfl⟩<;>rw [e]
  .exact h
  .exact List.prefix_refl _
  .exact Nat.le_succ _
  .exact Zz h3 hx hy
  .exact KV ux uy
 .have key:∀x' y',aI x'->aI y'->aX x' t.length->aX y' t.length->0<=(aT t ⟨4,op,x',y'⟩).2/\aF (aT t ⟨4,op,x',y'⟩).1/\(aT t ⟨4,op,x',y'⟩).1.length<=t.length+1:=λx' y' a1 a2 a3 a4=>by
   have p1:=zy (a:=⟨4,op,x',y'⟩) h h2;have q1:=p1.2.2.2 (by unfold gq;rw [if_pos rfl];exact⟨h3,a1,a2,a3,a4⟩);exact⟨q1,p1.1,p1.2.2.1⟩
  by_cases c2:op≠2/\0<eZ x y
  .obtain⟨k1,k2,k3⟩:=key y x hy hx uy ux;have e:tDo t op x y=((aT t ⟨4,op,y,x⟩).1,dG (aT t ⟨4,op,y,x⟩).2):=by unfold tDo;rw [if_neg c,if_pos c2,if_neg ah]
   refine⟨?_,?_,?_,?_,?_,by unfold tOk;rw [if_pos c2,decide_eq_false ah,Bool.not_false,Bool.or_true]⟩<;>rw [e]
   .exact k2
   .exact uQ _ _
   .exact k3
   .exact jH _
   .exact rG (rJ k1).1
  .obtain⟨k1,k2,k3⟩:=key x y hx hy ux uy;have e:tDo t op x y=((aT t ⟨4,op,x,y⟩).1,dG (aT t ⟨4,op,x,y⟩).2):=by unfold tDo;rw [if_neg c,if_neg c2,if_neg ah]
   refine⟨?_,?_,?_,?_,?_,by unfold tOk;rw [if_neg c2,decide_eq_false ah,Bool.not_false,Bool.or_true]⟩<;>rw [e]
   .exact k2
   .exact uQ _ _
   .exact k3
   .exact jH _
   .exact rG (rJ k1).1
def ZA{t u:List Atom}{op:Int}{x y:List aj}(hu:aF u)(h:tOk t op x y=true)(hp:(tDo t op x y).1<+:u):tDo u op x y=(u,(tDo t op x y).2):=by
 by_cases c:(fD op x y).2=true
 .unfold tDo;rw [if_pos c,if_pos c]
 .by_cases c2:op≠2/\0<eZ x y
  .have k1:0<=(aT t ⟨4,op,y,x⟩).2:=by
    unfold tOk at h;rw [if_pos c2,Bool.or_eq_true,Bool.not_eq_true',decide_eq_false_iff_not]at h;have:=h.resolve_left c;omega
   have e:tDo t op x y=((aT t ⟨4,op,y,x⟩).1,dG (aT t ⟨4,op,y,x⟩).2):=by unfold tDo;rw [if_neg c,if_pos c2,if_neg ah]
   rw [e]at hp ⊢;have:=zD hu k1 hp;unfold tDo;rw [if_neg c,if_pos c2,this,if_neg (by dsimp only;omega)]
  .have k1:0<=(aT t ⟨4,op,x,y⟩).2:=by
    unfold tOk at h;rw [if_neg c2,Bool.or_eq_true,Bool.not_eq_true',decide_eq_false_iff_not]at h;have:=h.resolve_left c;omega
   have e:tDo t op x y=((aT t ⟨4,op,x,y⟩).1,dG (aT t ⟨4,op,x,y⟩).2):=by unfold tDo;rw [if_neg c,if_neg c2,if_neg ah]
   rw [e]at hp ⊢;have:=zD hu k1 hp;unfold tDo;rw [if_neg c,if_neg c2,this,if_neg (by dsimp only;omega)]
structure SI(n:Int)(i:Nat)(s:SS):Prop where
 tok:aF s.t
 tl:(s.t.length:Int)<=n+i
 r4:s.regs.length=4
 rok:∀p∈s.regs,aI p/\aX p s.t.length
 vl:s.vals.length=i
 vok:∀p∈s.vals,aI p/\aX p s.t.length
 ld:0<=s.ld/\s.ld<=i
 inn:0<=s.inn/\s.inn<=i
def yB{l:List (List aj)}{n:Int}(h:∀p∈l,aI p/\aX p n)(i:Int):aI ((l).getD (i).toNat default)/\aX ((l).getD (i).toNat default) n:=by
 by_cases c:i.toNat<l.length
 .rw [getD_lt c];exact h _ (List.getElem_mem _)
 .rw [List.getD_eq_getElem?_getD,List.getElem?_eq_none ah];exact⟨dQ,je _⟩
def SI.x{n:Int}{i:Nat}{s:SS}(h:SI n i s)(o:IOp):aI (xOf s o)/\aX (xOf s o) s.t.length:=by
 unfold xOf;split
 .exact yB h.vok _
 .exact⟨dQ,je _⟩
def SI.y{n:Int}{i:Nat}{s:SS}(h:SI n i s)(o:IOp):aI (yOf s o)/\aX (yOf s o) s.t.length:=by
 unfold yOf;split
 .exact yB h.vok _
 .exact⟨dQ,je _⟩
def Sg{n:Int}{i:Nat}{s:SS}(h:SI n i s)(hi:i<200)(o:IOp)(m:Int):gq (aOf s o) m:=by
 have h1:=h.ld;have h2:=h.inn;unfold aOf;split
 .unfold gq;rw [if_neg (by simp)];exact⟨⟨rfl,rfl⟩,Or.inr ⟨Or.inl rfl,by dsimp only;omega,by dsimp only;omega⟩⟩
 .unfold gq;rw [if_neg (by simp)];exact⟨⟨rfl,rfl⟩,Or.inr ⟨Or.inr rfl,by dsimp only;omega,by dsimp only;omega⟩⟩
structure SOK(s:SS)(o:IOp):Prop where
 pre:s.t<+:(stp s o).t
 d:o.kind=3->aiO s.t o.k (xOf s o) (yOf s o)
 p:o.kind=4\/o.kind=6->0<=(aT s.t (aOf s o)).2
def uR{n:Int}{i:Nat}{s:SS}{o:IOp}(h:SI n i s)(hk:o.kind=3->1<=o.k/\o.k<=5)(hn:n+i<200)(hi:i<200):SI n (i+1) (stp s o)/\SOK s o:=by
 have hl:=h.tl;have tl:s.t.length<200:=by omega
 have hd:o.kind=3->aiO s.t o.k (xOf s o) (yOf s o):=λe=>adL h.tok tl (hk e) (h.x o).1 (h.y o).1 (h.x o).2 (h.y o).2
 have hput:=zy (a:=aOf s o) h.tok tl;have hp:=hput.2.2.2 (Sg h hi o _);have T:aF (nT s o)/\(nT s o).length<=s.t.length+1/\s.t<+:nT s o:=by
  unfold nT;split
  .rename_i e;have:=hd e;exact⟨this.tok,this.len,this.pre⟩
  .split
   .exact⟨hput.1,hput.2.2.1,uQ _ _⟩
   .exact⟨h.tok,Nat.le_succ _,List.prefix_refl _⟩
 have up:∀ {p:List aj},aI p/\aX p s.t.length->aI p/\aX p (nT s o).length:=λhp=>⟨hp.1,wD hp.2 (by have:=oH T.2.2;omega)⟩
 have V:aI (nV s o)/\aX (nV s o) (nT s o).length:=by
  unfold nV;split
  .exact⟨jU _,uP _ _⟩
  .split
   .exact up (yB h.rok _)
   .split
    .rename_i e;have:=hd e;refine⟨this.pok,?_⟩;have e2:nT s o=(tDo s.t o.k (xOf s o) (yOf s o)).1:=by unfold nT;rw [if_pos e]
     rw [e2];exact this.und
    .split
     .rename_i e1 e2;have e3:nT s o=(aT s.t (aOf s o)).1:=by unfold nT;rw [if_neg ah,if_pos e2]
      rw [e3];exact⟨jH _,rG (rJ hp).1⟩
     .exact⟨dQ,je _⟩
 have g1:=h.ld;have g2:=h.inn;refine⟨⟨T.1,?_,?_,?_,?_,?_,?_,?_⟩,⟨T.2.2,hd,λ_=>hp⟩⟩
 .have:=T.2.1;show((nT s o).length:Int)<=_;omega
 .show(nR s o).length=4;unfold nR;split
  .rw [List.length_set];exact h.r4
  .exact h.r4
 .show∀p∈nR s o,_;intro p hp;unfold nR at hp;split at hp
  .rcases List.mem_or_eq_of_mem_set hp with hp | rfl
   .exact up (h.rok p hp)
   .exact up (h.x o)
  .exact up (h.rok p hp)
 .show(s.vals++ [nV s o]).length=i+1;rw [List.length_append,h.vl];rfl
 .show∀p∈s.vals++ [nV s o],_;intro p hp;rw [List.mem_append,List.mem_singleton]at hp;rcases hp with hp | rfl
  .exact up (h.vok p hp)
  .exact V
 .show 0<=(if o.kind=4 then s.ld+1 else s.ld)/\(if o.kind=4 then s.ld+1 else s.ld)<=_;split<;>omega
 .show 0<=(if o.kind=6 then s.inn+1 else s.inn)/\(if o.kind=6 then s.inn+1 else s.inn)<=_;split<;>omega
def uS{n:Int}:∀(ops:List IOp) (i:Nat) (s:SS),SI n i s->(∀o∈ops,o.kind=3->1<=o.k/\o.k<=5)->n+i+ops.length<=200->i+ops.length<=200->SI n (i+ops.length) (ops.foldl stp s)/\s.t<+:(ops.foldl stp s).t
 | [],i,s,h,_,_,_=>⟨h,List.prefix_refl _⟩
 | o::r,i,s,h,hk,h1,h2=>by
  rw [List.length_cons]at h1 h2;obtain⟨a1,a2⟩:=uR h (hk o List.mem_cons_self) ah ah;obtain⟨b1,b2⟩:=uS r (i+1) (stp s o) a1 (λo ho=>hk o (List.mem_cons_of_mem _ ho)) ah ah;rw [List.foldl_cons,List.length_cons,show i+(r.length+1)=i+1+r.length by omega];exact⟨b1,a2.pre.trans b2⟩
structure RI(t:List Atom)(n:Nat)(r:List Atom×List (List aj)):Prop where
 tok:aF r.1
 tl:r.1.length<=t.length+n
 pre:t<+:r.1
 r4:r.2.length=n
 rok:∀p∈r.2,aI p/\aX p r.1.length
def Ch{t:List Atom}(h:aF t)(hl:t.length<=196):∀n:Nat,n<=4->RI t n (rN t n)
 | 0,_=>⟨h,Nat.le_refl _,List.prefix_refl _,rfl,λp hp=>absurd hp (by simp [rN])⟩
 | n+1,hn=>by
  have ih:=Ch h hl n ah;have l:=ih.tl;have hp:=zy (a:=⟨1,n,[],[]⟩) ih.tok ah;have h0:=hp.2.2.2 (by unfold gq;rw [if_neg (by simp)];exact⟨⟨rfl,rfl⟩,Or.inl ⟨rfl,by dsimp only;omega,by dsimp only;omega⟩⟩);have pr:=uQ (rN t n).1 ⟨1,n,[],[]⟩;unfold rN;refine⟨hp.1,?_,ih.pre.trans pr,?_,λp h=> ?_⟩
  .have:=hp.2.2.1;dsimp only;omega
  .dsimp only;rw [List.length_append,ih.r4];rfl
  .dsimp only at h ⊢;rw [List.mem_append,List.mem_singleton]at h;rcases h with h | rfl
   .have:=ih.rok p h;exact⟨this.1,wD this.2 (by have:=oH pr;omega)⟩
   .exact⟨jH _,rG (rJ h0).1⟩
def Ja{t:List Atom}(h:aF t)(hl:t.length<=196){n:Nat}(hn:n<4):0<=(aT (rN t n).1 ⟨1,n,[],[]⟩).2:=by
 have ih:=Ch h hl n ah;have l:=ih.tl;exact(zy (a:=⟨1,n,[],[]⟩) ih.tok ah).2.2.2 (by unfold gq;rw [if_neg (by simp)];exact⟨⟨rfl,rfl⟩,Or.inl ⟨rfl,by dsimp only;omega,by dsimp only;omega⟩⟩)
def GH{t:List Atom}(h:aF t)(hl:t.length<=196):SI (t.length+4) 0 (s0 t):=by
 have:=Ch h hl 4 ah;have l:=this.tl;exact⟨this.tok,by show((rN t 4).1.length:Int)<=_;omega,this.r4,this.rok,rfl,λp hp=>absurd hp (by simp [s0]),by simp [s0],by simp [s0]⟩
def iK.k3{b:Blk}(h:iK b):∀o∈b.ops,o.kind=3->1<=o.k/\o.k<=5:=λo ho=>by
 obtain⟨i,hi,rfl⟩:=List.getElem_of_mem ho;have:=(h.op i ah ah).k3;rw [show(i:Int).toNat=i from rfl,getD_lt hi]at this;exact this
def Si{t:List Atom}{b:Blk}(h:aF t)(hl:t.length<=100)(hb:iK b):SI (t.length+4) b.ops.length (gQ t b)/\t<+:(gQ t b).t:=by
 have sz:=hb.sz;obtain⟨h1,h2⟩:=uS b.ops 0 (s0 t) (GH h ah) hb.k3 ah ah;rw [Nat.zero_add]at h1;exact⟨h1,(Ch h ah 4 ah).pre.trans h2⟩
def SS.on(s:SS)(u:List Atom):SS:=⟨u,s.regs,s.vals,s.ld,s.inn,s.evs⟩
theorem aiP{s:SS}{o:IOp}{u:List Atom}(hu:aF u)(h:SOK s o)(hp:(stp s o).t<+:u):stp (s.on u) o=(stp s o).on u:=by
 have hp:nT s o<+:u:=hp;have ex:xOf (s.on u) o=xOf s o:=rfl;have ey:yOf (s.on u) o=yOf s o:=rfl;have ea:aOf (s.on u) o=aOf s o:=rfl;have eT:nT (s.on u) o=u:=by
  unfold nT;split
  .rename_i e;rw [ex,ey];have h3:=(h.d e).ok;unfold nT at hp;rw [if_pos e]at hp;rw [show(s.on u).t=u from rfl,ZA hu h3 hp]
  .split
   .rename_i e1 e2;unfold nT at hp;rw [if_neg e1,if_pos e2]at hp;rw [ea,show(s.on u).t=u from rfl,zD hu (h.p e2) hp]
   .rfl
 have eV:nV (s.on u) o=nV s o:=by
  unfold nV;split
  .rfl
  .split
   .rfl
   .split
    .rename_i e;rw [ex,ey];have h3:=(h.d e).ok;unfold nT at hp;rw [if_pos e]at hp;rw [show(s.on u).t=u from rfl,ZA hu h3 hp]
    .split
     .rename_i e1 e2;unfold nT at hp;rw [if_neg e1,if_pos e2]at hp;rw [ea,show(s.on u).t=u from rfl,zD hu (h.p e2) hp]
     .rfl
 show SS.mk (nT (s.on u) o) (nR (s.on u) o) ((s.on u).vals++ [nV (s.on u) o]) _ _ (nE (s.on u) o)=SS.mk u (nR s o) (s.vals++ [nV s o]) _ _ (nE s o);rw [eT,eV];rfl
def ZB{n:Int}{u:List Atom}(hu:aF u):∀(ops:List IOp) (i:Nat) (s:SS),SI n i s->(∀o∈ops,o.kind=3->1<=o.k/\o.k<=5)->n+i+ops.length<=200->i+ops.length<=200->(ops.foldl stp s).t<+:u->ops.foldl stp (s.on u)=(ops.foldl stp s).on u
 | [],i,s,h,_,_,_,_=>rfl
 | o::r,i,s,h,hk,h1,h2,hp=>by
  rw [List.length_cons]at h1 h2;obtain⟨a1,a2⟩:=uR h (hk o List.mem_cons_self) ah ah;rw [List.foldl_cons]at hp;obtain⟨_,b2⟩:=uS r (i+1) (stp s o) a1 (λo ho=>hk o (List.mem_cons_of_mem _ ho)) ah ah;rw [List.foldl_cons,List.foldl_cons,aiP hu a2 (b2.trans hp)];exact ZB hu r (i+1) (stp s o) a1 (λo ho=>hk o (List.mem_cons_of_mem _ ho)) ah ah hp
def afc{t u:List Atom}(h:aF t)(hl:t.length<=196)(hu:aF u):∀n:Nat,n<=4->(rN t n).1<+:u->rN u n=(u,(rN t n).2)
 | 0,_,_=>rfl
 | n+1,hn,hp=>by
  have h0:=Ja h hl (n:=n) ah;have pr:=uQ (rN t n).1 ⟨1,n,[],[]⟩;have hp':(aT (rN t n).1 ⟨1,n,[],[]⟩).1<+:u:=hp;have ih:=afc h hl hu n ah (pr.trans hp');show((aT (rN u n).1 ⟨1,n,[],[]⟩).1,(rN u n).2++ [dG (aT (rN u n).1 ⟨1,n,[],[]⟩).2])=(u,(rN t n).2++ [dG (aT (rN t n).1 ⟨1,n,[],[]⟩).2]);rw [ih];dsimp only;rw [zD hu h0 hp']
def adM{t u:List Atom}{b:Blk}(h:aF t)(hl:t.length<=100)(hb:iK b)(hu:aF u)(hp:(gQ t b).t<+:u):gQ u b=(gQ t b).on u:=by
 have sz:=hb.sz;have i0:=GH h ah;obtain⟨_,h2⟩:=uS b.ops 0 (s0 t) i0 hb.k3 ah ah;have e:s0 u=(s0 t).on u:=by
  unfold s0 SS.on;rw [afc h ah hu 4 ah (h2.trans hp)]
 unfold gQ at hp ⊢;rw [e];exact ZB hu b.ops 0 (s0 t) i0 hb.k3 ah ah hp
def rM{t:List Atom}{b:Blk}(h:aF t)(hl:t.length<=100)(hb:iK b):bP t b=((gQ t b).t,symEnd (zC b (gQ t b)) (b.pc+b.len)):=by
 unfold bP;rw [if_pos (aU ⟨h,hl,hb⟩)]
def Uq{t u:List Atom}{b:Blk}(h:aF t)(hl:t.length<=100)(hb:iK b)(hu:aF u)(hlu:u.length<=100)(hp:(bP t b).1<+:u):bP u b=(u,(bP t b).2):=by
 rw [rM h hl hb]at hp ⊢;rw [rM hu hlu hb,adM h hl hb hu hp];rfl
def GI{t:List Atom}{b:Blk}(h:aF t)(hl:t.length<=100)(hb:iK b):aF (bP t b).1/\t<+:(bP t b).1/\(bP t b).1.length<=t.length+b.ops.length+4:=by
 unfold bP;rw [if_pos (aU ⟨h,hl,hb⟩)];obtain⟨h1,h2⟩:=Si h hl hb;have:=h1.tl;exact⟨h1.tok,h2,by dsimp only;omega⟩
def ShP(l:List (List aj)):Prop:=l.length<1000000000/\∀p∈l,Sh p
def ShE(e:Ev):Prop:=Sh e.x/\Sh e.y/\ShP e.regs
def Ur(l:List Ev):Prop:=l.length<1000000000/\∀e∈l,ShE e
structure ShY(s:Sym):Prop where
 e:Ur s.events
 r:ShP s.regs
 x:Sh s.x
 y:Sh s.y
def ShP.at{l:List (List aj)}(h:ShP l)(n:Nat):Sh (l.getD n default):=by
 by_cases c:n<l.length
 .rw [getD_lt c];exact h.2 _ (List.getElem_mem _)
 .rw [List.getD_eq_getElem?_getD,List.getElem?_eq_none ah];exact nD
def Jb:ShP []:=⟨by simp,λp h=>absurd h (by simp)⟩
def Ur.at{l:List Ev}(h:Ur l)(n:Nat):ShE (l.getD n default):=by
 by_cases c:n<l.length
 .rw [getD_lt c];exact h.2 _ (List.getElem_mem _)
 .rw [List.getD_eq_getElem?_getD,List.getElem?_eq_none ah];exact⟨nD,nD,Jb⟩
def adN:ShY Uo:=⟨⟨by simp [Uo],λe h=>absurd h (by simp [Uo])⟩,Jb,nD,nD⟩
def SI.regs{n:Int}{i:Nat}{s:SS}(h:SI n i s):ShP s.regs:=⟨by have:=h.r4;omega,λp hp=>(h.rok p hp).1.sh⟩
def adO{n:Int}{i:Nat}{s:SS}{o:IOp}(h:SI n i s)(h2:s.evs.length<=i/\∀e∈s.evs,ShE e):(stp s o).evs.length<=i+1/\∀e∈(stp s o).evs,ShE e:=by
 show(nE s o).length<=i+1/\∀e∈nE s o,ShE e;unfold nE;split
 .refine⟨by rw [List.length_append];have:=h2.1;simp only [List.length_cons,List.length_nil];omega,λe he=> ?_⟩;rw [List.mem_append,List.mem_singleton]at he;rcases he with he | rfl
  .exact h2.2 e he
  .refine⟨(h.x o).1.sh,(h.y o).1.sh,?_⟩;dsimp only;split
   .exact h.regs
   .exact Jb
 .exact⟨by have:=h2.1;omega,h2.2⟩
def Jc{n:Int}:∀(ops:List IOp) (i:Nat) (s:SS),SI n i s->(∀o∈ops,o.kind=3->1<=o.k/\o.k<=5)->n+i+ops.length<=200->i+ops.length<=200->(s.evs.length<=i/\∀e∈s.evs,ShE e)->(ops.foldl stp s).evs.length<=i+ops.length/\∀e∈(ops.foldl stp s).evs,ShE e
 | [],i,s,h,_,_,_,h3=>h3
 | o::r,i,s,h,hk,h1,h2,h3=>by
  rw [List.length_cons]at h1 h2;obtain⟨a1,a2⟩:=uR h (hk o List.mem_cons_self) ah ah;have:=Jc r (i+1) (stp s o) a1 (λo ho=>hk o (List.mem_cons_of_mem _ ho)) ah ah (adO h h3);rw [List.foldl_cons,List.length_cons,show i+(r.length+1)=i+1+r.length by omega];exact this
def evT(e:Ev):Int×Int×Nat:=(e.kind,e.at_,e.regs.length)
def opT(o:IOp):Int×Int×Nat:=(o.kind,o.at_,if o.kind=4\/o.kind=5 then 4 else 0)
def KW(ops:List IOp):List IOp:=ops.filter λo=>decide (evO o)
def Sj:∀(ops:List IOp) (s:SS),s.regs.length=4->(ops.foldl stp s).evs.map evT=s.evs.map evT++(KW ops).map opT
 | [],s,_=>by simp [KW]
 | o::r,s,h=>by
  have h':(stp s o).regs.length=4:=by
   show(nR s o).length=4;unfold nR;split
   .rw [List.length_set];exact h
   .exact h
  rw [List.foldl_cons,Sj r (stp s o) h'];show(nE s o).map evT++_=_;unfold nE KW;by_cases c:evO o
  .have e:evT ⟨o.kind,o.at_,xOf s o,yOf s o,if o.kind=4\/o.kind=5 then s.regs else []⟩=opT o:=by
    unfold evT opT;dsimp only;split
    .rw [h]
    .rfl
   rw [if_pos c,List.filter_cons_of_pos (by simpa using c),List.map_append,List.append_assoc];refine congrArg (s.evs.map evT++ ·) ?_;show evT _::_=opT o::_;rw [e];rfl
  .rw [if_neg c,List.filter_cons_of_neg (by simpa using c)]
def Jd{n:Int}{i:Nat}{s:SS}{b:Blk}(h:SI n i s):aI (zC b s).x/\aI (zC b s).y:=by
 unfold zC;dsimp only;constructor
 .split
  .exact dQ
  .exact(yB h.vok _).1
 .split
  .exact(yB h.vok _).1
  .exact dQ
def Je{s:Sym}{n:Int}(h:aI s.x/\aI s.y):(symEnd s n).events=s.events/\(symEnd s n).regs=s.regs/\aI (symEnd s n).x/\aI (symEnd s n).y:=by
 unfold symEnd;rw [if_neg (by rw [aU h];simp)]
 repeat' split
 all_goals first | exact⟨rfl,rfl,h⟩ | exact⟨rfl,rfl,dQ,dQ⟩ | exact⟨rfl,rfl,h.2,h.1⟩
structure aoG(t:List Atom)(b:Blk):Prop where
 evs:(bP t b).2.events.map evT=(KW b.ops).map opT
 r4:(bP t b).2.regs.length=4
 sh:ShY (bP t b).2
 ne:0< (bP t b).1.length
theorem KY{t:List Atom}{b:Blk}(h:aF t)(hl:t.length<=100)(hb:iK b):aoG t b:=by
 have sz:=hb.sz;have i0:=GH h ah;obtain⟨h1,h2⟩:=Si h hl hb;have hs:=Jc b.ops 0 (s0 t) i0 hb.k3 ah ah ⟨by simp [s0],λe he=>absurd he (by simp [s0])⟩;have he:=Sj b.ops (s0 t) i0.r4;have hk:=Je (n:=b.pc+b.len) (Jd (b:=b) h1);have e:bP t b=((gQ t b).t,symEnd (zC b (gQ t b)) (b.pc+b.len)):=by unfold bP;rw [if_pos (aU ⟨h,hl,hb⟩)]
 rw [Nat.zero_add]at hs;refine⟨?_,?_,?_,?_⟩
 .rw [e];dsimp only;rw [hk.1];show(gQ t b).evs.map evT=_;unfold gQ;rw [he];rfl
 .rw [e];dsimp only;rw [hk.2.1];exact h1.r4
 .rw [e];refine⟨?_,?_,hk.2.2.1.sh,hk.2.2.2.sh⟩
  .rw [hk.1];exact⟨by have:=hs.1;show(b.ops.foldl stp (s0 t)).evs.length<_;omega,hs.2⟩
  .rw [hk.2.1];exact h1.regs
 .rw [e];have r:=uS b.ops 0 (s0 t) i0 hb.k3 ah ah;have:=oH r.2;have p:=rJ (Ja h ah (n:=3) ah);have p0:=Ja h ah (n:=3) ah;show 0< (gQ t b).t.length;have:(s0 t).t.length=(aT (rN t 3).1 ⟨1,(3:Nat),[],[]⟩).1.length:=rfl;unfold gQ;omega
def zF(t:List Atom)(b:Blk):ShY (bP t b).2/\ShT (bP t b).1:=by
 by_cases c:aF t/\t.length<=100/\iK b
 .exact⟨(KY c.1 c.2.1 c.2.2).sh,(GI c.1 c.2.1 c.2.2).1.sh⟩
 .unfold bP;rw [aR c,if_neg (by simp)];exact⟨adN,adH⟩
noncomputable def t4:List Atom:=(rN [] 4).1
def qB:aF []:=iL.2 ⟨All.zero,by simp⟩
def Sk:aF t4/\t4.length<=4:=by
 have:=Ch qB (by simp) 4 ah;exact⟨this.tok,Nat.le_trans this.tl (by simp)⟩
noncomputable def chk (b c:Blk):Bool:=bp (iK b/\iK c/\b.pc=c.pc/\b.len=c.len/\(b=c\/(bP t4 b).2=(bP (bP t4 b).1 c).2))
structure Lk(b c:Blk):Prop where
 ob:iK b
 oc:iK c
 pc:b.pc=c.pc
 len:b.len=c.len
 run:∀u,aF u->u.length<=100->(bP u b).1=u->bP u c=bP u b
def Lk.refl{b:Blk}(h:iK b):Lk b b:=⟨h,h,rfl,rfl,λ_ _ _ _=>rfl⟩
def Lk.trans{b c d:Blk}(h:Lk b c)(g:Lk c d):Lk b d:=⟨h.ob,g.oc,h.pc.trans g.pc,h.len.trans g.len,λu h1 h2 h3=>by
 have e:=h.run u h1 h2 h3;rw [g.run u h1 h2 (by rw [e];exact h3),e]⟩
def adP{b:Blk}(hb:iK b):aF (bP t4 b).1/\(bP t4 b).1.length<=100/\bP (bP t4 b).1 b=bP t4 b:=by
 have h4:=Sk;have hr:=GI h4.1 ah hb;have sz:=hb.sz;refine⟨hr.1,ah,?_⟩;have:=Uq h4.1 ah hb hr.1 ah (List.prefix_refl _);rw [this]
def Lk.chk{b c:Blk}(h:Lk b c):chk b c=true:=by
 obtain⟨h1,h2,h3⟩:=adP h.ob;refine aU ⟨h.ob,h.oc,h.pc,h.len,Or.inr ?_⟩;rw [h.run _ h1 h2 (by rw [h3]),h3]
def Us:Blk:=⟨0,0,[],0,0,0,0⟩
def Qb(f:SS->IOp->SS)(s:SS){l:List IOp}{i:Nat}(h:i<l.length):(l.take (i+1)).foldl f s=f ((l.take i).foldl f s) l[i]:=by
 rw [List.take_succ_eq_append_getElem h,List.foldl_append];rfl
def ren(nm:List Int)(o:IOp):IOp:=⟨o.kind,if hX o then((nm).getD (o.x).toNat default)else o.x,if hY o then((nm).getD (o.y).toNat default)else o.y,o.k,o.at_⟩
def aoH(nm:List Int)(b:Blk)(ops:List IOp):Blk:=⟨b.pc,b.len,ops.map (ren nm),b.fin,if b.fin=1 then b.x else((nm).getD (b.x).toNat default),if 3<=b.fin then((nm).getD (b.y).toNat default)else b.y,b.k⟩
def cpN(s:List Int×List Int)(i:Int)(o:IOp):Int:=if o.kind=2/\0<=((s.2).getD (o.k).toNat default)then((s.2).getD (o.k).toNat default)else i
def cpL(s:List Int×List Int)(i:Int)(o:IOp):List Int:=if o.kind=2 then(if 0<=((s.2).getD (o.k).toNat default)then s.2 else s.2.set o.k.toNat i)else if o.kind=8 then s.2.set o.k.toNat ((s.1).getD (o.x).toNat default)else s.2
def cpS(ops:List IOp):Nat->List Int×List Int
 | 0=>([],[-1, -1, -1, -1])
 | i+1=>((cpS ops i).1++ [cpN (cpS ops i) i (ops.getD i default)],cpL (cpS ops i) i (ops.getD i default))
noncomputable def Jf (b:Blk):Blk:=if bp (iK b)=true then aoH (cpS b.ops b.ops.length).1 b b.ops else Us
structure CI(ops:List IOp)(i:Nat)(s:SS):Prop where
 nm:∀j:Int,0<=j->j<i->(0<=(((cpS ops i).1).getD (j).toNat default)/\(((cpS ops i).1).getD (j).toNat default)<=j)/\((s.vals).getD ((((cpS ops i).1).getD (j).toNat default)).toNat default)=((s.vals).getD (j).toNat default)/\(mkV ((ops).getD (j).toNat default)->mkV ((ops).getD ((((cpS ops i).1).getD (j).toNat default)).toNat default))
 la:∀r:Int,0<=r->r<=3->0<=(((cpS ops i).2).getD (r).toNat default)->(((cpS ops i).2).getD (r).toNat default)<i/\((s.vals).getD ((((cpS ops i).2).getD (r).toNat default)).toNat default)=((s.regs).getD (r).toNat default)/\mkV ((ops).getD ((((cpS ops i).2).getD (r).toNat default)).toNat default)
def fcO(f:List IOp)(o:IOp):IOp:=if o.kind=3/\(((f).getD (o.x).toNat default)).kind=1/\(((f).getD (o.y).toNat default)).kind=1 then⟨1,0,0,wdo o.k (((f).getD (o.x).toNat default)).k (((f).getD (o.y).toNat default)).k,0⟩else o
def fc(ops:List IOp):Nat->List IOp
 | 0=> []
 | i+1=>fc ops i++ [fcO (fc ops i) (ops.getD i default)]
def fcB(b:Blk)(f:List IOp):Blk:=
 if b.fin=2/\(((f).getD (b.x).toNat default)).kind=1 then⟨b.pc,b.len,f,1,0,b.y,(((f).getD (b.x).toNat default)).k⟩
 else if 3<=b.fin/\(((f).getD (b.x).toNat default)).kind=1/\(((f).getD (b.y).toNat default)).kind=1 then⟨b.pc,b.len,f,1,0,0,if b.fin=3/\(((f).getD (b.x).toNat default)).k=(((f).getD (b.y).toNat default)).k\/b.fin=4/\(((f).getD (b.x).toNat default)).k< (((f).getD (b.y).toNat default)).k then b.k else b.pc+b.len⟩
 else⟨b.pc,b.len,f,b.fin,b.x,b.y,b.k⟩
noncomputable def KZ (b:Blk):Blk:=if bp (iK b)=true then fcB b (fc b.ops b.ops.length)else Us
structure FI(ops:List IOp)(i:Nat)(s:SS):Prop where
 c:∀j:Int,0<=j->j<i->((((fc ops i)).getD (j).toNat default)).kind=1->(0<=((((fc ops i)).getD (j).toNat default)).k/\((((fc ops i)).getD (j).toNat default)).k<=65535)/\((s.vals).getD (j).toNat default)=bS ((((fc ops i)).getD (j).toNat default)).k
 m:∀j:Int,0<=j->j<i->mkV ((ops).getD (j).toNat default)->mkV (((fc ops i)).getD (j).toNat default)
def kpS(ops:List IOp)(kp:List Bool):Nat->List Int×List IOp
 | 0=>([],[])
 | i+1=>((kpS ops kp i).1++ [((kpS ops kp i).2.length:Int)],if kp.getD i default=true then(kpS ops kp i).2++ [ops.getD i default]else(kpS ops kp i).2)
def ZE(b:Blk)(kp:List Bool):Blk:=aoH (kpS b.ops kp b.ops.length).1 b (kpS b.ops kp b.ops.length).2
def Sl:List IOp->Int->Bool
 | [],_=>false
 | o::l,r=>if o.kind=4\/o.kind=5\/o.kind=2/\o.k=r then false else if o.kind=8/\o.k=r then true else Sl l r
structure KP(b:Blk)(kp:List Bool):Prop where
 x:∀i:Int,0<=i->i<b.ops.length->((kp).getD (i).toNat default)=true->hX ((b.ops).getD (i).toNat default)->((kp).getD ((((b.ops).getD (i).toNat default)).x).toNat default)=true
 y:∀i:Int,0<=i->i<b.ops.length->((kp).getD (i).toNat default)=true->hY ((b.ops).getD (i).toNat default)->((kp).getD ((((b.ops).getD (i).toNat default)).y).toNat default)=true
 ex:b.fin≠1->((kp).getD (b.x).toNat default)=true
 ey:3<=b.fin->((kp).getD (b.y).toNat default)=true
 no:∀i:Int,0<=i->i<b.ops.length->((kp).getD (i).toNat default)=false->(((b.ops).getD (i).toNat default)).kind<=3\/(((b.ops).getD (i).toNat default)).kind=8/\Sl (b.ops.drop (i.toNat+1)) (((b.ops).getD (i).toNat default)).k=true
structure KI(b:Blk)(kp:List Bool)(i:Nat)(s s':SS):Prop where
 t:s'.t=s.t
 ld:s'.ld=s.ld
 inn:s'.inn=s.inn
 evs:s'.evs=s.evs
 vl:s'.vals.length=(kpS b.ops kp i).2.length
 v:∀j:Nat,j<i->kp.getD j default=true->s'.vals.getD (kpS b.ops kp j).2.length default=s.vals.getD j default
 r4:s'.regs.length=4/\s.regs.length=4
 rg:∀r:Int,0<=r->r<=3->Sl (b.ops.drop i) r=false->((s'.regs).getD (r).toNat default)=((s.regs).getD (r).toNat default)
def aiQ(ops:List IOp):List Bool:=(List.range ops.length).map λi=> !(decide ((ops.getD i default).kind=8)&&Sl (ops.drop (i+1)) (ops.getD i default).k)
noncomputable def Jg (b:Blk):Blk:=if bp (iK b)=true then ZE b (aiQ b.ops)else Us
def us0(b:Blk):List Bool:=(λm:List Bool=>if 3<=b.fin then m.set b.y.toNat true else m) (if b.fin=1 then List.replicate b.ops.length false else(List.replicate b.ops.length false).set b.x.toNat true)
def usO(o:IOp)(i:Nat)(m:List Bool):List Bool:=
 if(m.getD i default || decide (4<=o.kind))=true then(λm:List Bool=>if hY o then m.set o.y.toNat true else m) ((λm:List Bool=>if hX o then m.set o.x.toNat true else m) (m.set i true))else m
def us(b:Blk):Nat->List Bool
 | 0=>us0 b
 | k+1=>usO (b.ops.getD (b.ops.length-1-k) default) (b.ops.length-1-k) (us b k)
noncomputable def adQ (b:Blk):List Bool:=if bp (iK b)=true then us b b.ops.length else []
noncomputable def Dc (b:Blk):Blk:=if bp (iK b)=true then ZE b (us b b.ops.length)else Us
structure UI(b:Blk)(p:Nat)(m:List Bool):Prop where
 k:∀i:Nat,p<=i->i<b.ops.length->4<=(b.ops.getD i default).kind->m.getD i default=true
 x:∀i:Nat,p<=i->i<b.ops.length->m.getD i default=true->hX (b.ops.getD i default)->((m).getD ((b.ops.getD i default).x).toNat default)=true
 y:∀i:Nat,p<=i->i<b.ops.length->m.getD i default=true->hY (b.ops.getD i default)->((m).getD ((b.ops.getD i default).y).toNat default)=true
 ex:b.fin≠1->((m).getD (b.x).toNat default)=true
 ey:3<=b.fin->((m).getD (b.y).toNat default)=true
 wh:∀t:Nat,t<b.ops.length->m.getD t default=true->4<=(b.ops.getD t default).kind\/b.fin≠1/\t=b.x.toNat\/3<=b.fin/\t=b.y.toNat\/∃j:Nat,p<=j/\j<b.ops.length/\t<j/\m.getD j default=true/\(hX (b.ops.getD j default)/\t=(b.ops.getD j default).x.toNat\/hY (b.ops.getD j default)/\t=(b.ops.getD j default).y.toNat)
noncomputable def ZF (b:Blk):Blk:=Dc (Jg (Dc (KZ (Jf b))))
def RB:(∀o:IOp,bV .iop 0 o=o.kind)/\(∀o:IOp,bV .iop 1 o=o.x)/\(∀o:IOp,bV .iop 2 o=o.y)/\(∀o:IOp,bV .iop 3 o=o.k)/\(∀o:IOp,bV .iop 4 o=o.at_)/\
  (∀b:Blk,bV .blk 0 b=b.pc)/\(∀b:Blk,bV .blk 1 b=b.len)/\(∀b:Blk,iR .blk 2 .iop b=b.ops)/\(∀b:Blk,bV .blk 3 b=b.fin)/\(∀b:Blk,bV .blk 4 b=b.x)/\(∀b:Blk,bV .blk 5 b=b.y)/\(∀b:Blk,bV .blk 6 b=b.k)/\
  (∀x,Co.mk .iop x=⟨x.1,x.2.1,x.2.2.1,x.2.2.2.1,x.2.2.2.2.1⟩)/\(∀x,Co.mk .blk x=⟨x.1,x.2.1,x.2.2.1,x.2.2.2.1,x.2.2.2.2.1,x.2.2.2.2.2.1,x.2.2.2.2.2.2.1⟩)/\
  (∀i:Ins,bV .ins 0 i=i.op)/\(∀i:Ins,bV .ins 1 i=i.d)/\(∀i:Ins,bV .ins 2 i=i.a)/\(∀i:Ins,bV .ins 3 i=i.k)/\(∀x,Co.mk .ins x=⟨x.1,x.2.1,x.2.2.1,x.2.2.2.1⟩)/\
  (∀e:Ev,bV .ev 0 e=e.kind)/\(∀e:Ev,bV .ev 1 e=e.at_)/\(∀e:Ev,iR .ev 2 .mono e=e.x)/\(∀e:Ev,iR .ev 3 .mono e=e.y)/\(∀e:Ev,iR .ev 4 .poly e=e.regs)/\(∀x,Co.mk .ev x=⟨x.1,x.2.1,x.2.2.1,x.2.2.2.1,x.2.2.2.2.1⟩)/\
  (∀s:Sym,iR .sym 0 .ev s=s.events)/\(∀s:Sym,iR .sym 1 .poly s=s.regs)/\(∀s:Sym,bV .sym 2 s=s.fin)/\(∀s:Sym,iR .sym 3 .mono s=s.x)/\(∀s:Sym,iR .sym 4 .mono s=s.y)/\(∀s:Sym,bV .sym 5 s=s.k)/\
  (∀x,Co.mk .sym x=⟨x.1,x.2.1,x.2.2.1,x.2.2.2.1,x.2.2.2.2.1,x.2.2.2.2.2.1⟩)/\(∀x,Co.mk .bool x=x.1)/\(∀x:Bool,Km .bool 0 x=x):=
 ⟨λ_=>rfl,λ_=>rfl,λ_=>rfl,λ_=>rfl,λ_=>rfl,λ_=>rfl,λ_=>rfl,λ_=>rfl,λ_=>rfl,λ_=>rfl,λ_=>rfl,λ_=>rfl,λ_=>rfl,λ_=>rfl,λ_=>rfl,λ_=>rfl,λ_=>rfl,λ_=>rfl,λ_=>rfl,λ_=>rfl,λ_=>rfl,λ_=>rfl,λ_=>rfl,λ_=>rfl,λ_=>rfl,λ_=>rfl,λ_=>rfl,λ_=>rfl,λ_=>rfl,λ_=>rfl,λ_=>rfl,λ_=>rfl,λ_=>rfl,λ_=>rfl⟩
abbrev hK(o : IOp) : Prop := o.kind = 1 \/ o.kind = 2 \/ o.kind = 3 \/ o.kind = 8
def aoI{p1 f1}(U1:Y1 p1 f1)(o:IOp):
  Xy.F (p1,f1,()) (o,()) (λy=>y=(decide (hX o),decide (hY o),decide (hK o),decide (evO o),())):=by
 dsimp only [Xy,gm];simp (disch:=omega) only [RR,RB,U1.hp,U1.hf];refine Prod.ext ?_ (Prod.ext ?_ (Prod.ext ?_ (Prod.ext ?_ rfl)))<;>rw [Bool.eq_iff_iff]<;>simp [hX,hY,hK,evO,inB,or_assoc,and_assoc]
def aoJ{p1 f1}(U1:Y1 p1 f1)(o:IOp):
  XA.F (p1,f1,()) (o,()) (λy=>y=(decide (mkV o),())):=by
 dsimp only [XA,gm];simp (disch:=omega) only [RR,RB,U1.hp,U1.hf];refine Prod.ext ?_ rfl;rw [Bool.eq_iff_iff];simp [mkV,inB]
def aoK{p1 f1}(U1:Y1 p1 f1)(o:IOp):
  X7.F (p1,f1,()) (o,()) (λy=>y=(decide (evO o),())):=by
 dsimp only [X7,gm];simp (disch:=omega) only [RR,RB,U1.hp,U1.hf];refine Prod.ext ?_ rfl;rw [Bool.eq_iff_iff];simp [evO,inB]
def aoL{p1 f1}{p2:IOp×Unit->Bool}{f2:IOp×Unit->Bool×Unit}(hp2:∀o,p2 (o,())=true)(hf2:∀o,f2 (o,())=(decide (mkV o),()))(U1:Y1 p1 f1)(b:Blk)(x n:Int)(h0:0<=n)(h1:n<=b.ops.length)(h2:b.ops.length<1000000000):
  XB.F (p2,f2,p1,f1,()) (b,x,n,()) (λy=>y=(bp (Vl b.ops x n),())):=by
 dsimp only [XB,gm];simp (disch:=omega) only [RR,RB,U1.hp,U1.hf,hp2,hf2,bM,jq];refine⟨ah,ah,?_⟩;refine Prod.ext ?_ rfl;dsimp only;rw [Bool.eq_iff_iff,aN,Bool.and_eq_true,bM,decide_eq_true_eq];unfold Vl;constructor
 .rintro⟨⟨a1,a2⟩,a3⟩;exact⟨a1,ah,a3⟩
 .rintro⟨a1,a2,a3⟩;exact⟨⟨a1,ah⟩,a3⟩
def K4{ops:List IOp}{len i:Int}{o:IOp}:nP ops len i o↔(1<=o.kind/\o.kind<=8)/\(hX o/\Vl ops o.x i\/¬hX o/\o.x=0)/\(hY o/\Vl ops o.y i\/¬hY o/\o.y=0)/\
  (hK o/\(o.kind=1/\(0<=o.k/\o.k<=65535)\/(o.kind=2\/o.kind=8)/\(0<=o.k/\o.k<=3)\/o.kind=3/\(1<=o.k/\o.k<=5))\/¬hK o/\o.k=0)/\(evO o/\(0<=o.at_/\o.at_<len)\/¬evO o/\o.at_=0):=by
 constructor
 .rintro⟨kd,x1,x0,y1,y0,k1,k2,k3,k0,a1,a0⟩;refine⟨kd,?_,?_,?_,?_⟩
  .by_cases h:hX o
   .exact Or.inl ⟨h,x1 h⟩
   .exact Or.inr ⟨h,x0 h⟩
  .by_cases h:hY o
   .exact Or.inl ⟨h,y1 h⟩
   .exact Or.inr ⟨h,y0 h⟩
  .unfold hK;omega
  .by_cases h:evO o
   .exact Or.inl ⟨h,a1 h⟩
   .exact Or.inr ⟨h,a0 h⟩
 .rintro⟨kd,x,y,k,a⟩;refine⟨kd,λh=> ?_,λh=> ?_,λh=> ?_,λh=> ?_,λh=> ?_,λh=> ?_,λh=> ?_,λh h'=> ?_,λh=> ?_,λh=> ?_⟩
  .rcases x with x | x
   .exact x.2
   .exact absurd h x.1
  .rcases x with x | x
   .exact absurd x.1 h
   .exact x.2
  .rcases y with y | y
   .exact y.2
   .exact absurd h y.1
  .rcases y with y | y
   .exact absurd y.1 h
   .exact y.2
  .unfold hK at k;omega
  .unfold hK at k;omega
  .unfold hK at k;omega
  .unfold hK at k;omega
  .rcases a with a | a
   .exact a.2
   .exact absurd h a.1
  .rcases a with a | a
   .exact absurd a.1 h
   .exact a.2
structure Y52(pp:Blk×Int×Int×Unit->Bool)(ff:Blk×Int×Int×Unit->Bool×Unit):Prop where
 hp:∀b x n,0<=n->n<=b.ops.length->b.ops.length<1000000000->pp (b,x,n,())=true
 hf:∀b x n,0<=n->n<=b.ops.length->b.ops.length<1000000000->ff (b,x,n,())=(bp (Vl b.ops x n),())
structure Y53(pp:IOp×Unit->Bool)(ff:IOp×Unit->Bool×Bool×Bool×Bool×Unit):Prop where
 hp:∀o,pp (o,())=true
 hf:∀o,ff (o,())=(decide (hX o),decide (hY o),decide (hK o),decide (evO o),())
def aoM{p3 f3 p2 f2 p4 f4 p1 f1 p5 f5 p6 f6}(U3:Y52 p3 f3)(U2:Y53 p2 f2)(U4:Y9 p4 f4)(U1:Y1 p1 f1)(U5:Y16 p5 f5)(U6:Y17 p6 f6)(b:Blk)(i:Int)(h0:0<=i)(h1:i<b.ops.length)(h2:b.ops.length<1000000000)(h3:1<=b.len/\b.len<=8):
  XC.F (p3,f3,p2,f2,p4,f4,p1,f1,p5,f5,p6,f6,()) (b,i,()) (λy=>y=(bp (nP b.ops b.len i ((b.ops).getD (i).toNat default)),())):=by
 have Qc:=λx=>U3.hp b x i h0 ah h2
 have Qd:=λx=>U3.hf b x i h0 ah h2
 dsimp only [XC,gm];simp (disch:=omega) only [RR,RB,U1.hp,U1.hf,U2.hp,U2.hf,Qc,Qd,U4.hp,U4.hf,U5.hp,U5.hf,U6.hp,U6.hf,jq];refine⟨ah,ah,λh=> ?_,λh=> ?_⟩
 .rw [aR (λg=>h g.kd)]
 .have h:=bM.1 h;refine Prod.ext ?_ rfl;dsimp only;rw [Bool.eq_iff_iff,aN,K4];generalize ((b.ops).getD (i).toNat default)=o at h ⊢;simp only [Bool.and_eq_true,Bool.or_eq_true,Bool.not_eq_true',decide_eq_true_eq,decide_eq_false_iff_not,aN,bM,h,true_and,and_true];have e:∀ {a:Int},(0<=a/\a<=b.len-1)↔(0<=a/\a<b.len):=λ{a}=>by omega
  have k:(bif decide (o.kind=1)then inB o.k 0 65535 else bif decide (o.kind=2)then inB o.k 0 3 else bif decide (o.kind=3)then inB o.k 1 5 else(decide (o.kind=8)&&inB o.k 0 3))=true↔(o.kind=1/\(0<=o.k/\o.k<=65535)\/(o.kind=2\/o.kind=8)/\(0<=o.k/\o.k<=3)\/o.kind=3/\(1<=o.k/\o.k<=5)):=by
   rcases(by omega:o.kind=1\/o.kind=2\/o.kind=3\/o.kind=8\/(o.kind≠1/\o.kind≠2/\o.kind≠3/\o.kind≠8))with c | c | c | c | ⟨c1,c2,c3,c4⟩
   .simp [c,inB]
   .simp [c,inB]
   .simp [c,inB]
   .simp [c,inB]
   .simp [c1,c2,c3,c4]
  rw [k];simp only [e,and_assoc]
def afd(b:Blk):XD.F () (b,()) (λy=>y=(decide (b.fin≠1),decide (3<=b.fin),decide (b.fin≠2),())):=by
 dsimp only [XD,gm];simp (disch:=omega) only [RR,RB];refine Prod.ext ?_ (Prod.ext rfl (Prod.ext ?_ rfl))<;>simp
def GJ{b:Blk}:zB b↔(1<=b.fin/\b.fin<=4)/\(b.fin≠1/\Vl b.ops b.x b.ops.length\/¬b.fin≠1/\b.x=0)/\(3<=b.fin/\Vl b.ops b.y b.ops.length\/¬3<=b.fin/\b.y=0)/\(b.fin≠2/\(0<=b.k/\b.k<=65535)\/¬b.fin≠2/\b.k=0):=by
 constructor
 .rintro⟨f,x1,x0,y1,y0,k1,k0⟩;refine⟨f,?_,?_,ah⟩
  .by_cases h:b.fin=1
   .exact Or.inr ⟨λg=>g h,x0 h⟩
   .exact Or.inl ⟨h,x1 h⟩
  .by_cases h:3<=b.fin
   .exact Or.inl ⟨h,y1 h⟩
   .exact Or.inr ⟨h,y0 ah⟩
 .rintro⟨f,x,y,k⟩;refine⟨f,λh=> ?_,λh=> ?_,λh=> ?_,λh=> ?_,λh=>by omega,λh=>by omega⟩
  .rcases x with x | x
   .exact x.2
   .exact absurd h x.1
  .rcases x with x | x
   .exact absurd h x.1
   .exact x.2
  .rcases y with y | y
   .exact y.2
   .exact absurd h y.1
  .rcases y with y | y
   .exact absurd y.1 ah
   .exact y.2
structure Y54(pp:Blk×Unit->Bool)(ff:Blk×Unit->Bool×Bool×Bool×Unit):Prop where
 hp:∀b,pp (b,())=true
 hf:∀b,ff (b,())=(decide (b.fin≠1),decide (3<=b.fin),decide (b.fin≠2),())
def aoN{p2 f2 p3 f3 p4 f4 p1 f1}(U2:Y54 p2 f2)(U3:Y52 p3 f3)(U4:Y9 p4 f4)(U1:Y1 p1 f1)(b:Blk)(h2:b.ops.length<1000000000):
  XE.F (p2,f2,p3,f3,p4,f4,p1,f1,()) (b,()) (λy=>y=(bp (zB b),())):=by
 have Qc:=λx=>U3.hp b x b.ops.length ah (Int.le_refl _) h2
 have Qd:=λx=>U3.hf b x b.ops.length ah (Int.le_refl _) h2
 dsimp only [XE,gm];simp (disch:=omega) only [RR,RB,U1.hp,U1.hf,U2.hp,U2.hf,Qc,Qd,U4.hp,U4.hf];refine Prod.ext ?_ rfl;dsimp only;rw [Bool.eq_iff_iff,aN,GJ];simp only [Bool.and_eq_true,Bool.or_eq_true,Bool.not_eq_true',decide_eq_true_eq,decide_eq_false_iff_not,aN,bM,and_assoc]
def aoO{p1 f1}{p2:Blk×Unit->Bool}{f2:Blk×Unit->Bool×Unit}(hp2:∀b,b.ops.length<1000000000->p2 (b,())=true)(hf2:∀b,b.ops.length<1000000000->f2 (b,())=(bp (zB b),())){p3:Blk×Int×Unit->Bool}{f3:Blk×Int×Unit->Bool×Unit}(hp3:∀(b:Blk) (i:Int),0<=i->i<b.ops.length->b.ops.length<1000000000->1<=b.len/\b.len<=8->p3 (b,i,())=true)(hf3:∀(b:Blk) (i:Int),0<=i->i<b.ops.length->b.ops.length<1000000000->1<=b.len/\b.len<=8->f3 (b,i,())=(bp (nP b.ops b.len i ((b.ops).getD (i).toNat default)),()))(U1:Y1 p1 f1)(b:Blk)(h2:b.ops.length<1000000000):
  XF.F (p2,f2,p3,f3,p1,f1,()) (b,()) (λy=>y=(bp (iK b),())):=by
 dsimp only [XF,gm];simp (disch:=omega) only [RR,RB,U1.hp,U1.hf];by_cases hl:1<=b.len/\b.len<=8
 .have hl':=bM.2 hl;simp (disch:=omega) only [RR,hl',bM,jq];refine⟨λh=> ?_,λh=> ?_⟩
  .rw [aR (λg=> ?_)];have g1:=g.pc;have g2:=g.sz;omega
  .refine ak (λ(y:Int×Int×Blk×Unit)=>y.1=b.ops.length/\y.2.2.1=b/\0<=y.2.1/\y.2.1<=b.ops.length/\All y.2.1 (λi=>nP b.ops b.len i ((b.ops).getD (i).toNat default))) (λy=>(b.ops.length-y.2.1).toNat) ⟨rfl,rfl,by simp,by simp,All.zero⟩ ?_;rintro⟨(n:Int),(i:Int),(b':Blk),⟨⟩⟩ hI;dsimp only at hI ⊢;obtain⟨rfl,rfl,h3,h4,h5⟩:=hI;simp (disch:=omega) only [RR,hp2 b' h2,hf2 b' h2];refine⟨λh6=>⟨hp3 b' i h3 h6 h2 hl,?_⟩,λh6=> ?_⟩
   .rw [hf3 b' i h3 h6 h2 hl];dsimp only;refine⟨λh7=> ?_,λh7=>⟨⟨ah,ah,h5.snoc (aN.1 h7)⟩,ah⟩⟩;rw [aR (λg=>fT.1 h7 (g.op i h3 h6))]
   .by_cases he:zB b'
    .rw [aU he,aU (show iK b' from⟨hl,ah,ah,λj j1 j2=>h5 j j1 ah,he⟩)]
    .rw [aR he,aR (λg=>he g.en)]
 .have hl':=jq.2 hl;simp (disch:=omega) only [RR,hl'];rw [aR (λg=>hl g.ln)];exact⟨rfl,λh=>h.1.1.elim⟩
def aiR{p1 f1}(U1:Y1 p1 f1)(k:Int):
  Nn.F (p1,f1,()) (k,()) (λy=>y=(decide ((1<=k/\k<=4)\/k=6),())):=by
 dsimp only [Nn,gm];simp (disch:=omega) only [RR,U1.hp,U1.hf];refine Prod.ext ?_ rfl;rw [Bool.eq_iff_iff];simp [inB]
def aiS{p1:Int×Unit->Bool}{f1:Int×Unit->Bool×Unit}(hp1:∀k,p1 (k,())=true)(hf1:∀k,f1 (k,())=(decide ((1<=k/\k<=4)\/k=6),()))(ops:List IOp)(x n:Int)(h1:n<=ops.length):
  Np.F (p1,f1,()) (ops,x,n,()) (λy=>y=(bp (Vl ops x n),())):=by
 dsimp only [Np,gm];simp (disch:=omega) only [RR,RB,hp1,hf1];refine⟨by simp only [Bool.and_eq_false_iff,decide_eq_false_iff_not];omega,by simp only [Bool.and_eq_false_iff,decide_eq_false_iff_not];omega,?_⟩;refine Prod.ext ?_ rfl;dsimp only;rw [Bool.eq_iff_iff,aN,Bool.and_eq_true,Bool.and_eq_true,decide_eq_true_eq,decide_eq_true_eq,decide_eq_true_eq,and_assoc];rfl
structure Y55(pp:List IOp×Int×Int×Unit->Bool)(ff:List IOp×Int×Int×Unit->Bool×Unit):Prop where
 hp:∀(ops:List IOp) (x n:Int),n<=ops.length->pp (ops,x,n,())=true
 hf:∀(ops:List IOp) (x n:Int),n<=ops.length->ff (ops,x,n,())=(bp (Vl ops x n),())
def aiT{p4 f4 p1 f1 p3 f3}(U4:Y9 p4 f4)(U1:Y1 p1 f1)(U3:Y55 p3 f3)(ops:List IOp)(i len:Int)(h0:0<=i)(h1:i<ops.length)(h3:1<=len/\len<=8):Nq.F (p4,f4,p1,f1,p3,f3,()) (ops,i,len,()) (λy=>y=(bp (nP ops len i ((ops).getD (i).toNat default)),())):=by
 have Qc:=λx=>U3.hp ops x i ah
 have Qd:=λx=>U3.hf ops x i ah
 have e:∀ {a:Int},(0<=a/\a<=len-1)↔(0<=a/\a<len):=λ{a}=>by omega
 dsimp only [Nq,gm];simp (disch:=omega) only [RR,RB,U1.hp,U1.hf,Qc,Qd,U4.hp,U4.hf];refine⟨ah,ah,?_⟩;rw [show bp (nP ops len i ((ops).getD (i).toNat default))=bp (_)from iU K4];generalize ((ops).getD (i).toNat default)=o;have go:∀ {c:Bool} {P:Prop},(c=true↔P)->(c,())=(bp P,()):=λ{c P} h=>Prod.ext (by dsimp only;rw [Bool.eq_iff_iff,aN];exact h) rfl
 refine⟨λc=> ?_,λc1=>⟨λc=> ?_,λc2=>⟨λc=> ?_,λc3=> ?_⟩⟩⟩
 .refine go ?_;simp only [Bool.and_eq_true,decide_eq_true_eq,aN,bM,c,hX,hY,hK,evO,e];simp [and_assoc]
 .refine go ?_;simp only [Bool.and_eq_true,decide_eq_true_eq,aN,bM,c,hX,hY,hK,evO,e];simp [and_assoc]
 .refine go ?_;simp only [Bool.and_eq_true,decide_eq_true_eq,aN,bM,c,hX,hY,hK,evO,e];simp [and_assoc]
 .by_cases c4:o.kind=4\/o.kind=7
  .have c5:o.kind≠8:=by omega
   rcases c4 with c | c<;>simp (disch:=omega) only [RR,c,Int.reduceEq]<;>(refine go ?_)<;>simp only [Bool.and_eq_true,decide_eq_true_eq,aN,bM,c,hX,hY,hK,evO,e]<;>simp [and_assoc]
  .by_cases c:o.kind=5
   .simp (disch:=omega) only [RR,c,Int.reduceEq];refine go ?_;simp only [Bool.and_eq_true,decide_eq_true_eq,aN,bM,c,hX,hY,hK,evO,e];simp [and_assoc]
   .by_cases c':o.kind=6
    .simp (disch:=omega) only [RR,c',Int.reduceEq];refine go ?_;simp only [Bool.and_eq_true,decide_eq_true_eq,aN,bM,c',hX,hY,hK,evO,e];simp [and_assoc]
    .by_cases c8:o.kind=8
     .simp (disch:=omega) only [RR,c8,Int.reduceEq];refine go ?_;simp only [Bool.and_eq_true,decide_eq_true_eq,aN,bM,c8,hX,hY,hK,evO,e];simp [and_assoc]
     .have n4:¬o.kind=4:=λh=>c4 (Or.inl h)
      have n7:¬o.kind=7:=λh=>c4 (Or.inr h)
      simp (disch:=omega) only [RR,n4,n7,c,c',c8];rw [aR (λh=>by have:=h.1;omega)]
def aiU{p4 f4 p3 f3}(U4:Y9 p4 f4)(U3:Y55 p3 f3)(b:Blk):Nr.F (p4,f4,p3,f3,()) (b,()) (λy=>y=(bp (zB b),())):=by
 have Qc:=λx=>U3.hp b.ops x b.ops.length (Int.le_refl _)
 have Qd:=λx=>U3.hf b.ops x b.ops.length (Int.le_refl _)
 dsimp only [Nr,gm];simp (disch:=omega) only [RR,RB,Qc,Qd,U4.hp,U4.hf];rw [show bp (zB b)=bp (_)from iU GJ];have go:∀ {c:Bool} {P:Prop},(c=true↔P)->(c,())=(bp P,()):=λ{c P} h=>Prod.ext (by dsimp only;rw [Bool.eq_iff_iff,aN];exact h) rfl
 refine⟨λc=> ?_,λc1=>⟨λc=> ?_,λc2=> ?_⟩⟩
 .refine go ?_;simp only [Bool.and_eq_true,decide_eq_true_eq,aN,bM,c];simp [and_assoc]
 .refine go ?_;simp only [Bool.and_eq_true,decide_eq_true_eq,aN,bM,c];simp [and_assoc]
 .by_cases c:b.fin=3
  .simp (disch:=omega) only [RR,c,Int.reduceEq];refine go ?_;simp only [Bool.and_eq_true,decide_eq_true_eq,aN,bM,c];simp [and_assoc]
  .by_cases c4:b.fin=4
   .simp (disch:=omega) only [RR,c4,Int.reduceEq];refine go ?_;simp only [Bool.and_eq_true,decide_eq_true_eq,aN,bM,c4];simp [and_assoc]
   .simp (disch:=omega) only [RR,c,c4];rw [aR (λh=>by have:=h.1;omega)]
def aiV{p1 f1}(U1:Y1 p1 f1){p2:Blk×Unit->Bool}{f2:Blk×Unit->Bool×Unit}(hp2:∀b,p2 (b,())=true)(hf2:∀b,f2 (b,())=(bp (zB b),())){p3:List IOp×Int×Int×Unit->Bool}{f3:List IOp×Int×Int×Unit->Bool×Unit}(hp3:∀(ops:List IOp) (i len:Int),0<=i->i<ops.length->1<=len/\len<=8->p3 (ops,i,len,())=true)(hf3:∀(ops:List IOp) (i len:Int),0<=i->i<ops.length->1<=len/\len<=8->f3 (ops,i,len,())=(bp (nP ops len i ((ops).getD (i).toNat default)),()))(b:Blk)(h2:b.ops.length<1000000000):
  Ns.F (p1,f1,p2,f2,p3,f3,()) (b,()) (λy=>y=(bp (iK b),())):=by
 dsimp only [Ns,gm];simp (disch:=omega) only [RR,RB,U1.hp,U1.hf];by_cases hl:1<=b.len/\b.len<=8
 .have hl':=bM.2 hl;simp (disch:=omega) only [RR,hl',bM,jq];refine⟨λh=> ?_,λh=> ?_⟩
  .rw [aR (λg=> ?_)];have g1:=g.pc;have g2:=g.sz;omega
  .refine ak (λ(y:Int×Blk×Unit)=>y.2.1=b/\0<=y.1/\y.1<=b.ops.length/\All y.1 (λi=>nP b.ops b.len i ((b.ops).getD (i).toNat default))) (λy=>(b.ops.length-y.1).toNat) ⟨rfl,by simp,by simp,All.zero⟩ ?_;rintro⟨(i:Int),(b':Blk),⟨⟩⟩ hI;dsimp only at hI ⊢;obtain⟨rfl,h3,h4,h5⟩:=hI;simp (disch:=omega) only [RR,hp2 b',hf2 b'];refine⟨λh6=>⟨hp3 b'.ops i b'.len h3 h6 hl,?_⟩,λh6=> ?_⟩
   .rw [hf3 b'.ops i b'.len h3 h6 hl];dsimp only;refine⟨λh7=> ?_,λh7=>⟨⟨ah,ah,h5.snoc (aN.1 h7)⟩,ah⟩⟩;rw [aR (λg=>fT.1 h7 (g.op i h3 h6))]
   .by_cases he:zB b'
    .rw [aU he,aU (show iK b' from⟨hl,ah,ah,λj j1 j2=>h5 j j1 ah,he⟩)]
    .rw [aR he,aR (λg=>he g.en)]
 .have hl':=jq.2 hl;simp (disch:=omega) only [RR,hl'];rw [aR (λg=>hl g.ln)];exact⟨rfl,λh=>h.1.1.elim⟩
def aoP{p4 f4}(U4:Y9 p4 f4)(r a b:Int):
  Yl.F (p4,f4,()) (r,a,b,()) (λy=>y=(inB a 0 65535&&inB b 0 65535&& (decide (r=1/\a=b\/r=2/\a<b)),())):=by
 dsimp only [Yl,gm];simp (disch:=omega) only [RR,U4.hp,U4.hf];refine Prod.ext ?_ rfl;rw [Bool.eq_iff_iff];simp
def aoQ{p1 f1}(U1:Y13 p1 f1)(a:List (List aj))(ha:ShP a):
  Yj.F (p1,f1,()) (a,()) (λy=>y=(a,())):=by
 have hlen:=ha.1;dsimp only [Yj,gm];refine ak (λ(y:List (List aj)×Int×Int×List (List aj)×Unit)=>y.1=a/\y.2.1=a.length/\y.2.2.2.1=a.take y.2.2.1.toNat/\0<=y.2.2.1/\y.2.2.1<=a.length) (λy=>(a.length-y.2.2.1).toNat) ⟨rfl,rfl,by simp,by simp,by simp⟩ ?_;rintro⟨(l:List (List aj)),(m:Int),(i:Int),(o:List (List aj)),⟨⟩⟩ hI;dsimp only at hI ⊢;obtain⟨rfl,rfl,rfl,h1,h2⟩:=hI;simp (disch:=omega) only [RR,U1.hp _ (ha.at _),U1.hf _ (ha.at _)];refine⟨λh4=>⟨ah,ah,?_,⟨bK h1 h4 rfl,ah,ah⟩,ah⟩,λh4=>by rw [List.take_of_length_le ah]⟩;have:=List.length_take_le' i.toNat l;simp only [List.length_cons,List.length_nil];omega
structure Y56(pp:List (List aj)×Unit->Bool)(ff:List (List aj)×Unit->List (List aj)×Unit):Prop where
 hp:∀a,ShP a->pp (a,())=true
 hf:∀a,ShP a->ff (a,())=(a,())
def aoR{p1 f1 p2 f2}(U1:Y13 p1 f1)(U2:Y56 p2 f2)(s:Sym)(hs:ShY s):
  Yk.F (p1,f1,p2,f2,()) (s,()) (λy=>y=(s.fin,s.k,s.events,s.regs,s.x,s.y,())):=by
 have hlen:=hs.e.1;dsimp only [Yk,gm];simp (disch:=omega) only [RR,RB,U1.hp _ hs.x,U1.hf _ hs.x,U1.hp _ hs.y,U1.hf _ hs.y,U2.hp _ hs.r,U2.hf _ hs.r];refine ak (λ(y:List Ev×Int×Int×Int×Int×Int×Int×List Ev×List (List aj)×List aj×List aj×Unit)=>y.1=s.events/\y.2.1=s.events.length/\y.2.2.2.2.2.1=s.fin/\y.2.2.2.2.2.2.1=s.k/\y.2.2.2.2.2.2.2.1=s.events.take y.2.2.1.toNat/\y.2.2.2.2.2.2.2.2.1=s.regs/\y.2.2.2.2.2.2.2.2.2.1=s.x/\y.2.2.2.2.2.2.2.2.2.2.1=s.y/\0<=y.2.2.1/\y.2.2.1<=s.events.length) (λy=>(s.events.length-y.2.2.1).toNat) ⟨rfl,rfl,rfl,rfl,by simp,rfl,rfl,rfl,by simp,by simp⟩ ?_;rintro⟨(l:List Ev),(m:Int),(i:Int),(q1:Int),(q2:Int),(q3:Int),(q4:Int),(o:List Ev),(r:List (List aj)),(u:List aj),(v:List aj),⟨⟩⟩ hI;dsimp only at hI ⊢;obtain⟨rfl,rfl,rfl,rfl,rfl,rfl,rfl,rfl,h1,h2⟩:=hI;have he:=hs.e.at i.toNat;simp (disch:=omega) only [RR,RB,U1.hp _ he.1,U1.hf _ he.1,U1.hp _ he.2.1,U1.hf _ he.2.1,U2.hp _ he.2.2,U2.hf _ he.2.2];refine⟨λh4=>⟨ah,ah,?_,⟨bK h1 h4 rfl,ah,ah⟩,ah⟩,λh4=>by rw [List.take_of_length_le ah]⟩;have:=List.length_take_le' i.toNat s.events;simp only [List.length_cons,List.length_nil];omega
def aoS{p1 f1}(U1:Y28 p1 f1){p2:List Atom×Atom×Unit->Bool}{f2:List Atom×Atom×Unit->List Atom×Int×Unit}(hp2:∀(t:List Atom) a,t.length<1000000000->ShA a->p2 (t,a,())=true)(hf2:∀(t:List Atom) a,t.length<1000000000->ShA a->f2 (t,a,())=((aT t a).1,(aT t a).2,()))(kd k:Int)(t:List Atom)(fl:Bool)(ht:t.length<1000000000):
  XY.F (p1,f1,p2,f2,()) (kd,k,t,fl,()) (λy=>y=if(aT t ⟨kd,k,[],[]⟩).2<0 then([],t,true,())else(dG (aT t ⟨kd,k,[],[]⟩).2,(aT t ⟨kd,k,[],[]⟩).1,fl,())):=by
 have sa:ShA ⟨kd,k,[],[]⟩:=⟨nD,nD⟩;dsimp only [XY,gm];simp (disch:=omega) only [RR,U1.hp,U1.hf,hp2 _ _ ht sa,hf2 _ _ ht sa];exact⟨λh=>by rw [if_pos h],λh=>by rw [if_neg h]⟩
theorem Df(t:List Atom)(n:Nat):rN t (n+1)=((aT (rN t n).1 ⟨1,n,[],[]⟩).1,(rN t n).2++ [dG (aT (rN t n).1 ⟨1,n,[],[]⟩).2]):=rfl
structure Y57(pp:Int×Int×List Atom×Bool×Unit->Bool)(ff:Int×Int×List Atom×Bool×Unit->List aj×List Atom×Bool×Unit):Prop where
 hp:∀kd k (t:List Atom) fl,t.length<1000000000->pp (kd,k,t,fl,())=true
 hf:∀kd k (t:List Atom) fl,t.length<1000000000->ff (kd,k,t,fl,())=if(aT t ⟨kd,k,[],[]⟩).2<0 then([],t,true,())else(dG (aT t ⟨kd,k,[],[]⟩).2,(aT t ⟨kd,k,[],[]⟩).1,fl,())
def aoT{p1 f1}(U1:Y57 p1 f1)(t:List Atom)(fl:Bool)(ht:aF t)(hl:t.length<=196):XZ.F (p1,f1,()) (t,fl,()) (λy=>y=((rN t 4).1,fl,(rN t 4).2,())):=by
 dsimp only [XZ,gm];refine ak (λ(y:Int×List Atom×Bool×List (List aj)×Unit)=>0<=y.1/\y.1<=4/\y.2.2.1=fl/\y.2.1=(rN t y.1.toNat).1/\y.2.2.2.1=(rN t y.1.toNat).2) (λy=>(4-y.1).toNat) ⟨by simp,by simp,rfl,rfl,rfl⟩ ?_;rintro⟨(i:Int),(u:List Atom),(g:Bool),(r:List (List aj)),⟨⟩⟩ hI;dsimp only at hI ⊢;obtain⟨h1,h2,rfl,rfl,rfl⟩:=hI;have ok:=Ch ht hl i.toNat ah;have l1:=ok.tl;have l2:=ok.r4;simp (disch:=omega) only [RR,U1.hp _ _ (rN t i.toNat).1 _ ah,U1.hf _ _ (rN t i.toNat).1 _ ah,List.length_cons,List.length_nil];refine⟨λh3=> ?_,λh3=> ?_⟩
 .have hp:=Ja ht hl (n:=i.toNat) ah;rw [show((i.toNat:Nat):Int)=i by omega]at hp;rw [if_neg ah];have e:(i+1).toNat=i.toNat+1:=by omega
  have e2:((i.toNat:Nat):Int)=i:=by omega
  refine⟨ah,⟨ah,ah,rfl,?_,?_⟩,ah⟩
  .rw [e,Df,e2]
  .rw [e,Df,e2]
 .rw [show i.toNat=4 by omega]
def aiW(a:List (List aj))(h0:0<a.length)(h1:a.length<1000000000):Pb.F () (a,()) (λy=>y=(a,a,())):=by
 dsimp only [Pb,gm];simp (disch:=omega) only [RR,List.length_nil];exact⟨ah,ah,rfl⟩
structure Y58(pp:List Atom×Bool×Unit->Bool)(ff:List Atom×Bool×Unit->List Atom×Bool×List (List aj)×Unit):Prop where
 hp:∀(t:List Atom) fl,aF t->t.length<=196->pp (t,fl,())=true
 hf:∀(t:List Atom) fl,aF t->t.length<=196->ff (t,fl,())=((rN t 4).1,fl,(rN t 4).2,())
def aoU{p2 f2 p1 f1}(U2:Y31 p2 f2)(U1:Y58 p1 f1):
  X5.F (p2,f2,p1,f1,()) () (λy=>y.1=t4):=by
 have s4:ShT t4:=Sk.1.sh;unfold t4 at s4 ⊢;dsimp only [X5,gm];simp (disch:=omega) only [RR,U1.hp [] false qB (by simp),U1.hf [] false qB (by simp),U2.hp _ s4,U2.hf _ s4]
structure Y59(pp:Int×Int×Int×Unit->Bool)(ff:Int×Int×Int×Unit->Bool×Unit):Prop where
 hp:∀r a b,pp (r,a,b,())=true
 hf:∀r a b,ff (r,a,b,())=(inB a 0 65535&&inB b 0 65535&& (decide (r=1/\a=b\/r=2/\a<b)),())
def aoV{p1 f1 p2 f2 p3 f3 p5 f5 p6 f6}(U1:Y27 p1 f1)(U2:Y11 p2 f2)(U3:Y8 p3 f3){p4:Sym×Unit->Bool}{f4:Sym×Unit->Int×Int×List Ev×List (List aj)×List aj×List aj×Unit}(hp4:∀s,ShY s->p4 (s,())=true)(hf4:∀s,ShY s->f4 (s,())=(s.fin,s.k,s.events,s.regs,s.x,s.y,()))(U5:Y14 p5 f5)(U6:Y59 p6 f6)(s:Sym)(n:Int)(hs:ShY s)(h0:0<=s.fin)(h1:s.fin<=4):Ym.F (p1,f1,p2,f2,p3,f3,p4,f4,p5,f5,p6,f6,()) (s,n,()) (λy=>y=(symEnd s n,())):=by
 dsimp only [Ym,gm];simp (disch:=omega) only [RR,RB,U1.hp _ hs.x,U1.hf _ hs.x,U1.hp _ hs.y,U1.hf _ hs.y,U2.hp _ hs.x,U2.hf _ hs.x,U2.hp _ hs.y,U2.hf _ hs.y,U3.hp _ _ hs.x,U3.hf _ _ hs.x,hp4 s hs,hf4 s hs,U5.hp _ _ hs.x,U5.hf _ _ hs.x,U6.hp,U6.hf];have xy:eZ s.x s.y=0↔s.x=s.y:=fK;have rx:(cB s.x).2=true->inB (cB s.x).1 0 65535=true:=λh=>bM.2 (rH h).2.2
 have ry:(cB s.y).2=true->inB (cB s.y).1 0 65535=true:=λh=>bM.2 (rH h).2.2
 unfold symEnd;refine⟨λh=> ?_,λh=>⟨λg=> ?_,λg=>⟨λk=> ?_,λk=>⟨λl=>⟨λm=> ?_,λm=> ?_⟩,λl=>⟨λm=> ?_,λm=> ?_⟩⟩⟩⟩⟩
 .rw [if_pos (by rw [gY,Bool.and_eq_false_iff];exact h)];rfl
 all_goals rw [if_neg (by rw [gY,h.1,h.2];simp)]
 .rw [if_pos g]
 all_goals rw [if_neg (show¬(s.fin=2/\(cB s.x).2=true) by
  rintro⟨a,b⟩;rw [decide_eq_true a,b]at g;cases g)]
 .rw [if_pos k]
 all_goals rw [if_neg (show¬(s.fin≠3/\s.fin≠4) by
  rintro⟨a,b⟩;rw [decide_eq_false a,decide_eq_false b]at k;cases k)]
 .rw [if_pos (by rw [<-xy];exact l),if_neg];rintro(⟨q1,q2⟩ | ⟨⟨q1,q2⟩,q3⟩)
  .have:=m.1;rw [decide_eq_true (xy.2 q1),decide_eq_true q2]at this;cases this
  .have:=m.2;rw [q1,q2,rx q1,ry q2,decide_eq_true ah]at this;cases this
 .rw [if_pos (by rw [<-xy];exact l),if_pos];rcases m with⟨q1,q2⟩ | ⟨q1,_,q3⟩
  .exact Or.inl ⟨xy.1 q1,q2⟩
  .exact Or.inr ⟨q1,ah⟩
 all_goals rw [if_neg (show¬(s.x=s.y\/(cB s.x).2=true/\(cB s.y).2=true) by
  rintro(q | ⟨q1,q2⟩)
  .exact l.1 (xy.2 q)
  .have:=l.2;rw [q1,q2]at this;cases this)]
 .rw [if_pos m]
 .rw [if_neg];rintro⟨a,b⟩;rw [decide_eq_true a,decide_eq_true b]at m;cases m
noncomputable def SW (t:List Atom) (b:Blk) (i:Nat):SS:=(b.ops.take i).foldl stp (s0 t)
structure At(t:List Atom)(b:Blk)(i:Nat)(ld inn:Int)(tb:List Atom)(V:List (List aj))(ev:List Ev)(rg:List (List aj)):Prop where
 ld:ld=(SW t b i).ld
 inn:inn=(SW t b i).inn
 tb:tb=(SW t b i).t
 V:V=(SW t b i).vals++List.replicate (b.ops.length-i) []
 ev:ev=(SW t b i).evs
 rg:rg=(SW t b i).regs
def At.asU{t:List Atom}{b:Blk}{i:Nat}{ld inn:Int}{tb:List Atom}{V:List (List aj)}{ev:List Ev}{rg:List (List aj)}(h:At t b i ld inn tb V ev rg)(hv:(SW t b i).vals.length=i)(hi:i<=b.ops.length):V.length=b.ops.length:=by
 rw [h.V,List.length_append,List.length_replicate,hv];omega
def Sn(t:List Atom):∀(l:List IOp) (s:SS),(l.foldl stp s).evs.length<=s.evs.length+l.length
 | [],s=>Nat.le_refl _
 | o::r,s=>by
  rw [List.foldl_cons,List.length_cons];have h1:=Sn t r (stp s o);have h2:(stp s o).evs.length<=s.evs.length+1:=by
   show(nE s o).length<=_;unfold nE;split
   .rw [List.length_append];exact Nat.le_refl _
   .omega
  omega
theorem ZG{t:List Atom}{b:Blk}(i:Nat)(hi:i<=b.ops.length):(SW t b i).evs.length<=i:=by
 have:=Sn t (b.ops.take i) (s0 t);rw [List.length_take,Nat.min_eq_left hi]at this;show((b.ops.take i).foldl stp (s0 t)).evs.length<=i;have e:(s0 t).evs.length=0:=rfl;omega
def Sq{t:List Atom}{b:Blk}{i:Nat}(hi:i<b.ops.length):SW t b (i+1)=stp (SW t b i) (b.ops.getD i default):=by
 unfold SW;rw [Qb _ _ hi,getD_lt hi]
def At.next{t:List Atom}{b:Blk}{i:Nat}{ld inn:Int}{tb:List Atom}{V:List (List aj)}{ev:List Ev}{rg:List (List aj)}(h:At t b i ld inn tb V ev rg)(hv:(SW t b i).vals.length=i)(hi:i<b.ops.length){o:IOp}(ho:b.ops.getD i default=o)
  {ld' ZH:Int} {tb':List Atom} {V':List (List aj)} {ev':List Ev} {rg':List (List aj)} (h1:ld'=if o.kind=4 then ld+1 else ld) (h2:ZH=if o.kind=6 then inn+1 else inn) (h3:tb'=nT (SW t b i) o) (h4:V'=V.set i (nV (SW t b i) o)) (h5:ev'=nE (SW t b i) o) (h6:rg'=nR (SW t b i) o):At t b (i+1) ld' ZH tb' V' ev' rg':=by
 have e:=Sq (t:=t) hi;rw [ho]at e;refine⟨?_,?_,?_,?_,?_,?_⟩<;>rw [e]
 .rw [h1,h.ld];rfl
 .rw [h2,h.inn];rfl
 .exact h3
 .rw [h4,h.V];show _=((SW t b i).vals++ [nV (SW t b i) o])++_;rw [List.set_append_right _ _ ah,hv,Nat.sub_self,show b.ops.length-i=(b.ops.length- (i+1))+1 by omega,List.replicate_succ,List.set_cons_zero,List.append_assoc];rfl
 .exact h5
 .exact h6
structure Y60(pp:Blk×Unit->Bool)(ff:Blk×Unit->Bool×Unit):Prop where
 hp:∀b,b.ops.length<1000000000->pp (b,())=true
 hf:∀b,b.ops.length<1000000000->ff (b,())=(bp (iK b),())
structure Y61(pp:IOp×Unit->Bool)(ff:IOp×Unit->Bool×Unit):Prop where
 hp:∀o,pp (o,())=true
 hf:∀o,ff (o,())=(decide (evO o),())
structure Y62(pp:Sym×Int×Unit->Bool)(ff:Sym×Int×Unit->Sym×Unit):Prop where
 hp:∀s n,ShY s->0<=s.fin->s.fin<=4->pp (s,n,())=true
 hf:∀s n,ShY s->0<=s.fin->s.fin<=4->ff (s,n,())=(symEnd s n,())
set_option maxHeartbeats 1000000 in
theorem aoW{p1 f1 p2 f2 p3 f3 p4 f4 p5 f5 p6 f6 p7 f7 p8 f8 p9 f9 p10 f10 p11 f11}(U1:Y54 p1 f1)(U2:Y60 p2 f2)(U3:Y61 p3 f3)(U4:Y53 p4 f4)(U5:Y22 p5 f5)(U6:Y62 p6 f6)(U7:Y29 p7 f7)(U8:Y31 p8 f8)(U9:Y30 p9 f9)(U10:Y57 p10 f10)(U11:Y58 p11 f11){p12:List (List aj)×Unit->Bool}{f12:List (List aj)×Unit->List (List aj)×List (List aj)×Unit}(Qe:∀a:List (List aj),0<a.length->a.length<1000000000->p12 (a,())=true)(Qf:∀a:List (List aj),0<a.length->a.length<1000000000->f12 (a,())=(a,a,()))(t:List Atom)(b:Blk)(ht:ShT t)(hb:b.ops.length<1000000000):Yn.F (p1,f1,p2,f2,p3,f3,p4,f4,p5,f5,p6,f6,p7,f7,p8,f8,p9,f9,p10,f10,p11,f11,p12,f12,()) (t,b,()) (λy=>y=((bP t b).1,(bP t b).2,())):=by
 obtain⟨hp1,hf1⟩:=U1;obtain⟨hp2,hf2⟩:=U2;obtain⟨hp3,hf3⟩:=U3;obtain⟨hp4,hf4⟩:=U4;obtain⟨hp5,hf5⟩:=U5;obtain⟨hp6,hf6⟩:=U6;obtain⟨hp7,hf7⟩:=U7;obtain⟨hp8,hf8⟩:=U8;obtain⟨hp9,hf9⟩:=U9;obtain⟨adR,aiX⟩:=U10;obtain⟨adS,adT⟩:=U11;have hlt:=ht.1;dsimp only [Yn,gm];simp (disch:=omega) only [RR,RB,hp7 t ht,hf7 t ht,hp2 b hb,hf2 b hb];by_cases c:aF t/\t.length<=100/\iK b
 case neg=>
  refine⟨λ_=> ?_,λh=> ?_⟩
  .unfold bP;rw [aR c];rfl
  .exact absurd ⟨aN.1 h.1.1,ah,aN.1 h.2⟩ c
 obtain⟨c1,c2,c3⟩:=c;simp (disch:=omega) only [RR,aU c1,aU c3,adS t false c1 ah,adT t false c1 ah];have sz:=c3.sz;have hop:=c3.op;have hk3:=c3.k3;have i0:=GH c1 ah;have siw:∀j:Nat,j<=b.ops.length->SI (t.length+4) j (SW t b j):=λj hj=>by
  have:=(uS (b.ops.take j) 0 (s0 t) i0 (λo ho=>hk3 o (List.mem_of_mem_take ho)) (by rw [List.length_take];omega) (by rw [List.length_take];omega)).1;rw [List.length_take,Nat.min_eq_left hj,Nat.zero_add]at this;exact this
 refine⟨λh=>absurd h ah,λ_=>⟨ah,ah,?_⟩⟩
 refine ak (λ(y:Int×Int×List IOp×Int×Int×Blk×Int×Int×List Atom×Bool×Int×Int×List (List aj)×List Ev×List (List aj)×Unit)=>y.2.2.2.2.2.1=b/\y.2.2.1=b.ops/\y.2.2.2.1=b.ops.length/\y.2.2.2.2.2.2.2.2.2.1=false/\y.2.2.2.2.2.2.2.2.2.2.1=b.fin/\y.2.2.2.2.2.2.2.2.2.2.2.1=b.k/\
   0<=y.2.2.2.2.1/\y.2.2.2.2.1<=b.ops.length/\At t b y.2.2.2.2.1.toNat y.1 y.2.1 y.2.2.2.2.2.2.2.2.1 y.2.2.2.2.2.2.2.2.2.2.2.2.1 y.2.2.2.2.2.2.2.2.2.2.2.2.2.1 y.2.2.2.2.2.2.2.2.2.2.2.2.2.2.1) (λy=>(b.ops.length-y.2.2.2.2.1).toNat)
  ⟨rfl,rfl,rfl,rfl,rfl,rfl,by simp,by simp,⟨rfl,rfl,rfl,rfl,rfl,rfl⟩⟩ ?_
 rintro⟨(ld:Int),(inn:Int),(ops:List IOp),(n:Int),(i:Int),(b':Blk),(z1:Int),(z2:Int),(tb:List Atom),(fl:Bool),(fin:Int),(kk:Int),(V:List (List aj)),(ev:List Ev),(rg:List (List aj)),⟨⟩⟩ hI;dsimp only at hI ⊢;obtain⟨e1,e2,e3,e4,e5,e6,h1,h2,hA⟩:=hI;subst e1 e2 e3 e4 e5 e6;have hl:V.length=b'.ops.length:=hA.asU (siw i.toNat ah).vl ah;have si:=siw i.toNat ah;obtain⟨a1,a2,a3,a4,a5,a6⟩:=hA;have tl:tb.length<1000000000:=by rw [a3];have:=si.tl;omega
 have r4:rg.length=4:=by rw [a6];exact si.r4
 have evl:ev.length<=i.toNat:=by rw [a5];exact ZG i.toNat ah
 by_cases h7:i<b'.ops.length
 case neg=>
  have en:=c3.en;have hf:=en.f;have hpc:=c3.pc;have hln:=c3.ln;have ein:i.toNat=b'.ops.length:=by omega
  have eS:SW t b' i.toNat=gQ t b':=by unfold SW gQ;rw [ein,List.take_of_length_le (Nat.le_refl _)]
  rw [eS]at a1 a2 a3 a4 a5 a6 si;have eV:V=(gQ t b').vals:=by rw [a4,ein,Nat.sub_self];simp
  clear a4
  have pk:=Jd (b:=b') si;have eR:=rM c1 c2 c3;have sh:ShY (zC b' (gQ t b')):=by
   have i0:=GH c1 ah;have hs:=Jc b'.ops 0 (s0 t) i0 hk3 ah ah ⟨by simp [s0],λe he=>absurd he (by simp [s0])⟩;exact⟨⟨by have:=hs.1;show(b'.ops.foldl stp (s0 t)).evs.length<_;omega,hs.2⟩,si.regs,pk.1.sh,pk.2.sh⟩
  have st:=si.tok.sh;have q6:=hp6 (zC b' (gQ t b')) (b'.pc+b'.len) sh (by show 0<=b'.fin;omega) hf.2;have r6:=hf6 (zC b' (gQ t b')) (b'.pc+b'.len) sh (by show 0<=b'.fin;omega) hf.2;subst a1 a2 a3 a5 a6 eV;have x1:=en.x1;have y1:=en.y1;have sl:=si.vl;have E:zC b' (gQ t b')=⟨(gQ t b').evs,(gQ t b').regs,b'.fin,if b'.fin=1 then []else(((gQ t b').vals).getD (b'.x).toNat default),if 3<=b'.fin then(((gQ t b').vals).getD (b'.y).toNat default)else [],b'.k⟩:=rfl;rw [E]at q6 r6;rcases(by omega:b'.fin=1\/b'.fin=2\/3<=b'.fin)with c | c | c
  .have n2:¬3<=b'.fin:=by omega
   rw [if_pos c,if_neg n2]at q6 r6;simp (disch:=omega) only [RR,RB,h7,hp1,hf1,decide_eq_false n2,c,ne_eq,not_true_eq_false,decide_false,hp8 _ st,hf8 _ st];rw [c]at q6 r6;rw [eR,E,if_pos c,if_neg n2,c];exact⟨λh=>absurd h ah,λ_=>⟨q6,by rw [r6]⟩⟩
  .have n1:b'.fin≠1:=by omega
   have n2:¬3<=b'.fin:=by omega
   obtain⟨v1,v2,_⟩:=x1 n1;rw [if_neg n1,if_neg n2]at q6 r6;simp (disch:=omega) only [RR,RB,h7,hp1,hf1,decide_eq_true n1,decide_eq_false n2,hp8 _ st,hf8 _ st];rw [eR,E,if_neg n1,if_neg n2];exact⟨v1,ah,v1,ah,q6,by rw [r6]⟩
  .have n1:b'.fin≠1:=by omega
   obtain⟨v1,v2,_⟩:=x1 n1;obtain⟨w1,w2,_⟩:=y1 c;rw [if_neg n1,if_pos c]at q6 r6;simp (disch:=omega) only [RR,RB,h7,hp1,hf1,decide_eq_true n1,decide_eq_true c,hp8 _ st,hf8 _ st];rw [eR,E,if_neg n1,if_pos c];exact⟨v1,ah,v1,ah,w1,ah,w1,ah,q6,by rw [r6]⟩
 have hok:=hop i h1 h7;have nxt:=λ{ld' ZH:Int} {tb':List Atom} {V':List (List aj)} {ev':List Ev} {rg':List (List aj)}=>At.next (t:=t) (b:=b') (i:=i.toNat) (o:=((b'.ops).getD (i).toNat default)) ⟨a1,a2,a3,a4,a5,a6⟩ si.vl ah rfl (ld':=ld') (ZH:=ZH) (tb':=tb') (V':=V') (ev':=ev') (rg':=rg')
 have ei:(i+1).toNat=i.toNat+1:=by omega
 have vx:∀j:Int,0<=j->j<i->((V).getD (j).toNat default)=(((SW t b' i.toNat).vals).getD (j).toNat default):=λj j1 j2=>by
  have:=si.vl;rw [a4,getD_lt (by rw [List.length_append];omega),getD_lt ah,List.getElem_append_left]
 have ex:hX ((b'.ops).getD (i).toNat default)->((V).getD ((((b'.ops).getD (i).toNat default)).x).toNat default)=xOf (SW t b' i.toNat) ((b'.ops).getD (i).toNat default):=λh=>by
  unfold xOf;rw [if_pos h];exact vx _ (hok.x1 h).1 (hok.x1 h).2.1
 have ey:hY ((b'.ops).getD (i).toNat default)->((V).getD ((((b'.ops).getD (i).toNat default)).y).toNat default)=yOf (SW t b' i.toNat) ((b'.ops).getD (i).toNat default):=λh=>by
  unfold yOf;rw [if_pos h];exact vx _ (hok.y1 h).1 (hok.y1 h).2.1
 have v0:V.set i.toNat []=V:=by
  have:=si.vl;rw [a4,List.set_append_right _ _ ah,this,Nat.sub_self,show b'.ops.length-i.toNat=(b'.ops.length- (i.toNat+1))+1 by omega,List.replicate_succ,List.set_cons_zero]
 obtain⟨sn,so⟩:=uR (o:=((b'.ops).getD (i).toNat default)) si hok.k3 ah ah;have gl:=si.ld;have gi:=si.inn;have shx:=(si.x ((b'.ops).getD (i).toNat default)).1.sh;have shy:=(si.y ((b'.ops).getD (i).toNat default)).1.sh;generalize hs:SW t b' i.toNat=s at*;generalize ho:((b'.ops).getD (i).toNat default)=o at*;have kd:=hok.kd;subst a1 a2 a3 a5 a6;have L0:o.kind≠4->s.ld=if o.kind=4 then s.ld+1 else s.ld:=λh=>by rw [if_neg h]
 have I0:o.kind≠6->s.inn=if o.kind=6 then s.inn+1 else s.inn:=λh=>by rw [if_neg h]
 have T0:o.kind≠3->o.kind≠4->o.kind≠6->s.t=nT s o:=λh3 h4 h6=>by unfold nT;rw [if_neg h3,if_neg ah]
 have R0:o.kind≠8->s.regs=nR s o:=λh=>by unfold nR;rw [if_neg h]
 have E0:¬evO o->s.evs=nE s o:=λh=>by unfold nE;rw [if_neg h]
 have V0:o.kind=5\/o.kind=7\/o.kind=8->V=V.set i.toNat (nV s o):=λh=>by
  rw [show nV s o=[] by unfold nV;rw [if_neg ah,if_neg ah,if_neg ah,if_neg ah],v0]
 have P0:∀kd k,0<=(aT s.t ⟨kd,k,[],[]⟩).2->f10 (kd,k,s.t,false,())=(dG (aT s.t ⟨kd,k,[],[]⟩).2,(aT s.t ⟨kd,k,[],[]⟩).1,false,()):=λkd k h=>by
  rw [aiX _ _ _ _ tl,if_neg ah]
 have y0:¬hY o->yOf s o=[]:=λh=>by unfold yOf;rw [if_neg h]
 have x0:¬hX o->xOf s o=[]:=λh=>by unfold xOf;rw [if_neg h]
 rcases(by omega:o.kind=1\/o.kind=2\/o.kind=3\/o.kind=4\/o.kind=5\/o.kind=6\/o.kind=7\/o.kind=8)with c | c | c | c | c | c | c | c
 .have dX:decide (hX o)=false:=decide_eq_false (by unfold hX;omega);have dY:decide (hY o)=false:=decide_eq_false (by unfold hY;omega);have dE:decide (evO o)=false:=decide_eq_false (by unfold evO;omega);have N:At t b' (i.toNat+1) s.ld s.inn s.t (V.set i.toNat (bS o.k)) s.evs s.regs:=nxt (L0 ah) (I0 ah) (T0 ah ah ah) (by unfold nV;rw [if_pos c]) (E0 (by unfold evO;omega)) (R0 ah);simp (disch:=omega) only [RR,RB,ho,h7,hp4,hf4,hp3,hf3,dX,dY,dE,c,Int.reduceEq,List.length_cons,List.length_nil,hp5,hf5]
  repeat' apply And.intro
  all_goals first | omega | (rw [ei];exact N)
 .have dX:decide (hX o)=false:=decide_eq_false (by unfold hX;omega);have dY:decide (hY o)=false:=decide_eq_false (by unfold hY;omega);have dE:decide (evO o)=false:=decide_eq_false (by unfold evO;omega);have k2:=hok.k2 (Or.inl c);have N:At t b' (i.toNat+1) s.ld s.inn s.t (V.set i.toNat ((s.regs).getD (o.k).toNat default)) s.evs s.regs:=nxt (L0 ah) (I0 ah) (T0 ah ah ah) (by unfold nV;rw [if_neg ah,if_pos c]) (E0 (by unfold evO;omega)) (R0 ah);simp (disch:=omega) only [RR,RB,ho,h7,hp4,hf4,hp3,hf3,dX,dY,dE,c,Int.reduceEq,List.length_cons,List.length_nil,r4]
  repeat' apply And.intro
  all_goals first | omega | (rw [ei];exact N)
 .have dX:decide (hX o)=true:=decide_eq_true (by unfold hX;omega);have dY:decide (hY o)=true:=decide_eq_true (by unfold hY;omega);have dE:decide (evO o)=false:=decide_eq_false (by unfold evO;omega);have v1:=hok.x1 (by unfold hX;omega);have v2:=hok.y1 (by unfold hY;omega);have u1:=v1.2.1;have u2:=v2.2.1;have w1:=v1.1;have w2:=v2.1;obtain⟨d1,d2,d3⟩:=hf9 s.t o.k _ _ tl shx shy;have d4:=(so.d c).ok;have N:At t b' (i.toNat+1) s.ld s.inn (tDo s.t o.k (xOf s o) (yOf s o)).1 (V.set i.toNat (tDo s.t o.k (xOf s o) (yOf s o)).2) s.evs s.regs:=nxt (L0 ah) (I0 ah) (by unfold nT;rw [if_pos c]) (by unfold nV;rw [if_neg ah,if_neg ah,if_pos c]) (E0 (by unfold evO;omega)) (R0 ah);simp (disch:=omega) only [RR,RB,ho,h7,hp4,hf4,hp3,hf3,dX,dY,dE,c,Int.reduceEq,List.length_cons,List.length_nil,ex (by unfold hX;omega),ey (by unfold hY;omega),hp9 s.t o.k _ _ tl shx shy,d1,d2,d3,d4]
  repeat' apply And.intro
  all_goals first | omega | (rw [ei];exact N)
 .have dX:decide (hX o)=true:=decide_eq_true (by unfold hX;omega);have dY:decide (hY o)=false:=decide_eq_false (by unfold hY;omega);have dE:decide (evO o)=true:=decide_eq_true (by unfold evO;omega);have v1:=hok.x1 (by unfold hX;omega);have u1:=v1.2.1;have w1:=v1.1;have ea:aOf s o=⟨2,s.ld,[],[]⟩:=by unfold aOf;rw [if_pos c]
  have pp:=so.p (Or.inl c);rw [ea]at pp;have N:At t b' (i.toNat+1) (s.ld+1) s.inn (aT s.t ⟨2,s.ld,[],[]⟩).1 (V.set i.toNat (dG (aT s.t ⟨2,s.ld,[],[]⟩).2)) (s.evs++ [⟨4,o.at_,xOf s o,[],s.regs⟩]) s.regs:=nxt (by rw [if_pos c]) (I0 ah) (by unfold nT;rw [if_neg ah,if_pos (Or.inl c),ea]) (by unfold nV;rw [if_neg ah,if_neg ah,if_neg ah,if_pos (Or.inl c),ea]) (by unfold nE;rw [if_pos (by unfold evO;omega),if_pos (Or.inl c),c,y0 (by unfold hY;omega)]) (R0 ah);simp (disch:=omega) only [RR,RB,ho,h7,hp4,hf4,hp3,hf3,dX,dY,dE,c,Int.reduceEq,List.length_cons,List.length_nil,ex (by unfold hX;omega),Qe s.regs ah ah,Qf s.regs ah ah,adR 2 s.ld s.t false tl,P0 2 s.ld pp]
  repeat' apply And.intro
  all_goals first | omega | (rw [ei];exact N)
 .have dX:decide (hX o)=true:=decide_eq_true (by unfold hX;omega);have dY:decide (hY o)=true:=decide_eq_true (by unfold hY;omega);have dE:decide (evO o)=true:=decide_eq_true (by unfold evO;omega);have v1:=hok.x1 (by unfold hX;omega);have v2:=hok.y1 (by unfold hY;omega);have u1:=v1.2.1;have u2:=v2.2.1;have w1:=v1.1;have w2:=v2.1;have N:At t b' (i.toNat+1) s.ld s.inn s.t V (s.evs++ [⟨5,o.at_,xOf s o,yOf s o,s.regs⟩]) s.regs:=nxt (L0 ah) (I0 ah) (T0 ah ah ah) (V0 ah) (by unfold nE;rw [if_pos (by unfold evO;omega),if_pos (Or.inr c),c]) (R0 ah);simp (disch:=omega) only [RR,RB,ho,h7,hp4,hf4,hp3,hf3,dX,dY,dE,c,Int.reduceEq,List.length_cons,List.length_nil,ex (by unfold hX;omega),ey (by unfold hY;omega),Qe s.regs ah ah,Qf s.regs ah ah]
  repeat' apply And.intro
  all_goals first | omega | (rw [ei];exact N)
 .have dX:decide (hX o)=false:=decide_eq_false (by unfold hX;omega);have dY:decide (hY o)=false:=decide_eq_false (by unfold hY;omega);have dE:decide (evO o)=true:=decide_eq_true (by unfold evO;omega);have ea:aOf s o=⟨3,s.inn,[],[]⟩:=by unfold aOf;rw [if_neg ah]
  have pp:=so.p (Or.inr c);rw [ea]at pp;have N:At t b' (i.toNat+1) s.ld (s.inn+1) (aT s.t ⟨3,s.inn,[],[]⟩).1 (V.set i.toNat (dG (aT s.t ⟨3,s.inn,[],[]⟩).2)) (s.evs++ [⟨6,o.at_,[],[],[]⟩]) s.regs:=nxt (L0 ah) (by rw [if_pos c]) (by unfold nT;rw [if_neg ah,if_pos (Or.inr c),ea]) (by unfold nV;rw [if_neg ah,if_neg ah,if_neg ah,if_pos (Or.inr c),ea]) (by unfold nE;rw [if_pos (by unfold evO;omega),if_neg ah,c,x0 (by unfold hX;omega),y0 (by unfold hY;omega)]) (R0 ah);simp (disch:=omega) only [RR,RB,ho,h7,hp4,hf4,hp3,hf3,dX,dY,dE,c,Int.reduceEq,List.length_cons,List.length_nil,adR 3 s.inn s.t false tl,P0 3 s.inn pp]
  repeat' apply And.intro
  all_goals first | omega | (rw [ei];exact N)
 .have dX:decide (hX o)=true:=decide_eq_true (by unfold hX;omega);have dY:decide (hY o)=false:=decide_eq_false (by unfold hY;omega);have dE:decide (evO o)=true:=decide_eq_true (by unfold evO;omega);have v1:=hok.x1 (by unfold hX;omega);have u1:=v1.2.1;have w1:=v1.1;have N:At t b' (i.toNat+1) s.ld s.inn s.t V (s.evs++ [⟨7,o.at_,xOf s o,[],[]⟩]) s.regs:=nxt (L0 ah) (I0 ah) (T0 ah ah ah) (V0 ah) (by unfold nE;rw [if_pos (by unfold evO;omega),if_neg ah,c,y0 (by unfold hY;omega)]) (R0 ah);simp (disch:=omega) only [RR,RB,ho,h7,hp4,hf4,hp3,hf3,dX,dY,dE,c,Int.reduceEq,List.length_cons,List.length_nil,ex (by unfold hX;omega)]
  repeat' apply And.intro
  all_goals first | omega | (rw [ei];exact N)
 .have dX:decide (hX o)=true:=decide_eq_true (by unfold hX;omega);have dY:decide (hY o)=false:=decide_eq_false (by unfold hY;omega);have dE:decide (evO o)=false:=decide_eq_false (by unfold evO;omega);have v1:=hok.x1 (by unfold hX;omega);have u1:=v1.2.1;have w1:=v1.1;have k2:=hok.k2 (Or.inr c);have N:At t b' (i.toNat+1) s.ld s.inn s.t V s.evs (s.regs.set o.k.toNat (xOf s o)):=nxt (L0 ah) (I0 ah) (T0 ah ah ah) (V0 ah) (E0 (by unfold evO;omega)) (by unfold nR;rw [if_pos c]);simp (disch:=omega) only [RR,RB,ho,h7,hp4,hf4,hp3,hf3,dX,dY,dE,c,Int.reduceEq,List.length_cons,List.length_nil,ex (by unfold hX;omega),r4]
  repeat' apply And.intro
  all_goals first | omega | (rw [ei];exact N)
structure Y63(pp:Ins×Unit->Bool)(ff:Ins×Unit->Bool×Unit):Prop where
 hp:∀i,pp (i,())=true
structure Y64(pp:Int×Unit->Bool)(ff:Int×Unit->Bool×Unit):Prop where
 hp:∀i,pp (i,())=true
 hf:∀i,ff (i,())=(bp (11<=i/\i<=13),())
structure Y65(pp:Int×Int×Int×Int×Int×Int×IOp×List IOp×Unit->Bool)(ff:Int×Int×Int×Int×Int×Int×IOp×List IOp×Unit->Int×Int×Int×Int×Int×Int×Int×List IOp×Unit):Prop where
 hp:∀a1 a2 a3 a4 a5 a6 o ops,(ops.length:Int)<1000000->pp (a1,a2,a3,a4,a5,a6,o,ops,())=true
 hf:∀a1 a2 a3 a4 a5 a6 o ops,(ops.length:Int)<1000000->((ff (a1,a2,a3,a4,a5,a6,o,ops,())).2.2.2.2.2.2.2.1.length:Int)=ops.length+1
structure Y66(pp:Int×Int×Int×Int×Int×Int×Int×List IOp×Unit->Bool)(ff:Int×Int×Int×Int×Int×Int×Int×List IOp×Unit->Int×Int×Int×Int×Int×Int×Int×List IOp×Unit):Prop where
 hp:∀a1 a2 a3 a4 a5 a6 k ops,(ops.length:Int)<1000000->pp (a1,a2,a3,a4,a5,a6,k,ops,())=true
 hf:∀a1 a2 a3 a4 a5 a6 k ops,(ops.length:Int)<1000000->((ff (a1,a2,a3,a4,a5,a6,k,ops,())).2.2.2.2.2.2.2.1.length:Int)=ops.length+1
structure Y67(pp:Int×Int×Int×Int×Int×Int×Int×Int×IOp×List IOp×Unit->Bool)(ff:Int×Int×Int×Int×Int×Int×Int×Int×IOp×List IOp×Unit->Int×Int×Int×Int×Int×Int×Int×List IOp×Unit):Prop where
 hp:∀a1 a2 a3 a4 a5 a6 k a o ops,(ops.length:Int)<999000->pp (a1,a2,a3,a4,a5,a6,k,a,o,ops,())=true
 hf:∀a1 a2 a3 a4 a5 a6 k a o ops,(ops.length:Int)<999000->((ff (a1,a2,a3,a4,a5,a6,k,a,o,ops,())).2.2.2.2.2.2.2.1.length:Int)=ops.length+3
structure Y68(pp:Int×Int×Int×Int×Int×Int×Int×Int×List IOp×Unit->Bool)(ff:Int×Int×Int×Int×Int×Int×Int×Int×List IOp×Unit->Int×Int×Int×Int×Int×Int×List IOp×Unit):Prop where
 hp:∀a1 a2 a3 a4 a5 a6 k x ops,(ops.length:Int)<1000000->pp (a1,a2,a3,a4,a5,a6,k,x,ops,())=true
 hf:∀a1 a2 a3 a4 a5 a6 k x ops,(ops.length:Int)<1000000->((ff (a1,a2,a3,a4,a5,a6,k,x,ops,())).2.2.2.2.2.2.1.length:Int)=ops.length+1
def KB(l:List Ins):Prop:=∀i∈l,i.k<1000
def KB.at{l:List Ins}(h:KB l)(n:Nat):(l.getD n default).k<1000:=by
 by_cases h1:n<l.length
 .rw [getD_lt h1];exact h _ (List.getElem_mem _)
 .simp only [List.getD,List.getElem?_eq_none (by omega:l.length<=n)];decide
structure Y69(pp:Int×List Ins×Unit->Bool)(ff:Int×List Ins×Unit->Bool×Unit):Prop where
 hp:∀pc l,(l.length:Int)<1000->pp (pc,l,())=true
structure InD(m:Int)(b:List Int)(p:Int)(y:Int×Int×Int×Int×List Int×Int×Unit):Prop where
 b:y.2.2.2.2.1=b
 lo:p<=y.2.2.2.2.2.1
 hi:y.2.2.2.2.2.1<=p+m
 k:0<=y.2.2.2.1/\y.2.2.2.1<=255
structure Y70(pp:List Int×Int×Unit->Bool)(ff:List Int×Int×Unit->Int×Int×Int×Int×List Int×Int×Unit):Prop where
 hp:∀b p,Bt b->0<=p->p<900000000->pp (b,p,())=true
 hf:∀b p,Bt b->0<=p->p<900000000->InD 20 b p (ff (b,p,()))
structure LiD(b:List Int)(p:Int)(y:List Int×Int×List Ins×Unit):Prop where
 b:y.1=b
 lo:p<=y.2.1
 hi:y.2.1<=p+1000
 len:(y.2.2.1.length:Int)<=20
 k:KB y.2.2.1
 l1:1<=y.2.2.1.length
def KB.app{l:List Ins}{i:Ins}(h:KB l)(h2:i.k<=255):KB (l++ [i]):=λx hx=>by
 rw [List.mem_append,List.mem_singleton]at hx;rcases hx with hx | rfl
 .exact h x hx
 .omega
structure Y71(pp:List Int×Int×Unit->Bool)(ff:List Int×Int×Unit->Int×Int×Int×Int×List Int×Int×Unit):Prop where
 hp:∀b p,Bt b->0<=p->p<800000000->pp (b,p,())=true
 hf:∀b p,Bt b->0<=p->p<800000000->InD 30 b p (ff (b,p,()))
def kn(ops:List IOp)(k:Int):Int×Bool:=if 0<=k/\k<ops.length/\(((ops).getD (k).toNat default)).kind=1 then((((ops).getD (k).toNat default)).k,true)else(0,false)
abbrev bk7(b : Blk) : Int × Int × Int × Int × Int × Int × List IOp × Unit := (b.pc, b.len, b.fin, b.x, b.y, b.k, b.ops, ())
structure FE(b:Blk):Prop where
 f:1<=b.fin/\b.fin<=4
 x:b.fin≠1->0<=b.x/\b.x<b.ops.length
 y:3<=b.fin->0<=b.y/\b.y<b.ops.length
 y0:b.fin<=2->b.y=0
 p:0<=b.pc/\b.pc<=100/\0<=b.len/\b.len<=100
structure Y72(pp:List IOp×Int×Unit->Bool)(ff:List IOp×Int×Unit->Int×Bool×Unit):Prop where
 hp:∀ops k,pp (ops,k,())=true
 hf:∀ops k,ff (ops,k,())=((kn ops k).1,(kn ops k).2,())
structure Y73(pp:Blk×Unit->Bool)(ff:Blk×Unit->Blk×Unit):Prop where
 hp:∀b,b.ops.length<1000000->pp (b,())=true
 hf:∀b,b.ops.length<1000000->ff (b,())=(KZ b,())
structure Y74(pp:Blk×Unit->Bool)(ff:Blk×Unit->Int×Int×Int×Int×Int×Int×List IOp×Unit):Prop where
 hp:∀b,b.ops.length<1000000->pp (b,())=true
 hf:∀b,b.ops.length<1000000->ff (b,())=bk7 (Jf b)
structure Y75(pp:Blk×Unit->Bool)(ff:Blk×Unit->Int×Int×Int×Int×Int×Int×List IOp×Unit):Prop where
 hp:∀b,b.ops.length<1000000->pp (b,())=true
 hf:∀b,b.ops.length<1000000->ff (b,())=bk7 (Dc b)
structure Y76(pp:Blk×Unit->Bool)(ff:Blk×Unit->Int×Int×Int×Int×Int×Int×List IOp×Unit):Prop where
 hp:∀b,b.ops.length<1000000->pp (b,())=true
 hf:∀b,b.ops.length<1000000->ff (b,())=bk7 (Jg b)
structure Y77(pp:Blk×Unit->Bool)(ff:Blk×Unit->Int×Int×Int×Int×Int×Int×List IOp×Unit):Prop where
 hp:∀b,b.ops.length<1000000->pp (b,())=true
 hf:∀b,b.ops.length<1000000->ff (b,())=(b.pc,b.len,b.fin,b.x,b.y,b.k,b.ops,())
structure Y78(pp:IOp×List Int×Unit->Bool)(ff:IOp×List Int×Unit->IOp×Unit):Prop where
 hp:∀o al,(1<=o.kind/\o.kind<=8)->(hX o->0<=o.x/\o.x< (al.length:Int))->(hY o->0<=o.y/\o.y< (al.length:Int))->pp (o,al,())=true
 hf:∀o al,(1<=o.kind/\o.kind<=8)->(hX o->0<=o.x/\o.x< (al.length:Int))->(hY o->0<=o.y/\o.y< (al.length:Int))->ff (o,al,())=(ren al o,())
structure Y79(pp:Blk×Unit->Bool)(ff:Blk×Unit->List Bool×Unit):Prop where
 hp:∀b,b.ops.length<1000000->pp (b,())=true
 hf:∀b,b.ops.length<1000000->ff (b,())=(adQ b,())
structure Y80(pp:Blk×List Bool×Unit->Bool)(ff:Blk×List Bool×Unit->Int×Int×Int×Int×Int×Int×List IOp×Unit):Prop where
 hp:∀b kp,iK b->kp.length=b.ops.length->pp (b,kp,())=true
 hf:∀b kp,iK b->kp.length=b.ops.length->ff (b,kp,())=bk7 (ZE b kp)
structure BkD(m:Int)(n:Nat)(b:List Int)(p:Int)(y:Int×Int×Int×Int×Int×Int×List Int×Int×List IOp×Unit):Prop where
 b:y.2.2.2.2.2.2.1=b
 lo:p<=y.2.2.2.2.2.2.2.1
 hi:y.2.2.2.2.2.2.2.1<=p+m
 len:y.2.2.2.2.2.2.2.2.1.length<=n
structure Y81(pp:Blk×Unit->Bool)(ff:Blk×Unit->Int×Int×Int×Int×Int×Int×List IOp×Unit):Prop where
 hp:∀b,b.ops.length<1000000->pp (b,())=true
 hf:∀b,b.ops.length<1000000->ff (b,())=bk7 (ZF b)
structure Y82(pp:List Int×Int×Unit->Bool)(ff:List Int×Int×Unit->List Int×Int×List Ins×Unit):Prop where
 hp:∀b p,Bt b->0<=p->p<700000000->pp (b,p,())=true
 hf:∀b p,Bt b->0<=p->p<700000000->LiD b p (ff (b,p,()))
structure BoD(b:List Int)(p:Int)(y:Blk×List Int×Int×Unit):Prop where
 len:y.1.ops.length<100000
 b:y.2.1=b
 lo:p<=y.2.2.1
 hi:y.2.2.1<=p+5000
structure Y83(pp:Blk×List Int×Int×Unit->Bool)(ff:Blk×List Int×Int×Unit->Int×Int×Int×Int×Int×Int×List Int×Int×List IOp×Unit):Prop where
 hp:∀c b p,c.ops.length<1000000->Bt b->0<=p->p<900000000->pp (c,b,p,())=true
 hf:∀c b p,c.ops.length<1000000->Bt b->0<=p->p<900000000->BkD 20 c.ops.length b p (ff (c,b,p,()))/\(ff (c,b,p,())).1=c.pc
structure Y84(pp:List Int×Int×Unit->Bool)(ff:List Int×Int×Unit->Int×Int×Int×Int×Int×Int×List Int×Int×List IOp×Unit):Prop where
 hp:∀b p,Bt b->0<=p->p<600000000->pp (b,p,())=true
 hf:∀b p,Bt b->0<=p->p<600000000->BkD 2000 5000 b p (ff (b,p,()))
structure Y85(pp:Int×List Int×Int×Unit->Bool)(ff:Int×List Int×Int×Unit->Blk×List Int×Int×Unit):Prop where
 hp:∀n b p,Bt b->0<=p->p<500000000->pp (n,b,p,())=true
 hf:∀n b p,Bt b->0<=p->p<500000000->BoD b p (ff (n,b,p,()))
structure Y86(pp:Blk×List Int×Int×Unit->Bool)(ff:Blk×List Int×Int×Unit->Int×Int×Int×Int×Int×Int×List Int×Int×List IOp×Unit):Prop where
 hp:∀c b p,iK c->c.ops.length<1000000->Bt b->0<=p->p<600000000->pp (c,b,p,())=true
 hf:∀c b p,iK c->c.ops.length<1000000->Bt b->0<=p->p<600000000->BkD 1000000 c.ops.length b p (ff (c,b,p,()))
structure Y87(pp:Int×List Int×Int×Unit->Bool)(ff:Int×List Int×Int×Unit->Blk×Blk×List Int×Int×Unit):Prop where
 hp:∀n b p,Bt b->0<=p->p<400000000->pp (n,b,p,())=true
 hf:∀n b p,Bt b->0<=p->p<400000000->(ff (n,b,p,())).1.ops.length<100000/\(ff (n,b,p,())).2.1.ops.length<100000/\(ff (n,b,p,())).2.2.1=b/\p<=(ff (n,b,p,())).2.2.2.1/\(ff (n,b,p,())).2.2.2.1<=p+10000000
structure Y88(pp:List (List aj)×List (List aj)×Unit->Bool)(ff:List (List aj)×List (List aj)×Unit->Bool×Unit):Prop where
 hp:∀a b,ShP a->pp (a,b,())=true
 hf:∀a b,ShP a->ff (a,b,())=(bp (a=b),())
structure Y89(pp:List Atom×Blk×Unit->Bool)(ff:List Atom×Blk×Unit->List Atom×Sym×Unit):Prop where
 hp:∀t b,ShT t->b.ops.length<1000000000->pp (t,b,())=true
 hf:∀t b,ShT t->b.ops.length<1000000000->ff (t,b,())=((bP t b).1,(bP t b).2,())
structure Y90(pp:List Int×Unit->Bool)(ff:List Int×Unit->List Atom×Blk×Unit):Prop where
 hp:∀c,By c->c.length<1000000000->pp (c,())=true
 hf:∀c,By c->c.length<1000000000->ShT (ff (c,())).1/\0< (ff (c,())).1.length/\(ff (c,())).2.1.ops.length<100000
structure Y91(pp:Sym×Sym×Unit->Bool)(ff:Sym×Sym×Unit->Bool×Unit):Prop where
 hp:∀a b,a=b->ShY a->pp (a,b,())=true
 hf:∀a b,a=b->ShY a->ff (a,b,())=(true,())
theorem afe(x y:IOp):ahl .iop x y=decide (x=y):=rfl
theorem aoX(x y:Ins):ahl .ins x y=decide (x=y):=rfl
def pJ{P:Prop}[Decidable P]:decide P=bp P:=by unfold bp;congr
def ZI(a b:List IOp)(ha:a.length<1000000000):OY.F () (a,b,()) (λy=>y=(bp (a=b),())):=by
 dsimp only [OY,gm];simp (disch:=omega) only [RR];refine⟨λh=> ?_,λh=> ?_⟩
 .rw [aR (λe=>h (by rw [e]))]
 have hl:a.length=b.length:=by omega
 refine ak (λ(y:List IOp×List IOp×Int×Int×Unit)=>y.1=a/\y.2.1=b/\y.2.2.1=a.length/\0<=y.2.2.2.1/\y.2.2.2.1<=a.length/\All y.2.2.2.1 (λi=>a.getD i.toNat default=b.getD i.toNat default)) (λy=>(a.length-y.2.2.2.1).toNat) ⟨rfl,rfl,rfl,by simp,by simp,All.zero⟩ ?_;rintro⟨(l1:List IOp),(l2:List IOp),(n:Int),(i:Int),⟨⟩⟩ hI;dsimp only at hI ⊢;obtain⟨rfl,rfl,rfl,h1,h2,h3⟩:=hI;simp (disch:=omega) only [RR,afe];refine⟨λh4=>⟨ah,ah,ah,ah,λh5=> ?_,λh5=>⟨⟨ah,ah,h3.snoc h5⟩,ah⟩⟩,λh4=> ?_⟩
 .rw [aR];intro e;rw [e]at h5;exact h5 rfl
 .rw [aU (jy hl (h3.le ah))]
structure Y92(pp:List IOp×List IOp×Unit->Bool)(ff:List IOp×List IOp×Unit->Bool×Unit):Prop where
 hp:∀a b,a.length<1000000000->pp (a,b,())=true
 hf:∀a b,a.length<1000000000->ff (a,b,())=(bp (a=b),())
def aoY{p1 f1}(U1:Y92 p1 f1)(a b:Blk)(ha:a.ops.length<1000000000):XG.F (p1,f1,()) (a,b,()) (λy=>y=(bp (a=b),())):=by
 dsimp only [XG,gm];simp (disch:=omega) only [RR,RB,U1.hp _ _ ha,U1.hf _ _ ha];simp only [pJ,<-gY];refine Prod.ext (iU ?_) rfl;cases a;cases b;simp only [Blk.mk.injEq];constructor<;>(intro h;simp only [h,and_self])
def aoZ{p1 f1}(U1:Y14 p1 f1)(a b:List aj)(ha:Sh a):Yo.F (p1,f1,()) (a,b,()) (λy=>y=(decide (eZ a b=0),())):=by
 dsimp only [Yo,gm];simp (disch:=omega) only [RR,U1.hp _ _ ha,U1.hf _ _ ha]
def aiY{p1 f1}(U1:Y14 p1 f1)(a b:List (List aj))(ha:ShP a):Pz.F (p1,f1,()) (a,b,()) (λy=>y=(bp (a=b),())):=by
 have hlen:=ha.1;dsimp only [Pz,gm];simp (disch:=omega) only [RR];refine⟨λh=> ?_,λh=> ?_⟩
 .rw [aR (λe=>h (by rw [e]))]
 have hl:a.length=b.length:=by omega
 refine ak (λ(y:List (List aj)×List (List aj)×Int×Int×Unit)=>y.1=b/\y.2.1=a/\y.2.2.1=a.length/\0<=y.2.2.2.1/\y.2.2.2.1<=a.length/\All y.2.2.2.1 (λi=>a.getD i.toNat default=b.getD i.toNat default)) (λy=>(a.length-y.2.2.2.1).toNat) ⟨rfl,rfl,rfl,by simp,by simp,All.zero⟩ ?_;rintro⟨(l1:List (List aj)),(l2:List (List aj)),(n:Int),(i:Int),⟨⟩⟩ hI;dsimp only at hI ⊢;obtain⟨rfl,rfl,rfl,h1,h2,h3⟩:=hI;simp (disch:=omega) only [RR,U1.hp _ _ (ha.at _),U1.hf _ _ (ha.at _),fK];refine⟨λh4=>⟨ah,ah,ah,ah,λh5=> ?_,λh5=>⟨⟨ah,ah,h3.snoc h5⟩,ah⟩⟩,λh4=> ?_⟩
 .rw [aR];intro e;rw [e]at h5;exact h5 rfl
 .rw [aU (jy hl (h3.le ah))]
def ao0{p1 f1}(U1:Y88 p1 f1)(a b:List (List aj))(ha:ShP a):Yp.F (p1,f1,()) (a,b,()) (λy=>y=(bp (a=b),())):=by
 dsimp only [Yp,gm];simp (disch:=omega) only [RR,U1.hp _ _ ha,U1.hf _ _ ha]
def ao1{p1 f1 p2 f2}(U1:Y14 p1 f1)(U2:Y88 p2 f2)(a b:Ev)(ha:ShE a):Yq.F (p1,f1,p2,f2,()) (a,b,()) (λy=>y=(bp (a=b),())):=by
 dsimp only [Yq,gm];simp (disch:=omega) only [RR,RB,U1.hp _ _ ha.1,U1.hf _ _ ha.1,U1.hp _ _ ha.2.1,U1.hf _ _ ha.2.1,U2.hp _ _ ha.2.2,U2.hf _ _ ha.2.2,fK];simp only [pJ,<-gY];refine Prod.ext (iU ?_) rfl;cases a;cases b;simp only [Ev.mk.injEq];constructor<;>(intro h;simp only [h,and_self])
structure Y93(pp:Ev×Ev×Unit->Bool)(ff:Ev×Ev×Unit->Bool×Unit):Prop where
 hp:∀a b,ShE a->pp (a,b,())=true
 hf:∀a b,ShE a->ff (a,b,())=(bp (a=b),())
def aiZ{p1 f1}(U1:Y93 p1 f1)(a b:List Ev)(ha:Ur a):PD.F (p1,f1,()) (a,b,()) (λy=>y=(bp (a=b),())):=by
 have hlen:=ha.1;dsimp only [PD,gm];simp (disch:=omega) only [RR];refine⟨λh=> ?_,λh=> ?_⟩
 .rw [aR (λe=>h (by rw [e]))]
 have hl:a.length=b.length:=by omega
 refine ak (λ(y:List Ev×List Ev×Int×Int×Unit)=>y.1=b/\y.2.1=a/\y.2.2.1=a.length/\0<=y.2.2.2.1/\y.2.2.2.1<=a.length/\All y.2.2.2.1 (λi=>a.getD i.toNat default=b.getD i.toNat default)) (λy=>(a.length-y.2.2.2.1).toNat) ⟨rfl,rfl,rfl,by simp,by simp,All.zero⟩ ?_;rintro⟨(l1:List Ev),(l2:List Ev),(n:Int),(i:Int),⟨⟩⟩ hI;dsimp only at hI ⊢;obtain⟨rfl,rfl,rfl,h1,h2,h3⟩:=hI;simp (disch:=omega) only [RR,U1.hp _ _ (ha.at _),U1.hf _ _ (ha.at _),aN,fT];refine⟨λh4=>⟨ah,ah,ah,ah,λh5=> ?_,λh5=>⟨⟨ah,ah,h3.snoc h5⟩,ah⟩⟩,λh4=> ?_⟩
 .rw [aR];intro e;rw [e]at h5;exact h5 rfl
 .rw [aU (jy hl (h3.le ah))]
def ao2{p1 f1 p2 f2}(U1:Y14 p1 f1)(U2:Y88 p2 f2){p3:List Ev×List Ev×Unit->Bool}{f3:List Ev×List Ev×Unit->Bool×Unit}(hp3:∀b a,Ur b->p3 (b,a,())=true)(hf3:∀b a,Ur b->f3 (b,a,())=(bp (b=a),()))(a b:Sym)(ha:ShY a):Yr.F (p1,f1,p2,f2,p3,f3,()) (a,b,()) (λy=>y=(bp (a=b),())):=by
 dsimp only [Yr,gm];simp (disch:=omega) only [RR,RB,U1.hp _ _ ha.x,U1.hf _ _ ha.x,U1.hp _ _ ha.y,U1.hf _ _ ha.y,U2.hp _ _ ha.r,U2.hf _ _ ha.r,hp3 _ _ ha.e,hf3 _ _ ha.e,fK];simp only [pJ,<-gY];refine Prod.ext (iU ?_) rfl;cases a;cases b;simp only [Sym.mk.injEq];constructor<;>(intro h;simp only [h,and_self])
structure Y94(pp:Blk×Blk×Unit->Bool)(ff:Blk×Blk×Unit->Bool×Unit):Prop where
 hp:∀a b,a.ops.length<1000000000->pp (a,b,())=true
 hf:∀a b,a.ops.length<1000000000->ff (a,b,())=(bp (a=b),())
structure Y95(pp:Sym×Sym×Unit->Bool)(ff:Sym×Sym×Unit->Bool×Unit):Prop where
 hp:∀a b,ShY a->pp (a,b,())=true
 hf:∀a b,ShY a->ff (a,b,())=(bp (a=b),())
def ao3{p1 f1 p2 f2 p4 f4 p5 f5}(U1:Y60 p1 f1)(U2:Y94 p2 f2){p3:Unit->Bool}{f3:Unit->List Atom×List (List aj)×Unit}(hp3:p3 ()=true)(hf3:(f3 ()).1=t4)(U4:Y89 p4 f4)(U5:Y95 p5 f5)(b c:Blk)(hb:b.ops.length<1000000000)(hc:c.ops.length<1000000000):Yt.F (p1,f1,p2,f2,p3,f3,p4,f4,p5,f5,()) (b,c,()) (λy=>y=(chk b c,())):=by
 have s4:ShT t4:=Sk.1.sh;have y1:=zF t4 b;dsimp only [Yt,gm];simp (disch:=omega) only [RR,RB,U1.hp b hb,U1.hf b hb,U1.hp c hc,U1.hf c hc,U2.hp b c hb,U2.hf b c hb,hp3,hf3,U4.hp t4 b s4 hb,U4.hf t4 b s4 hb,U4.hp _ c y1.2 hc,U4.hf _ c y1.2 hc,U5.hp _ _ y1.1,U5.hf _ _ y1.1,aN,fT];unfold chk;refine⟨λh=> ?_,λh=>⟨λe=> ?_,λe=> ?_⟩⟩
 .rw [aR];rintro⟨h1,h2,h3,h4,_⟩;simp_all
 .rw [aU];exact⟨h.1.1.1,h.1.1.2,h.1.2,h.2,Or.inl e⟩
 .refine Prod.ext (iU ?_) rfl;exact⟨λg=>⟨h.1.1.1,h.1.1.2,h.1.2,h.2,Or.inr g⟩,λg=>g.2.2.2.2.resolve_left e⟩
structure Y96(pp:Blk×Blk×Unit->Bool)(ff:Blk×Blk×Unit->Bool×Unit):Prop where
 hp:∀b c,b.ops.length<1000000000->c.ops.length<1000000000->pp (b,c,())=true
 hf:∀b c,b.ops.length<1000000000->c.ops.length<1000000000->ff (b,c,())=(chk b c,())
structure Y97(pp:List Int×Unit->Bool)(ff:List Int×Unit->Blk×Blk×Unit):Prop where
 hp:∀c,By c->c.length<1000000000->pp (c,())=true
 hf:∀c,By c->c.length<1000000000->(ff (c,())).1.ops.length<100000/\(ff (c,())).2.1.ops.length<100000
structure ao4(nm:List Int)(fin x y:Int)(ops:List IOp):Prop where
 op:∀i:Int,0<=i->i<ops.length->(hX ((ops).getD (i).toNat default)->0<=(((ops).getD (i).toNat default)).x/\(((ops).getD (i).toNat default)).x<nm.length)/\(hY ((ops).getD (i).toNat default)->0<=(((ops).getD (i).toNat default)).y/\(((ops).getD (i).toNat default)).y<nm.length)
 x:fin≠1->0<=x/\x<nm.length
 y:3<=fin->0<=y/\y<nm.length
 l:ops.length<1000000000
def aff(b:Blk)(hb:b.ops.length<1000000000):YA.F () (b,()) (λy=>y=bk7 b):=by
 dsimp only [YA,gm];simp (disch:=omega) only [RR,RB];omega
structure Y98(pp:List Int×Int×Int×Int×Int×Int×Int×List IOp×Unit->Bool)(ff:List Int×Int×Int×Int×Int×Int×Int×List IOp×Unit->Int×Int×Int×Int×Int×Int×List IOp×Unit):Prop where
 hp:∀(nm:List Int) pc len fin x y k ops,ao4 nm fin x y ops->pp (nm,pc,len,fin,x,y,k,ops,())=true
 hf:∀(nm:List Int) pc len fin x y k ops,ao4 nm fin x y ops->ff (nm,pc,len,fin,x,y,k,ops,())=(pc,len,fin,(if fin=1 then x else((nm).getD (x).toNat default)),(if 3<=fin then((nm).getD (y).toNat default)else y),k,ops.map (ren nm),())
structure Y99(pp:Blk×Unit->Bool)(ff:Blk×Unit->Int×Int×Int×Int×Int×Int×List IOp×Unit):Prop where
 hp:∀b,b.ops.length<1000000000->pp (b,())=true
 hf:∀b,b.ops.length<1000000000->ff (b,())=bk7 b
structure auc(pp:Blk×Unit->Bool)(ff:Blk×Unit->List Bool×Unit):Prop where
 hp:∀b,iK b->pp (b,())=true
 hf:∀b,iK b->ff (b,())=(us b b.ops.length,())
structure aud(pp:Blk×Unit->Bool)(ff:Blk×Unit->Blk×Unit):Prop where
 hp:∀b,b.ops.length<1000000->pp (b,())=true
 hf:∀b,b.ops.length<1000000->ff (b,())=(Jf b,())
structure aue(pp:Blk×Unit->Bool)(ff:Blk×Unit->Blk×Unit):Prop where
 hp:∀b,b.ops.length<1000000->pp (b,())=true
 hf:∀b,b.ops.length<1000000->ff (b,())=(Dc b,())
structure auf(pp:Blk×Unit->Bool)(ff:Blk×Unit->Blk×Unit):Prop where
 hp:∀b,b.ops.length<1000000->pp (b,())=true
 hf:∀b,b.ops.length<1000000->ff (b,())=(Jg b,())
structure aug(pp:List Int×Unit->Bool)(ff:List Int×Unit->Blk×Unit):Prop where
 hp:∀c,By c->c.length<1000000000->pp (c,())=true
 hf:∀c,By c->c.length<1000000000->(ff (c,())).1.ops.length<100000
structure auh(pp:Blk×Unit->Bool)(ff:Blk×Unit->Int×Unit):Prop where
 hp:∀b,b.ops.length<1000000->pp (b,())=true
 hf:∀b,b.ops.length<1000000->ff (b,())=(((KW b.ops).length:Int),())
structure aui(pp:Blk×Unit->Bool)(ff:Blk×Unit->Blk×Unit):Prop where
 hp:∀b,b.ops.length<1000000->pp (b,())=true
 hf:∀b,b.ops.length<1000000->ff (b,())=(ZF b,())
def ShC(l:List Cer):Prop:=l.length<1000/\∀q∈l,q.base.ops.length<1000000/\q.made.ops.length<1000000
def asV(l:List Cer)(b c:Blk):Prop:=∃q∈l,q.base=b/\q.made=c
def Fe(l:List Cer):Prop:=l.length<=3/\∀q∈l,chk q.base q.made=true
def ShC.at{l:List Cer}(h:ShC l)(i:Nat):(l.getD i default).base.ops.length<1000000/\(l.getD i default).made.ops.length<1000000:=by
 by_cases c:i<l.length
 .rw [getD_lt c];exact h.2 _ (List.getElem_mem _)
 .rw [List.getD_eq_getElem?_getD,List.getElem?_eq_none ah];exact⟨by decide,by decide⟩
def ShC.add{l:List Cer}(h:ShC l)(n:l.length<999){q:Cer}(h1:q.base.ops.length<1000000)(h2:q.made.ops.length<1000000):ShC (l++ [q]):=by
 refine⟨by rw [List.length_append,List.length_singleton];omega,λc g=> ?_⟩;rw [List.mem_append,List.mem_singleton]at g;rcases g with g | rfl
 .exact h.2 c g
 .exact⟨h1,h2⟩
def ShD(l:List Cer):Prop:=l.length<1000000000/\∀q∈l,q.base.ops.length<1000000000/\q.made.ops.length<1000000000
def ShC.d{l:List Cer}(h:ShC l):ShD l:=⟨by have:=h.1;omega,λq g=>by have:=h.2 q g;omega⟩
def ShD.at{l:List Cer}(h:ShD l)(i:Nat):(l.getD i default).base.ops.length<1000000000/\(l.getD i default).made.ops.length<1000000000:=by
 by_cases c:i<l.length
 .rw [getD_lt c];exact h.2 _ (List.getElem_mem _)
 .rw [List.getD_eq_getElem?_getD,List.getElem?_eq_none ah];exact⟨by decide,by decide⟩
def CRB:(∀q:Cer,bV .cer 0 q=q.base.pc)/\(∀q:Cer,bV .cer 1 q=q.base.len)/\(∀q:Cer,iR .cer 2 .iop q=q.base.ops)/\(∀q:Cer,bV .cer 3 q=q.base.fin)/\(∀q:Cer,bV .cer 4 q=q.base.x)/\(∀q:Cer,bV .cer 5 q=q.base.y)/\(∀q:Cer,bV .cer 6 q=q.base.k)/\
  (∀q:Cer,bV .cer 7 q=q.made.pc)/\(∀q:Cer,bV .cer 8 q=q.made.len)/\(∀q:Cer,iR .cer 9 .iop q=q.made.ops)/\(∀q:Cer,bV .cer 10 q=q.made.fin)/\(∀q:Cer,bV .cer 11 q=q.made.x)/\(∀q:Cer,bV .cer 12 q=q.made.y)/\(∀q:Cer,bV .cer 13 q=q.made.k)/\
  (∀x,Co.mk .blk x=⟨x.1,x.2.1,x.2.2.1,x.2.2.2.1,x.2.2.2.2.1,x.2.2.2.2.2.1,x.2.2.2.2.2.2.1⟩):=
 ⟨λ_=>rfl,λ_=>rfl,λ_=>rfl,λ_=>rfl,λ_=>rfl,λ_=>rfl,λ_=>rfl,λ_=>rfl,λ_=>rfl,λ_=>rfl,λ_=>rfl,λ_=>rfl,λ_=>rfl,λ_=>rfl,λ_=>rfl⟩
def Sr{α:Type}{d:α}{l:List α}{i:Nat}{G:α->Prop}(h:i<l.length):(∃q∈l.take (i+1),G q)↔(∃q∈l.take i,G q)\/G (l.getD i d):=by
 rw [List.take_succ_eq_append_getElem h,getD_lt h];constructor
 .rintro⟨q,h1,h2⟩;rw [List.mem_append,List.mem_singleton]at h1;rcases h1 with h1 | rfl
  .exact Or.inl ⟨q,h1,h2⟩
  .exact Or.inr h2
 .rintro(⟨q,h1,h2⟩ | h)
  .exact⟨q,List.mem_append_left _ h1,h2⟩
  .exact⟨_,List.mem_append_right _ (List.mem_singleton.2 rfl),h⟩
theorem ao5{p1 f1}(U1:Y96 p1 f1)(q:Cer)(h1:q.base.ops.length<1000000000)(h2:q.made.ops.length<1000000000):YN.F (p1,f1,()) (q,()) (λy=>y=(!chk q.base q.made,())):=by
 have mE:∀c:Blk,Co.mk .blk (c.pc,c.len,c.ops,c.fin,c.x,c.y,c.k,())=c:=λ_=>rfl
 dsimp only [YN,gm,qX];simp (disch:=omega) only [RR,CRB,mE,U1.hp _ _ h1 h2,U1.hf _ _ h1 h2]
def ai0{p1:Cer×Unit->Bool}{f1:Cer×Unit->Bool×Unit}(hp1:∀q,q.base.ops.length<1000000000->q.made.ops.length<1000000000->p1 (q,())=true)(hf1:∀q,q.base.ops.length<1000000000->q.made.ops.length<1000000000->f1 (q,())=(!chk q.base q.made,()))(l:List Cer)(h:ShD l):PY.F (p1,f1,()) (l,()) (λy=>0<=y.1↔∃q∈l,chk q.base q.made=false):=by
 have hl:=h.1;dsimp only [PY,gm];simp (disch:=omega) only [RR];refine ak (λ(y:List Cer×Int×Int×Unit)=>y.1=l/\y.2.1=l.length/\0<=y.2.2.1/\y.2.2.1<=l.length/\¬∃q∈l.take y.2.2.1.toNat,chk q.base q.made=false) (λy=>(l.length-y.2.2.1).toNat) ⟨rfl,rfl,by simp,by simp,by rintro⟨q,h,_⟩;cases h⟩ ?_;rintro⟨(l':List Cer),(n:Int),(i:Int),⟨⟩⟩ hI;dsimp only at hI ⊢;obtain⟨rfl,rfl,h1,h2,h3⟩:=hI;have a:=h.at i.toNat;simp (disch:=omega) only [RR,hp1 _ (show(((l').getD (i).toNat default)).base.ops.length<1000000000 by omega) (show(((l').getD (i).toNat default)).made.ops.length<1000000000 by omega),hf1 _ (show(((l').getD (i).toNat default)).base.ops.length<1000000000 by omega) (show(((l').getD (i).toNat default)).made.ops.length<1000000000 by omega)];refine⟨λg=>⟨h1,g,λe=> ?_,λe=>⟨⟨ah,ah,?_⟩,ah⟩⟩,λg=> ?_⟩
 .exact⟨λ_=>⟨_,cO h1 g,e⟩,λ_=>h1⟩
 .rw [show(i+1).toNat=i.toNat+1 by omega];exact λx=>((Sr (G:=λq:Cer=>chk q.base q.made=false) ah).1 x).elim h3 (λz=>by rw [e]at z;cases z)
 .rw [List.take_of_length_le ah]at h3;exact⟨λx=>absurd x (by decide),λx=>absurd x h3⟩
def ai1{p1:List Cer×Unit->Bool}{f1:List Cer×Unit->Int×Unit}(hp1:∀l,ShD l->p1 (l,())=true)(hf1:∀l,ShD l->(0<=(f1 (l,())).1↔∃q∈l,chk q.base q.made=false))(l:List Cer)(h:ShD l):PZ.F (p1,f1,()) (l,()) (λy=>y=(bp (∃q∈l,chk q.base q.made=false),())):=by
 dsimp only [PZ,gm];simp (disch:=omega) only [RR,hp1 l h,pJ,iU (hf1 l h)]
def ao6{p1:List Cer×Unit->Bool}{f1:List Cer×Unit->Bool×Unit}(hp1:∀l,ShD l->p1 (l,())=true)(hf1:∀l,ShD l->f1 (l,())=(bp (∃q∈l,chk q.base q.made=false),()))(l:List Cer)(h:ShD l):YO.F (p1,f1,()) (l,()) (λy=>y=(bp (Fe l),())):=by
 dsimp only [YO,gm];simp (disch:=omega) only [RR,hp1 l h,hf1 l h];have e:(!bp (∃q∈l,chk q.base q.made=false))=bp (∀q∈l,chk q.base q.made=true):=by
  by_cases c:∃q∈l,chk q.base q.made=false
  .rw [aU c,aR]; · rfl
   intro g;obtain⟨q,q1,q2⟩:=c;rw [g q q1]at q2;cases q2
  .rw [aR c,aU]; · rfl
   intro q q1;by_cases d:chk q.base q.made=true
   .exact d
   .exact absurd ⟨q,q1,by simpa using d⟩ c
 rw [e,pJ,<-gY];exact Prod.ext (iU (by unfold Fe;constructor<;>rintro⟨g1,g2⟩<;>exact⟨ah,g2⟩)) rfl
def ZJ(a b:Blk)(ha:a.ops.length<1000000000):Nt.F () (a,b,()) (λy=>y=(bp (a=b),())):=by
 dsimp only [Nt,gm];simp (disch:=omega) only [RR,RB];refine⟨λh=> ?_,λh=> ?_⟩
 .rw [aR];rintro rfl;simp at h
 have hl:a.ops.length=b.ops.length:=by omega
 refine ak (λ(y:Int×Blk×Blk×Unit)=>y.2.1=a/\y.2.2.1=b/\0<=y.1/\y.1<=a.ops.length/\All y.1 (λi=>a.ops.getD i.toNat default=b.ops.getD i.toNat default)) (λy=>(a.ops.length-y.1).toNat) ⟨rfl,rfl,by simp,by simp,All.zero⟩ ?_;rintro⟨(i:Int),(a':Blk),(b':Blk),⟨⟩⟩ hI;dsimp only at hI ⊢;obtain⟨rfl,rfl,h1,h2,h3⟩:=hI;simp (disch:=omega) only [RR,RB,afe];refine⟨λh4=>⟨ah,ah,ah,ah,λh5=> ?_,λh5=>⟨⟨ah,ah,h3.snoc h5⟩,ah⟩⟩,λh4=> ?_⟩
 .rw [aR];rintro rfl;exact h5 rfl
 .have e:=jy hl (h3.le ah);rw [aU];cases a';cases b';simp_all
structure auj(pp:Int×List Int×Int×Unit->Bool)(ff:Int×List Int×Int×Unit->List Cer×List Int×Int×Unit):Prop where
 hp:∀n b p,Bt b->0<=p->p<300000000->pp (n,b,p,())=true
 hf:∀n b p,Bt b->0<=p->p<300000000->ShC (ff (n,b,p,())).1/\(ff (n,b,p,())).2.1=b/\p<=(ff (n,b,p,())).2.2.1/\(ff (n,b,p,())).2.2.1<=p+20000
structure auk(pp:List Cer×Blk×Blk×Unit->Bool)(ff:List Cer×Blk×Blk×Unit->Bool×Unit):Prop where
 hp:∀l b c,ShC l->pp (l,b,c,())=true
 hf:∀l b c,ShC l->ff (l,b,c,())=(bp (asV l b c),())
structure ao7(pp:List Cer×Unit->Bool)(ff:List Cer×Unit->Bool×Unit):Prop where
 hp:∀l,ShD l->pp (l,())=true
 hf:∀l,ShD l->ff (l,())=(bp (Fe l),())
def jI(l:List Int):(bW l).Perm l:=List.mergeSort_perm l _
def Bu(l:List Int):(bW l).Pairwise (· <= ·):=by
 have:=List.pairwise_mergeSort (le:=λx y:Int=>decide (x<=y)) (λa b c h1 h2=>by simp only [decide_eq_true_eq]at*;omega) (λa b=>by simp only [Bool.or_eq_true,decide_eq_true_eq];omega) l;exact this.imp λh=>by simpa using h
def uT{a b:List Int}(h:a.Perm b):bW a=bW b:=nG (Bu a) ((jI a).trans h)
def Fg{a:List Int}(h:a.Pairwise (· <= ·)):bW a=a:=(nG h (List.Perm.refl a)).symm
structure Ren(s:Int->Int)(t:Int->Int)(n:Int):Prop where
 rng:∀k,0<=k->k<n->0<=s k/\s k<=199
 back:∀k,0<=k->k<n->t (s k)=k
def mapM(s:Int->Int)(m:aj):aj:=⟨m.bC,bW (m.atoms.map s)⟩
def AtN(n:Int)(l:List Int):Prop:=l.Pairwise (· <= ·)/\∀k∈l,0<=k/\k<n
def Ren.bk{s t:Int->Int}{n:Int}(h:Ren s t n){l:List Int}(hl:AtN n l):bW ((bW (l.map s)).map t)=l:=by
 rw [uT ((jI _).map t),List.map_map];have e:l.map (t ∘ s)=l:=by
  conv=>rhs;rw [<-List.map_id l]
  exact List.map_congr_left λk hk=>h.back k (hl.2 k hk).1 (hl.2 k hk).2
 rw [e,Fg hl.1]
def Jh{s t:Int->Int}{n:Int}(h:Ren s t n)(K:List Int):∀ {l:List aj},(∀m∈l,AtN n m.atoms)->cf (l.map (mapM s)) K=if bW ((bW (K.map t)).map s)=K then cf l (bW (K.map t))else 0
 | [],_=>by simp [iM]
 | m::l,hl=>by
  have hm:=hl m List.mem_cons_self;rw [List.map_cons,aV,Jh h K (λm' hm'=>hl m' (List.mem_cons_of_mem _ hm')),aV];show(if bW (m.atoms.map s)=K then m.bC else 0)+_=_;by_cases c:bW (m.atoms.map s)=K
  .have e:=h.bk hm;rw [c]at e;rw [if_pos c,e,if_pos c,if_pos c,if_pos rfl]
  .rw [if_neg c];by_cases d:bW ((bW (K.map t)).map s)=K
   .rw [if_pos d,if_pos d,if_neg (λx=>c (by rw [x,d]))]
   .rw [if_neg d,if_neg d];rfl
noncomputable def aZ (s:Int->Int) (p:List aj):List aj:=nf (p.map (mapM s))
def adU{s t:Int->Int}{n:Int}(h:Ren s t n){l l':List aj}(hl:∀m∈l,AtN n m.atoms)(hl':∀m∈l',AtN n m.atoms)(e:∀k,cf l k%65536=cf l' k%65536):nf (l.map (mapM s))=nf (l'.map (mapM s)):=
 KS λK=>by
  rw [Jh h K hl,Jh h K hl'];split
  .exact e _
  .rfl
structure Dis(l:List aj):Prop where
 ne:l.Pairwise λa b=>a.atoms≠b.atoms
 co:∀m∈l,1<=m.bC/\m.bC<=65535
def Nf.dis{o:List aj}(h:Nf o):Dis o:=⟨h.ss.imp λg=>g.ne,h.co⟩
def Dis.perm{a b:List aj}(h:Dis a)(p:a.Perm b):Dis b:=⟨(p.pairwise_iff (R:=λa b:aj=>a.atoms≠b.atoms) (λg=>g.symm)).1 h.ne,λm hm=>h.co m (p.mem_iff.2 hm)⟩
def Dis.rng(k:List Int):∀ {l:List aj},Dis l->0<=cf l k/\cf l k<=65535
 | [],_=>by simp [iM]
 | m::l,h=>by
  have c:=h.co m List.mem_cons_self;rw [aV];by_cases e:m.atoms=k
  .rw [if_pos e,gF λm' hm'=>by rw [<-e];exact(List.rel_of_pairwise_cons h.ne hm').symm];omega
  .rw [if_neg e];have:=Dis.rng k (l:=l) ⟨h.ne.tail,λm hm=>h.co m (List.mem_cons_of_mem _ hm)⟩;omega
def Sv{a b:List aj}(p:a.Perm b)(k:List Int):cf a k=cf b k:=by
 induction p with
 | nil=>rfl
 | cons x _ ih=>rw [aV,aV,ih]
 | swap x y l=>rw [aV,aV,aV,aV];omega
 | trans _ _ h1 h2=>rw [h1,h2]
def adV{a b c:List Int}(h1:dx a b<=0)(h2:dx b c<=0):dx a c<=0:=by
 by_cases e:dx b c=0
 .rw [<-gZ.1 e];exact h1
 .exact Int.le_of_lt (dH (x:=⟨0,a⟩) (y:=⟨0,b⟩) (z:=⟨0,c⟩) h1 (by dsimp only;omega))
def Dis.nf{l:List aj}(h:Dis l):(nf l).Perm l/\Nf (nf l):=by
 have p:(l.mergeSort λa b=>decide (dx a.atoms b.atoms<=0)).Perm l:=List.mergeSort_perm l _;have g:=List.pairwise_mergeSort (le:=λa b:aj=>decide (dx a.atoms b.atoms<=0)) (λa b c h1 h2=>by
  simp only [decide_eq_true_eq]at*;exact adV h1 h2) (λa b=>by
  simp only [Bool.or_eq_true,decide_eq_true_eq];rw [jS b.atoms a.atoms];omega) l
 have d:=h.perm p.symm;have n:Nf (l.mergeSort λa b=>decide (dx a.atoms b.atoms<=0)):=by
  refine⟨(g.and d.ne).imp λ{a b} x=> ?_,d.co⟩;have x1:dx a.atoms b.atoms<=0:=by simpa using x.1
  have x2:dx a.atoms b.atoms≠0:=λe=>x.2 (gZ.1 e)
  show dx _ _<0;omega
 have e:=EW (l:=l) n λk=>by
  rw [Sv p k];have:=h.rng k;omega
 rw [e];exact⟨p,n⟩
def Fh{s t:Int->Int}{n:Int}(h:Ren s t n){p:List aj}(hp:Dis p)(ha:∀m∈p,AtN n m.atoms):(aZ s p).Perm (p.map (mapM s))/\Nf (aZ s p):=by
 refine Dis.nf ⟨?_,λm hm=> ?_⟩
 .rw [List.pairwise_map];refine hp.ne.imp_of_mem λ{a b} h1 h2 g e=>g ?_
  have e':bW (a.atoms.map s)=bW (b.atoms.map s):=e;rw [<-h.bk (ha a h1),e',h.bk (ha b h2)]
 .obtain⟨m',h1,rfl⟩:=List.mem_map.1 hm;exact hp.co m' h1
def ZK{s t:Int->Int}{n:Int}(h:Ren s t n){p:List aj}(hp:aI p)(ha:∀m∈p,AtN n m.atoms):aI (aZ s p):=by
 obtain⟨h1,h2,h3⟩:=eH.1 hp;obtain⟨g1,g2⟩:=Fh h h1.dis ha;refine eH.2 ⟨g2,by rw [g1.length_eq,List.length_map];exact h2,λm hm=> ?_⟩;obtain⟨m',k1,rfl⟩:=List.mem_map.1 (g1.mem_iff.1 hm);refine⟨by show(bW _).length<=4;rw [qA,List.length_map];exact(h3 m' k1).1,Bu _,λk hk=> ?_⟩;obtain⟨j,j1,rfl⟩:=List.mem_map.1 ((jI _).mem_iff.1 hk);exact h.rng j ((ha m' k1).2 j j1).1 ((ha m' k1).2 j j1).2
def ZL{l:List aj}{n:Int}(hl:∀m∈l,AtN n m.atoms):∀m∈nf l,AtN n m.atoms:=λm hm=>by
 obtain⟨h1,h2⟩:=I9 l;obtain⟨m',g1,g2⟩:=h1.from h2 hm;rw [<-g2];exact hl m' g1
def ai2{s t:Int->Int}{n:Int}(h:Ren s t n){l:List aj}(hl:∀m∈l,AtN n m.atoms):nf (l.map (mapM s))=aZ s (nf l):=
 adU h hl (ZL hl) λk=>by rw [(I9 l).2];omega
def AtN.aok{n:Int}(hn:n<=200){l:List Int}(h:AtN n l):aok l:=⟨h.1,λk hk=>by have:=h.2 k hk;omega⟩
def adW{s t:Int->Int}{n:Int}(h:Ren s t n)(hn:n<=200){p:List aj}(hp:Nf p)(ha:∀m∈p,AtN n m.atoms):aI (aZ s p)↔aI p:=by
 refine⟨λg=> ?_,λg=>ZK h g ha⟩;obtain⟨h1,h2,h3⟩:=eH.1 g;obtain⟨g1,_⟩:=Fh h hp.dis ha;refine eH.2 ⟨hp,by rw [g1.length_eq,List.length_map]at h2;exact h2,λm hm=>⟨?_,(ha m hm).aok hn⟩⟩;have:=(h3 _ (g1.mem_iff.2 (List.mem_map.2 ⟨m,hm,rfl⟩))).1;have e:(mapM s m).atoms.length=m.atoms.length:=by show(bW _).length=_;rw [qA,List.length_map]
 omega
def K6{s t:Int->Int}{n:Int}(h:Ren s t n)(hn:n<=200){l:List aj}(hl:∀m∈l,AtN n m.atoms):jZ (l.map (mapM s))=((jZ l).1,aZ s (jZ l).2):=by
 unfold jZ;rw [ai2 h hl];have e:=adW h hn (I9 l).1 (ZL hl);by_cases c:aI (nf l)
 .rw [aU c,aU (e.2 c)];rfl
 .rw [aR c,aR (λg=>c (e.1 g))];show(false,[])=(false,aZ s []);have:aZ s []=[]:=wC ⟨List.Pairwise.nil,λm hm=>absurd hm (by simp)⟩;rw [this]
def Sw{a b:List aj}(p:a.Perm b):nf a=nf b:=KS λk=>by rw [Sv p]
def GK{a b:List aj}(p:a.Perm b):jZ a=jZ b:=by unfold jZ;rw [Sw p]
def RP(n:Int)(p:List aj):Prop:=aI p/\∀m∈p,AtN n m.atoms
def RP.perm{s t:Int->Int}{n:Int}(h:Ren s t n){p:List aj}(hp:RP n p):(aZ s p).Perm (p.map (mapM s)):=(Fh h hp.1.nf.dis hp.2).1
def RP.ok{s t:Int->Int}{n:Int}(h:Ren s t n){p:List aj}(hp:RP n p):aI (aZ s p):=ZK h hp.1 hp.2
def K7{s t:Int->Int}{n:Int}(h:Ren s t n)(hn:n<=200){a b:List aj}(ha:RP n a)(hb:RP n b):kZ (aZ s a) (aZ s b)=((kZ a b).1,aZ s (kZ a b).2):=by
 unfold kZ;rw [aU (ha.ok h),aU (hb.ok h),aU ha.1,aU hb.1];show jZ _=_;rw [GK ((ha.perm h).append (hb.perm h)),<-List.map_append,K6 h hn λm hm=> ?_]
 .rfl
 .rcases List.mem_append.1 hm with g | g
  .exact ha.2 m g
  .exact hb.2 m g
def ZM(s:Int->Int)(m k:aj):mulM (mapM s m) (mapM s k)=mapM s (mulM m k):=by
 show aj.mk _ (bW (bW (m.atoms.map s)++bW (k.atoms.map s)))=aj.mk _ (bW ((bW (m.atoms++k.atoms)).map s));rw [uT ((jI _).append (jI _)),<-List.map_append,uT ((jI (m.atoms++k.atoms)).map s)];rfl
def Ut(s:Int->Int)(a b:List aj):prods (a.map (mapM s)) (b.map (mapM s))=(prods a b).map (mapM s):=by
 unfold prods;rw [List.flatMap_map,List.map_flatMap]
 congr 1;funext m
 rw [List.map_map,List.map_map]
 congr 1;funext k
 exact ZM s m k
def Qg{a a' b b':List aj}(h1:a.Perm a')(h2:b.Perm b'):(prods a b).Perm (prods a' b'):=by
 unfold prods;refine(h1.flatMap_right _).trans ?_
 clear h1
 induction a' with
 | nil=>exact List.Perm.refl _
 | cons m l ih=>rw [List.flatMap_cons,List.flatMap_cons];exact(h2.map _).append ih
def AtN.mul{n:Int}{m k:aj}(h1:AtN n m.atoms)(h2:AtN n k.atoms):AtN n (mulM m k).atoms:=⟨Bu _,λj hj=>by
 rcases List.mem_append.1 ((jI _).mem_iff.1 hj)with g | g
 .exact h1.2 j g
 .exact h2.2 j g⟩
def K8{n:Int}{a b:List aj}(ha:∀m∈a,AtN n m.atoms)(hb:∀m∈b,AtN n m.atoms):∀m∈prods a b,AtN n m.atoms:=λm hm=>by
 obtain⟨x,hx,g⟩:=List.mem_flatMap.1 hm;obtain⟨y,hy,rfl⟩:=List.mem_map.1 g;exact(ha x hx).mul (hb y hy)
def K9{s t:Int->Int}{n:Int}(h:Ren s t n)(hn:n<=200){a b:List aj}(ha:RP n a)(hb:RP n b):kF (aZ s a) (aZ s b)=((kF a b).1,aZ s (kF a b).2):=by
 unfold kF;rw [aU (ha.ok h),aU (hb.ok h),aU ha.1,aU hb.1];show jZ _=_;rw [GK (Qg (ha.perm h) (hb.perm h)),Ut,K6 h hn (K8 ha.2 hb.2)];rfl
def ZN{s t:Int->Int}{n:Int}(h:Ren s t n){p:List aj}(hp:∀m∈p,AtN n m.atoms):(p.map (mapM s)).map (mapM t)=p:=by
 rw [List.map_map]
 conv=>rhs;rw [<-List.map_id p]
 refine List.map_congr_left λm hm=> ?_
 show aj.mk m.bC (bW ((bW (m.atoms.map s)).map t))=m;rw [h.bk (hp m hm)]
def zG{s t:Int->Int}{n:Int}(h:Ren s t n){p q:List aj}(hp:RP n p)(hq:RP n q)(e:aZ s p=aZ s q):p=q:=by
 have g:(p.map (mapM s)).Perm (q.map (mapM s)):=(hp.perm h).symm.trans (e▸hq.perm h);have:=Sw (g.map (mapM t))
 rwa [ZN h hp.2,ZN h hq.2,wC hp.1.nf,wC hq.1.nf]at this
def rO(s:Int->Int):aZ s []=[]:=wC ⟨List.Pairwise.nil,λm hm=>absurd hm (by simp)⟩
def RP.nil(n:Int):RP n []:=⟨dQ,λm hm=>absurd hm (by simp)⟩
def Uu:bW []=[]:=Fg List.Pairwise.nil
def RP.const(n k:Int):RP n (bS k):=by
 refine⟨jU k,λm hm=> ?_⟩;unfold bS at hm;split at hm
 .rw [List.mem_singleton]at hm;subst hm;exact⟨List.Pairwise.nil,λj hj=>absurd hj (by simp)⟩
 .exact absurd hm (by simp)
def wE{s:Int->Int}(k:Int):aZ s (bS k)=bS k:=by
 have e:(bS k).map (mapM s)=bS k:=by
  unfold bS;split
  .show [aj.mk k (bW [])]=_;rw [Uu]
  .rfl
 unfold aZ;rw [e,wC (jU k).nf]
def RP.atom{n j:Int}(h1:0<=j)(h2:j<n):RP n (dG j):=by
 refine⟨jH j,λm hm=> ?_⟩;unfold dG at hm;split at hm
 .rw [List.mem_singleton]at hm;subst hm;exact⟨List.pairwise_singleton _ _,λi hi=>by rw [List.mem_singleton]at hi;subst hi;exact⟨h1,h2⟩⟩
 .exact absurd hm (by simp)
def ZO{s t:Int->Int}{n:Int}(h:Ren s t n)(hn:n<=200){j:Int}(h1:0<=j)(h2:j<n):aZ s (dG j)=dG (s j):=by
 have r:=h.rng j h1 h2;have e:(dG j).map (mapM s)=dG (s j):=by
  unfold dG;rw [if_pos ah,if_pos ah];show [aj.mk 1 (bW [s j])]=_;rw [Fg (List.pairwise_singleton _ _)]
 unfold aZ;rw [e,wC (jH _).nf]
def adX{s t:Int->Int}{n:Int}(h:Ren s t n){p:List aj}(hp:RP n p):(aZ s p).length=p.length:=by rw [(hp.perm h).length_eq,List.length_map]
def adY{s t:Int->Int}{n:Int}(h:Ren s t n){m:aj}(hp:RP n [m]):aZ s [m]=[mapM s m]:=List.perm_singleton.1 (hp.perm h)
theorem La{s t:Int->Int}{n:Int}(h:Ren s t n){p:List aj}(hp:RP n p):cB (aZ s p)=cB p:=by
 have l:=adX h hp;unfold cB;rw [aU (hp.ok h),aU hp.1,l]
 match p,hp,l with
 | [],_,_=>rfl
 | [m],hp,_=>
  rw [adY h hp];have e:(mapM s m).atoms.length=m.atoms.length:=by show(bW _).length=_;rw [qA,List.length_map]
  have e2:(mapM s m).bC=m.bC:=rfl;have z:((mapM s m).atoms=[])↔(m.atoms=[]):=by rw [<-List.length_eq_zero_iff,e,List.length_eq_zero_iff]
  simp [e2,z]
 | a::b::r,_,_=>simp
def RP.sum{n:Int}{l:List aj}(hl:∀m∈l,AtN n m.atoms):RP n (jZ l).2:=by
 unfold jZ;by_cases c:aI (nf l)
 .rw [aU c];exact⟨c,ZL hl⟩
 .rw [aR c];exact RP.nil n
def RP.add{n:Int}{a b:List aj}(ha:RP n a)(hb:RP n b):RP n (kZ a b).2:=by
 unfold kZ;rw [aU ha.1,aU hb.1];exact RP.sum λm hm=>by
  rcases List.mem_append.1 hm with g | g
  .exact ha.2 m g
  .exact hb.2 m g
def RP.mul{n:Int}{a b:List aj}(ha:RP n a)(hb:RP n b):RP n (kF a b).2:=by
 unfold kF;rw [aU ha.1,aU hb.1];exact RP.sum (K8 ha.2 hb.2)
def RP.scale{n:Int}{a:List aj}(ha:RP n a)(k:Int):RP n (gK a k):=by
 unfold gK;split
 .exact ha.mul (RP.const n k)
 .exact RP.nil n
def Qh{s t:Int->Int}{n:Int}(h:Ren s t n)(hn:n<=200){a:List aj}(ha:RP n a)(k:Int):gK (aZ s a) k=aZ s (gK a k):=by
 unfold gK;rw [aU (ha.ok h),aU ha.1];by_cases c:inB k 0 65535=true
 .rw [c];show(kF (aZ s a) (bS k)).2=aZ s (kF a (bS k)).2;rw [<-wE (s:=s) k,K9 h hn ha (RP.const n k),wE]
 .rw [Bool.not_eq_true]at c;rw [c];exact(rO s).symm
def Lb{s t:Int->Int}{n:Int}(h:Ren s t n){x y:List aj}(hx:RP n x)(hy:RP n y):eZ (aZ s x) (aZ s y)=0↔eZ x y=0:=by
 rw [fK,fK];exact⟨λe=>zG h hx hy e,λe=>by rw [e]⟩
def ZP{s t:Int->Int}{n:Int}(h:Ren s t n){x y:List aj}(hx:RP n x)(hy:RP n y)(op:Int):uO op (aZ s x) (aZ s y)=(aZ s (uO op x y).1,(uO op x y).2):=by
 unfold uO;rw [La h hx,La h hy];simp only [Lb h hx hy]
 repeat' split
 all_goals simp only [wE,rO]
def RP.bit{n:Int}{x y:List aj}(hx:RP n x)(hy:RP n y)(op:Int):RP n (uO op x y).1:=by
 unfold uO
 repeat' split
 all_goals first | exact hx | exact hy | exact RP.nil n | exact RP.const n _
def Uv{s t:Int->Int}{n:Int}(h:Ren s t n)(hn:n<=200){x y:List aj}(hx:RP n x)(hy:RP n y)(op:Int):fD op (aZ s x) (aZ s y)=(aZ s (fD op x y).1,(fD op x y).2):=by
 unfold fD;split; · rw [K7 h hn hx hy]
 split; · rw [Qh h hn hy,K7 h hn hx (hy.scale _)]
 split; · rw [K9 h hn hx hy]
 exact ZP h hx hy op
def RP.simp{n:Int}{x y:List aj}(hx:RP n x)(hy:RP n y)(op:Int):RP n (fD op x y).1:=by
 unfold fD;split; · exact hx.add hy
 split; · exact hx.add (hy.scale _)
 split; · exact hx.mul hy
 exact hx.bit hy op
def Bv{n:Int}{p:List aj}:RP n p↔aI p/\aX p n:=by
 constructor
 .rintro⟨h1,h2⟩;exact⟨h1,bO.2 λm hm k hk=>((h2 m hm).2 k hk).2⟩
 .rintro⟨h1,h2⟩;refine⟨h1,λm hm=>⟨(h1.aok hm).2.1,λk hk=>⟨((h1.aok hm).2.2 k hk).1,bO.1 h2 m hm k hk⟩⟩⟩
def lg{s s':Int->Int}{n:Int}(e:∀j,0<=j->j<n->s' j=s j){p:List aj}(hp:RP n p):aZ s' p=aZ s p:=by
 unfold aZ
 congr 1
 refine List.map_congr_left λm hm=> ?_
 unfold mapM
 congr 2
 exact List.map_congr_left λk hk=>e k ((hp.2 m hm).2 k hk).1 ((hp.2 m hm).2 k hk).2
def RP.le{n m:Int}{p:List aj}(h:RP n p)(hn:n<=m):RP m p:=⟨h.1,λa ha=>⟨(h.2 a ha).1,λk hk=>by have:=(h.2 a ha).2 k hk;omega⟩⟩
noncomputable def zH (s:Int->Int) (a:Atom):Atom:=
 if a.kind=4/\a.k≠2/\0<eZ (aZ s a.x) (aZ s a.y)then⟨a.kind,a.k,aZ s a.y,aZ s a.x⟩else⟨a.kind,a.k,aZ s a.x,aZ s a.y⟩
def Lc(a:Atom):Prop:=a.kind=4->a.k≠2->eZ a.x a.y<=0
def ZQ{s t:Int->Int}{n:Int}(h:Ren s t n){a b:Atom}(ax:RP n a.x)(ay:RP n a.y)(bx:RP n b.x)(by_:RP n b.y)(oa:Lc a)(ob:Lc b)(e:zH s a=zH s b):a=b:=by
 have key:a.kind=b.kind->a.k=b.k->(a.kind=4/\a.k≠2)->aZ s a.x=aZ s b.y->aZ s a.y=aZ s b.x->a=b:=λe1 e2 c e3 e4=>by
  have e3:=zG h ax by_ e3;have e4:=zG h ay bx e4;have o1:=oa c.1 c.2;have o2:=ob (e1▸c.1) (e2▸c.2);rw [<-e3,<-e4,Bq]at o2;have:a.x=a.y:=fK.1 ah;cases a;cases b;dsimp only at*;subst e1;subst e2;subst e3;subst e4;subst this;rfl
 have same:a.kind=b.kind->a.k=b.k->aZ s a.x=aZ s b.x->aZ s a.y=aZ s b.y->a=b:=λe1 e2 e3 e4=>by
  have e3:=zG h ax bx e3;have e4:=zG h ay by_ e4;cases a;cases b;dsimp only at*;subst e1;subst e2;subst e3;subst e4;rfl
 unfold zH at e;by_cases c:a.kind=4/\a.k≠2/\0<eZ (aZ s a.x) (aZ s a.y)
 .rw [if_pos c]at e;by_cases d:b.kind=4/\b.k≠2/\0<eZ (aZ s b.x) (aZ s b.y)
  .rw [if_pos d]at e;injection e with e1 e2 e3 e4;exact same e1 e2 e4 e3
  .rw [if_neg d]at e;injection e with e1 e2 e3 e4;exact key e1 e2 ⟨c.1,c.2.1⟩ e4 e3
 .rw [if_neg c]at e;by_cases d:b.kind=4/\b.k≠2/\0<eZ (aZ s b.x) (aZ s b.y)
  .rw [if_pos d]at e;injection e with e1 e2 e3 e4;exact key e1 e2 ⟨e1▸d.1,e2▸d.2.1⟩ e3 e4
  .rw [if_neg d]at e;injection e with e1 e2 e3 e4;exact same e1 e2 e3 e4
def Fj{s s':Int->Int}{n:Int}(e:∀j,0<=j->j<n->s' j=s j){a:Atom}(ax:RP n a.x)(ay:RP n a.y):zH s' a=zH s a:=by
 unfold zH;rw [lg e ax,lg e ay]
def Ld{a:Atom}{n:Int}(h:gq a n):RP n a.x/\RP n a.y:=by
 unfold gq at h;split at h
 .exact⟨Bv.2 ⟨h.2.1,h.2.2.2.1⟩,Bv.2 ⟨h.2.2.1,h.2.2.2.2⟩⟩
 .rw [h.1.1,h.1.2];exact⟨RP.nil n,RP.nil n⟩
def Sy{α:Type}[Inhabited α](l:List α)(a:α)(i:Int)(h:0<=i):((l++ [a]).getD (i).toNat default)=if i=l.length then a else((l).getD (i).toNat default):=by
 by_cases c:i=l.length
 .rw [if_pos c,c,List.getD_eq_getElem?_getD];simp
 .rw [if_neg c,List.getD_eq_getElem?_getD,List.getD_eq_getElem?_getD];by_cases d:i.toNat<l.length
  .rw [List.getElem?_append_left d]
  .rw [List.getElem?_eq_none (by rw [List.length_append,List.length_singleton];omega),List.getElem?_eq_none ah]
structure TR(s t:Int->Int)(u T:List Atom):Prop where
 r:Ren s t u.length
 tok:aF u
 im:∀i:Int,0<=i->i<u.length->s i<T.length/\((T).getD (s i).toNat default)=zH s ((u).getD (i).toNat default)
 ord:∀i:Int,0<=i->i<u.length->Lc ((u).getD (i).toNat default)
theorem TR.rp{s t:Int->Int}{u T:List Atom}(h:TR s t u T){i:Int}(h1:0<=i)(h2:i<u.length):RP i ((u).getD (i).toNat default).x/\RP i ((u).getD (i).toNat default).y:=Ld ((iL.1 h.tok).1 i h1 h2).1
def TR.snoc{s t:Int->Int}{u T:List Atom}(h:TR s t u T)(hT:aF T){a:Atom}(hu:aF (u++ [a]))(hn:∀i:Int,0<=i->i<u.length->((u).getD (i).toNat default)≠a)(ha:gq a u.length)(oa:Lc a){k:Int}(k0:0<=k)(k1:k<T.length)(k2:((T).getD (k).toNat default)=zH s a):
  ∃s' t':Int->Int,TR s' t' (u++ [a]) T/\(∀j:Int,0<=j->j<u.length->s' j=s j)/\s' u.length=k:=by
 have hT2:=(iL.1 hT).2;obtain⟨ax,ay⟩:=Ld ha;have ag:∀j:Int,0<=j->j< (u.length:Int)->(λj:Int=>if j=u.length then k else s j) j=s j:=λj h1 h2=>if_neg ah
 have nk:∀j:Int,0<=j->j< (u.length:Int)->s j≠k:=λj h1 h2 e=>by
  have g:=(h.im j h1 h2).2;rw [e,k2]at g;have:=h.rp h1 h2;exact hn j h1 h2 (ZQ h.r (this.1.le ah) (this.2.le ah) ax ay (h.ord j h1 h2) oa g.symm)
 have ln:((u++ [a]).length:Int)=u.length+1:=by rw [List.length_append,List.length_singleton];omega
 refine⟨λj:Int=>if j=u.length then k else s j,λv:Int=>if v=k then u.length else t v,⟨⟨λj h1 h2=> ?_,λj h1 h2=> ?_⟩,hu,λj h1 h2=> ?_,λj h1 h2=> ?_⟩,ag,if_pos rfl⟩
 .split
  .omega
  .exact h.r.rng j h1 ah
 .by_cases c:j=u.length
  .rw [if_pos c,if_pos rfl,c]
  .rw [if_neg c,if_neg (nk j h1 ah)];exact h.r.back j h1 ah
 .rw [Sy _ _ _ h1];by_cases c:j=u.length
  .rw [if_pos c,if_pos c,Fj (s:=s) ag ax ay];exact⟨k1,k2⟩
  .rw [if_neg c,if_neg c];have:=h.rp h1 (show j<u.length by omega);rw [Fj (s:=s) ag (this.1.le ah) (this.2.le ah)];exact h.im j h1 ah
 .rw [Sy _ _ _ h1];split
  .exact oa
  .exact h.ord j h1 ah
def adZ{T:List Atom}(hT:aF T){i j:Int}(i0:0<=i)(i1:i<T.length)(j0:0<=j)(j1:j<T.length)(e:((T).getD (i).toNat default)=((T).getD (j).toNat default)):i=j:=by
 have h:=(iL.1 hT).1;rcases Int.lt_trichotomy i j with c | c | c
 .exact absurd e.symm ((h j j0 j1).2 i i0 c)
 .exact c
 .exact absurd e ((h i i0 i1).2 j j0 c)
structure asW(s:Int->Int)(s' t':Int->Int)(u u' T:List Atom)(r k:Int):Prop where
 tr:TR s' t' u' T
 ag:∀j:Int,0<=j->j<u.length->s' j=s j
 r0:0<=r
 r1:r<u'.length
 sr:s' r=k
 le:u.length<=u'.length
theorem TR.put{s t:Int->Int}{u T:List Atom}(h:TR s t u T)(hT:aF T){a:Atom}(ha:gq a u.length)(oa:Lc a)(hl:u.length<200){k:Int}(k0:0<=k)(k1:k<T.length)(k2:((T).getD (k).toNat default)=zH s a):
  ∃s' t':Int->Int,asW s s' t' u (aT u a).1 T (aT u a).2 k:=by
 have ok:=zy (a:=a) h.tok hl;rcases iV u a with⟨f1,f2⟩ | ⟨f1,f2,f3,_⟩
 .have e:aT u a=(u++ [a],(u.length:Int)):=by
   unfold aT;rw [if_neg ah,if_neg];rintro(g | g)
   .exact g ha
   .omega
  rw [e]at ok ⊢;obtain⟨s',t',g1,g2,g3⟩:=h.snoc hT ok.1 (λi i0 i1 g=>f2 i i0 i1 g.symm) ha oa k0 k1 k2;exact⟨s',t',g1,g2,by dsimp only;omega,by dsimp only;rw [List.length_append,List.length_singleton];omega,g3,by dsimp only;rw [List.length_append];omega⟩
 .have e:aT u a=(u,oG u a):=by unfold aT;rw [if_pos f1]
  rw [e];have g:=h.im _ f1 f2;refine⟨s,t,h,λ_ _ _=>rfl,f1,f2,?_,Nat.le_refl _⟩;have f3:a=((u).getD (oG u a).toNat default):=f3;refine adZ hT (h.r.rng _ f1 f2).1 g.1 k0 k1 ?_;rw [g.2,<-f3,k2]
noncomputable def atD (op:Int) (x y:List aj):Atom:=if op≠2/\0<eZ x y then⟨4,op,y,x⟩else⟨4,op,x,y⟩
def Ji(t:List Atom)(op:Int)(x y:List aj):tDo t op x y=if(fD op x y).2 then(t,(fD op x y).1)else if(aT t (atD op x y)).2<0 then([],[])else((aT t (atD op x y)).1,dG (aT t (atD op x y)).2):=by
 unfold tDo atD;split
 .rfl
 .split<;>rfl
def ad1(op:Int)(x y:List aj):Lc (atD op x y):=by
 unfold atD Lc;split
 .rename_i c;intro _ _;dsimp only;rw [Bq];omega
 .rename_i c;intro _ g;dsimp only at g ⊢;by_cases d:0<eZ x y
  .exact absurd ⟨g,d⟩ c
  .omega
def ad2{s t:Int->Int}{n:Int}(h:Ren s t n){x y:List aj}(hx:RP n x)(hy:RP n y)(op:Int):zH s (atD op x y)=atD op (aZ s x) (aZ s y):=by
 have z:=Lb h hx hy;have f:=Bq (aZ s x) (aZ s y);have eq:eZ (aZ s x) (aZ s y)=0->aZ s x=aZ s y:=fK.1;unfold atD zH;by_cases c:op≠2/\0<eZ x y
 .rw [if_pos c];dsimp only;by_cases d:0<eZ (aZ s x) (aZ s y)
  .rw [if_neg ah,if_pos ⟨c.1,d⟩]
  .rw [if_pos ⟨rfl,c.1,ah⟩,if_neg ah]
 .rw [if_neg c];dsimp only;by_cases d:op≠2/\0<eZ (aZ s x) (aZ s y)
  .rw [if_pos ⟨rfl,d.1,d.2⟩,if_pos d]
  .rw [if_neg ah,if_neg d]
noncomputable def Le (s:Int->Int) (e:Ev):Ev:=⟨e.kind,e.at_,aZ s e.x,aZ s e.y,e.regs.map (aZ s)⟩
def RPs(n:Int)(l:List (List aj)):Prop:=∀p∈l,RP n p
def RPE(n:Int)(l:List Ev):Prop:=∀e∈l,RP n e.x/\RP n e.y/\RPs n e.regs
def RPs.le{n m:Int}{l:List (List aj)}(h:RPs n l)(hn:n<=m):RPs m l:=λp hp=>(h p hp).le hn
def RPE.le{n m:Int}{l:List Ev}(h:RPE n l)(hn:n<=m):RPE m l:=λe he=>⟨(h e he).1.le hn,(h e he).2.1.le hn,(h e he).2.2.le hn⟩
def yC{s s':Int->Int}{n:Int}(e:∀j,0<=j->j<n->s' j=s j){l:List (List aj)}(h:RPs n l):l.map (aZ s')=l.map (aZ s):=List.map_congr_left λp hp=>lg e (h p hp)
def Lf{s s':Int->Int}{n:Int}(e:∀j,0<=j->j<n->s' j=s j){l:List Ev}(h:RPE n l):l.map (Le s')=l.map (Le s):=List.map_congr_left λv hv=>by
 unfold Le;rw [lg e (h v hv).1,lg e (h v hv).2.1,yC e (h v hv).2.2]
def Qi(s:Int->Int)(l:List (List aj))(i:Int):((l.map (aZ s)).getD (i).toNat default)=aZ s ((l).getD (i).toNat default):=by
 rw [List.getD_eq_getElem?_getD,List.getD_eq_getElem?_getD,List.getElem?_map];cases l[i.toNat]? with
 | none=>exact(rO s).symm
 | some p=>rfl
def RPs.at{n:Int}{l:List (List aj)}(h:RPs n l)(i:Int):RP n ((l).getD (i).toNat default):=Bv.2 (yB (λp hp=>Bv.1 (h p hp)) i)
def ad3{op n:Int}{x y:List aj}(hop:1<=op/\op<=5)(hx:RP n x)(hy:RP n y):gq (atD op x y) n:=by
 have hx:=Bv.1 hx;have hy:=Bv.1 hy;unfold atD;split
 .unfold gq;rw [if_pos rfl];exact⟨hop,hy.1,hx.1,hy.2,hx.2⟩
 .unfold gq;rw [if_pos rfl];exact⟨hop,hx.1,hy.1,hx.2,hy.2⟩
def ai3{t:List Atom}{op:Int}{x y:List aj}(h:tOk t op x y=true)(c:¬(fD op x y).2=true):0<=(aT t (atD op x y)).2:=by
 unfold tOk at h;unfold atD;by_cases c2:op≠2/\0<eZ x y
 .rw [if_pos c2,Bool.or_eq_true,Bool.not_eq_true',decide_eq_false_iff_not]at h;rw [if_pos c2];have:=h.resolve_left c;omega
 .rw [if_neg c2,Bool.or_eq_true,Bool.not_eq_true',decide_eq_false_iff_not]at h;rw [if_neg c2];have:=h.resolve_left c;omega
structure St1(s s' t':Int->Int)(u u' T:List Atom)(v V:List aj):Prop where
 tr:TR s' t' u' T
 ag:∀j:Int,0<=j->j<u.length->s' j=s j
 eq:V=aZ s' v
 rp:RP u'.length v
def TR.n200{s t:Int->Int}{u T:List Atom}(h:TR s t u T):(u.length:Int)<=200:=by have:=(iL.1 h.tok).2;omega
def TR.ao8{s t:Int->Int}{u T:List Atom}(h:TR s t u T)(hT:aF T){a A:Atom}(ha:gq a u.length)(oa:Lc a)(hl:u.length<200)(k0:0<=(aT T A).2)(hc:(aT T A).1=T)(e:A=zH s a):
  ∃s' t':Int->Int,St1 s s' t' u (aT u a).1 T (dG (aT u a).2) (dG (aT T A).2)/\0<=(aT u a).2:=by
 obtain⟨k1,k2⟩:=rJ k0;rw [hc]at k1 k2;obtain⟨s',t',P⟩:=h.put hT ha oa hl k0 k1 (by rw [k2,e]);exact⟨s',t',⟨P.tr,P.ag,by rw [ZO P.tr.r P.tr.n200 P.r0 P.r1,P.sr],RP.atom P.r0 P.r1⟩,P.r0⟩
def TR.do1{s t:Int->Int}{u T:List Atom}(h:TR s t u T)(hT:aF T){op:Int}{x y:List aj}(hop:1<=op/\op<=5)(hx:RP u.length x)(hy:RP u.length y)(hl:u.length<200)(ok:tOk T op (aZ s x) (aZ s y)=true)(hc:(tDo T op (aZ s x) (aZ s y)).1=T):
  ∃s' t':Int->Int,St1 s s' t' u (tDo u op x y).1 T (tDo u op x y).2 (tDo T op (aZ s x) (aZ s y)).2:=by
 have e:=Uv h.r h.n200 hx hy op;by_cases c:(fD op x y).2=true
 .have e1:tDo u op x y=(u,(fD op x y).1):=by rw [Ji,if_pos c]
  have e2:tDo T op (aZ s x) (aZ s y)=(T,aZ s (fD op x y).1):=by rw [Ji,e,if_pos c]
  rw [e1,e2];exact⟨s,t,h,λ_ _ _=>rfl,rfl,hx.simp hy op⟩
 .have k0:=ai3 ok (by rw [e];exact c);have e2:tDo T op (aZ s x) (aZ s y)=((aT T (atD op (aZ s x) (aZ s y))).1,dG (aT T (atD op (aZ s x) (aZ s y))).2):=by rw [Ji,e,if_neg c,if_neg ah]
  rw [e2]at hc ⊢;obtain⟨s',t',P,r0⟩:=h.ao8 hT (ad3 hop hx hy) (ad1 op x y) hl k0 hc (ad2 h.r hx hy op).symm;have e1:tDo u op x y=((aT u (atD op x y)).1,dG (aT u (atD op x y)).2):=by rw [Ji,if_neg c,if_neg ah]
  rw [e1];exact⟨s',t',P⟩
def Qj(s:Int->Int){a:Atom}(h:a.kind≠4)(hx:a.x=[])(hy:a.y=[]):zH s a=a:=by
 unfold zH;rw [if_neg (λg=>h g.1),hx,hy,rO];cases a;dsimp only at*;rw [hx,hy]
structure LS(s t:Int->Int)(a A:SS):Prop where
 tr:TR s t a.t A.t
 regs:A.regs=a.regs.map (aZ s)
 rr:RPs a.t.length a.regs
 vals:A.vals=a.vals.map (aZ s)
 rv:RPs a.t.length a.vals
 ld:A.ld=a.ld
 inn:A.inn=a.inn
 evs:A.evs=a.evs.map (Le s)
 re:RPE a.t.length a.evs
def LS.x{s t:Int->Int}{a A:SS}(h:LS s t a A)(o:IOp):xOf A o=aZ s (xOf a o)/\RP a.t.length (xOf a o):=by
 unfold xOf;split
 .rw [h.vals,Qi];exact⟨rfl,h.rv.at _⟩
 .exact⟨(rO s).symm,RP.nil _⟩
def LS.y{s t:Int->Int}{a A:SS}(h:LS s t a A)(o:IOp):yOf A o=aZ s (yOf a o)/\RP a.t.length (yOf a o):=by
 unfold yOf;split
 .rw [h.vals,Qi];exact⟨rfl,h.rv.at _⟩
 .exact⟨(rO s).symm,RP.nil _⟩
def LS.val{s t:Int->Int}{a A:SS}(h:LS s t a A)(hT:aF A.t){n:Int}{i:Nat}(si:SI n i a)(hn:n+i<200)(hi:i<200){o:IOp}(hk:o.kind=3->1<=o.k/\o.k<=5)(sA:SOK A o)(hc:nT A o=A.t):
  ∃s' t':Int->Int,St1 s s' t' a.t (nT a o) A.t (nV a o) (nV A o):=by
 have hl:=si.tl;have hl:a.t.length<200:=by omega
 have ea:aOf A o=aOf a o:=by unfold aOf;rw [h.ld,h.inn]
 have id:∀v V,V=aZ s v->RP a.t.length v->nT a o=a.t->nV a o=v->nV A o=V->∃s' t':Int->Int,St1 s s' t' a.t (nT a o) A.t (nV a o) (nV A o):=λv V e r e1 e2 e3=>by
  rw [e1,e2,e3];exact⟨s,t,h.tr,λ_ _ _=>rfl,e,r⟩
 by_cases c3:o.kind=3
 .have e1:∀w:SS,nT w o=(tDo w.t o.k (xOf w o) (yOf w o)).1:=λw=>by unfold nT;rw [if_pos c3]
  have e2:∀w:SS,nV w o=(tDo w.t o.k (xOf w o) (yOf w o)).2:=λw=>by unfold nV;rw [if_neg ah,if_neg ah,if_pos c3]
  have ok:=(sA.d c3).ok;rw [e1]at hc;rw [(h.x o).1,(h.y o).1]at ok hc;rw [e1,e2,e2,(h.x o).1,(h.y o).1];exact h.tr.do1 hT (hk c3) (h.x o).2 (h.y o).2 hl ok hc
 .by_cases c4:o.kind=4\/o.kind=6
  .have e1:∀w:SS,nT w o=(aT w.t (aOf w o)).1:=λw=>by unfold nT;rw [if_neg c3,if_pos c4]
   have e2:∀w:SS,nV w o=dG (aT w.t (aOf w o)).2:=λw=>by unfold nV;rw [if_neg ah,if_neg ah,if_neg c3,if_pos c4]
   have k0:=sA.p c4;rw [e1]at hc;have f1:(aOf a o).kind≠4/\(aOf a o).x=[]/\(aOf a o).y=[]:=by unfold aOf;split<;>exact⟨by dsimp only;decide,rfl,rfl⟩
   obtain⟨s',t',P,_⟩:=h.tr.ao8 hT (Sg si hi o _) (λg=>absurd g f1.1) hl k0 hc (by rw [ea,Qj s f1.1 f1.2.1 f1.2.2]);rw [e1,e2,e2];exact⟨s',t',P⟩
  .have eT:nT a o=a.t:=by unfold nT;rw [if_neg c3,if_neg c4]
   by_cases c1:o.kind=1
   .exact id _ _ (wE o.k).symm (RP.const _ _) eT (by unfold nV;rw [if_pos c1]) (by unfold nV;rw [if_pos c1])
   .by_cases c2:o.kind=2
    .exact id _ _ rfl (h.rr.at o.k) eT (by unfold nV;rw [if_neg c1,if_pos c2]) (by unfold nV;rw [if_neg c1,if_pos c2,h.regs,Qi])
    .exact id _ _ (rO s).symm (RP.nil _) eT (by unfold nV;rw [if_neg c1,if_neg c2,if_neg c3,if_neg c4]) (by unfold nV;rw [if_neg c1,if_neg c2,if_neg c3,if_neg c4])
def LS.step{s t:Int->Int}{a A:SS}(h:LS s t a A)(hT:aF A.t){n:Int}{i:Nat}(si:SI n i a)(hn:n+i<200)(hi:i<200){o:IOp}(hk:o.kind=3->1<=o.k/\o.k<=5)(sA:SOK A o)(hc:(stp A o).t=A.t):
  ∃s' t':Int->Int,LS s' t' (stp a o) (stp A o)/\∀j:Int,0<=j->j<a.t.length->s' j=s j:=by
 have hc:nT A o=A.t:=hc;obtain⟨s',t',P⟩:=h.val hT si hn hi hk sA hc;have le:(a.t.length:Int)<=(nT a o).length:=by have:=oH (uR si hk hn hi).2.pre;exact Int.ofNat_le.2 this
 have ag:=P.ag;obtain⟨x1,x2⟩:=h.x o;obtain⟨y1,y2⟩:=h.y o;have x1':xOf A o=aZ s' (xOf a o):=by rw [x1,lg ag x2]
 have y1':yOf A o=aZ s' (yOf a o):=by rw [y1,lg ag y2]
 have r1':A.regs=a.regs.map (aZ s'):=by rw [h.regs,yC ag h.rr]
 refine⟨s',t',⟨?_,?_,?_,?_,?_,?_,?_,?_,?_⟩,ag⟩
 .show TR s' t' (nT a o) (nT A o);rw [hc];exact P.tr
 .show nR A o=(nR a o).map (aZ s');unfold nR;split
  .rw [List.map_set,<-r1',x1']
  .exact r1'
 .show RPs _ (nR a o);unfold nR;split
  .intro p hp;rcases List.mem_or_eq_of_mem_set hp with hp | rfl
   .exact(h.rr p hp).le le
   .exact x2.le le
  .exact h.rr.le le
 .show A.vals++ [nV A o]=(a.vals++ [nV a o]).map (aZ s');rw [List.map_append,h.vals,yC ag h.rv,P.eq];rfl
 .show RPs _ (a.vals++ [nV a o]);intro p hp;rw [List.mem_append,List.mem_singleton]at hp;rcases hp with hp | rfl
  .exact(h.rv p hp).le le
  .exact P.rp
 .show(if o.kind=4 then A.ld+1 else A.ld)=if o.kind=4 then a.ld+1 else a.ld;rw [h.ld]
 .show(if o.kind=6 then A.inn+1 else A.inn)=if o.kind=6 then a.inn+1 else a.inn;rw [h.inn]
 .show nE A o=(nE a o).map (Le s');unfold nE;have e0:A.evs=a.evs.map (Le s'):=by rw [h.evs,Lf ag h.re]
  split
  .rw [List.map_append,e0,x1',y1',r1']
   congr 1
   show [_]=[Le s' _];unfold Le;dsimp only;split<;>rfl
  .exact e0
 .show RPE _ (nE a o);unfold nE;split
  .intro e he;rw [List.mem_append,List.mem_singleton]at he;rcases he with he | rfl
   .exact h.re.le le e he
   .refine⟨x2.le le,y2.le le,?_⟩;dsimp only;split
    .exact h.rr.le le
    .exact λp hp=>absurd hp (by simp)
  .exact h.re.le le
def ZR{α:Type}{a b c:List α}(h:a<+:b)(g:b<+:c)(e:c=a):b=a:=by
 subst e;exact g.eq_of_length (Nat.le_antisymm (oH g) (oH h))
def LS.run{n N:Int}:∀(ops:List IOp) (i:Nat) (s t:Int->Int) (a A:SS),LS s t a A->SI n i a->SI N i A->(∀o∈ops,o.kind=3->1<=o.k/\o.k<=5)->n+i+ops.length<=200->N+i+ops.length<=200->i+ops.length<=200->(ops.foldl stp A).t=A.t->
  ∃s' t':Int->Int,LS s' t' (ops.foldl stp a) (ops.foldl stp A)/\∀j:Int,0<=j->j<a.t.length->s' j=s j
 | [],_,s,t,_,_,h,_,_,_,_,_,_,_=>⟨s,t,h,λ_ _ _=>rfl⟩
 | o::r,i,s,t,a,A,h,si,SI,hk,h1,h2,h3,hc=>by
  rw [List.length_cons]at h1 h2 h3;have ko:=hk o List.mem_cons_self;obtain⟨a1,a2⟩:=uR si ko ah ah;obtain⟨A1,A2⟩:=uR SI ko ah ah;have kr:∀o∈r,o.kind=3->1<=o.k/\o.k<=5:=λo ho=>hk o (List.mem_cons_of_mem _ ho)
  rw [List.foldl_cons]at hc;obtain⟨_,B2⟩:=uS r (i+1) (stp A o) A1 kr ah ah;have e1:(stp A o).t=A.t:=ZR A2.pre B2 hc;obtain⟨s1,t1,g1,g2⟩:=h.step SI.tok si ah ah ko A2 e1;obtain⟨s2,t2,g3,g4⟩:=LS.run r (i+1) s1 t1 _ _ g1 a1 A1 kr ah ah ah (by rw [hc,e1]);rw [List.foldl_cons,List.foldl_cons];exact⟨s2,t2,g3,λj j0 j1=>by rw [g4 j j0 (by have:=oH a2.pre;omega),g2 j j0 j1]⟩
structure YOK(n:Int)(y:Sym):Prop where
 e:RPE n y.events
 r:RPs n y.regs
 x:RP n y.x
 y:RP n y.y
def YOK.le{n m:Int}{y:Sym}(h:YOK n y)(hn:n<=m):YOK m y:=⟨h.e.le hn,h.r.le hn,h.x.le hn,h.y.le hn⟩
def TR.nil(T:List Atom):TR id id [] T:=by
 refine⟨⟨λk h1 h2=> ?_,λk h1 h2=> ?_⟩,qB,λk h1 h2=> ?_,λk h1 h2=> ?_⟩<;>exact absurd h2 (by simp;omega)
def ai4{p1 f1}(U1:Y13 p1 f1)(a:List (List aj))(ha:ShP a):Oi.F (p1,f1,()) (a,()) (λy=>y=(a,())):=by
 have hlen:=ha.1;dsimp only [Oi,gm];refine ak (λ(y:List (List aj)×Int×List (List aj)×Unit)=>y.1=a/\y.2.2.1=a.take y.2.1.toNat/\0<=y.2.1/\y.2.1<=a.length) (λy=>(a.length-y.2.1).toNat) ⟨rfl,by simp,by simp,by simp⟩ ?_;rintro⟨(l:List (List aj)),(i:Int),(o:List (List aj)),⟨⟩⟩ hI;dsimp only at hI ⊢;obtain⟨rfl,rfl,h1,h2⟩:=hI;simp (disch:=omega) only [RR,U1.hp _ (ha.at _),U1.hf _ (ha.at _)];refine⟨λh4=>⟨ah,ah,?_,⟨bK h1 h4 rfl,ah,ah⟩,ah⟩,λh4=>by rw [List.take_of_length_le ah]⟩;have:=List.length_take_le' i.toNat l;simp only [List.length_cons,List.length_nil];omega
def ZT(k:Int)(l:List (List aj)):NS.F () (k,l,()) (λy=>y=(if k<0\/(l.length:Int)<=k then []else((l).getD (k).toNat default),l,())):=by
 dsimp only [NS,gm];simp (disch:=omega) only [RR];refine⟨λh=>by rw [if_pos ah],λh=>⟨ah,ah,ah,ah,by rw [if_neg ah]⟩⟩
def pK(l:List Ev)(k:Int):Int:=((l.filter λe=>decide (e.kind=k)).length:Int)
def wF(l:List Ev)(e:Ev)(k:Int):pK (l++ [e]) k=if e.kind=k then pK l k+1 else pK l k:=by
 unfold pK;rw [List.filter_append,List.length_append];by_cases c:e.kind=k
 .rw [if_pos c,List.filter_cons_of_pos (by simpa using c)];simp
 .rw [if_neg c,List.filter_cons_of_neg (by simpa using c)];simp
def ZU(l:List Ev)(k:Int)(hl:l.length<1000000000):Og.F () (l,k,()) (λy=>y=(pK l k,())):=by
 dsimp only [Og,gm];refine ak (λ(y:List Ev×Int×Int×Int×Unit)=>y.1=l/\y.2.1=k/\y.2.2.1=pK (l.take y.2.2.2.1.toNat) k/\0<=y.2.2.2.1/\y.2.2.2.1<=l.length) (λy=>(l.length-y.2.2.2.1).toNat) ⟨rfl,rfl,by simp;rfl,by simp,by simp⟩ ?_;rintro⟨(l:List Ev),(k:Int),(n:Int),(i:Int),⟨⟩⟩ hI;dsimp only at hI ⊢;obtain⟨rfl,rfl,rfl,h1,h2⟩:=hI;have b:0<=pK (l.take i.toNat) k/\pK (l.take i.toNat) k<=i:=by
  unfold pK;have:=List.length_filter_le (λe:Ev=>decide (e.kind=k)) (l.take i.toNat);have:=List.length_take_le i.toNat l;omega
 simp (disch:=omega) only [RR,RB];refine⟨λh4=>⟨ah,ah,?_⟩,λh4=>by rw [List.take_of_length_le ah]⟩;have e:l.take (i+1).toNat=l.take i.toNat++ [((l).getD (i).toNat default)]:=by rw [show(i+1).toNat=i.toNat+1 by omega,List.take_succ_eq_append_getElem ah,getD_lt (show i.toNat<l.length by omega)]
 refine⟨λg=>⟨⟨?_,ah,ah⟩,ah⟩,λg=>⟨⟨?_,ah,ah⟩,ah⟩⟩
 .rw [e,wF,if_pos g]
 .rw [e,wF,if_neg g]
def ai5{p1 f1 p2 f2}(U1:Y28 p1 f1)(U2:Y35 p2 f2){p3:List Ev×Int×Unit->Bool}{f3:List Ev×Int×Unit->Int×Unit}(hp3:∀l k,l.length<1000000000->p3 (l,k,())=true)(hf3:∀l k,l.length<1000000000->f3 (l,k,())=(pK l k,()))(l:List Ev)(k:Int)(t:List Atom)(hl:l.length<1000000000)(ht:ShT t)(hk:aF t):Oh.F (p1,f1,p2,f2,p3,f3,()) (l,k,t,()) (λy=>y=((aT t ⟨if k=6 then 3 else 2,pK l k,[],[]⟩).1,dG (aT t ⟨if k=6 then 3 else 2,pK l k,[],[]⟩).2,())):=by
 have sh:∀n:Int,ShA ⟨n,pK l k,[],[]⟩:=λn=>⟨⟨by simp,λm hm=>absurd hm (by simp)⟩,⟨by simp,λm hm=>absurd hm (by simp)⟩⟩
 dsimp only [Oh,gm];simp (disch:=omega) only [RR,hp3 l k hl,hf3 l k hl,U2.hp _ t (sh _) ht hk,U2.hf _ t (sh _) ht hk,U1.hp,U1.hf];exact⟨λh=>by rw [if_pos h],λh=>by rw [if_neg h]⟩
def ai6{p1 f1 p2 f2}(U1:Y13 p1 f1)(U2:Y56 p2 f2)(o:IOp)(x y:List aj)(r:List (List aj))(hx:Sh x)(hy:Sh y)(hr:ShP r):Oj.F (p1,f1,p2,f2,()) (o,x,y,r,()) (λz=>z=(o.kind,o.at_,if o.kind=6 then []else x,if o.kind=5 then y else [],if o.kind=4\/o.kind=5 then r else [],())):=by
 dsimp only [Oj,gm];simp (disch:=omega) only [RR,RB,U1.hp x hx,U1.hf x hx,U1.hp y hy,U1.hf y hy,U2.hp r hr,U2.hf r hr];refine⟨λh=>⟨λg=> ?_,λg=> ?_⟩,λh=>⟨λg=> ?_,λg=> ?_⟩⟩
 all_goals refine⟨λk=> ?_,λk=> ?_⟩
 all_goals first | rw [if_pos h] | rw [if_neg h]
 all_goals first | rw [if_pos g] | rw [if_neg g]
 all_goals first | rw [if_pos k] | rw [if_neg ah]
def ZV(s:Sym)(k:Int):Oo.F () (s,k,()) (λy=>y=(s.events,s.regs,1,k,())):=by
 dsimp only [Oo,gm];simp (disch:=omega) only [RR,RB]
def ZW(b:Blk):Ol.F () (b,()) (λy=>y=(if b.fin=1 then-1 else b.x,())):=by
 dsimp only [Ol,gm];simp (disch:=omega) only [RR,RB];exact⟨λh=>by rw [if_pos h],λh=>by rw [if_neg h]⟩
def ZX(b:Blk):Om.F () (b,()) (λy=>y=(if b.fin=1\/b.fin=2 then-1 else b.y,())):=by
 dsimp only [Om,gm];simp (disch:=omega) only [RR,RB];exact⟨λh=>by rw [if_pos h],λh=>by rw [if_neg ah]⟩
structure ao9(pp:Sym×Int×Unit->Bool)(ff:Sym×Int×Unit->List Ev×List (List aj)×Int×Int×Unit):Prop where
 hp:∀s k,pp (s,k,())=true
 hf:∀s k,ff (s,k,())=(s.events,s.regs,1,k,())
def ai7{p1 f1 p2 f2 p3 f3}(U1:Y27 p1 f1)(U2:Y8 p2 f2)(U3:ao9 p3 f3)(s:Sym)(n:Int)(hs:ShY s)(hx:aI s.x)(hy:aI s.y)(hf:s.fin=3\/s.fin=4):Oq.F (p1,f1,p2,f2,p3,f3,()) (s,n,()) (λy=>y=(symEnd s n,())):=by
 dsimp only [Oq,gm];simp (disch:=omega) only [RR,RB,U1.hp _ hs.x,U1.hf _ hs.x,U1.hp _ hs.y,U1.hf _ hs.y,U2.hp _ _ hs.x,U2.hf _ _ hs.x,U3.hp,U3.hf];have z:eZ s.x s.y=0↔s.x=s.y:=fK;have key:(cB s.x).2=true->(cB s.y).2=true->(cB s.x).1=(cB s.y).1->s.x=s.y:=λa b c=>(rH a).2.1.trans ((congrArg bS c).trans (rH b).2.1.symm)
 unfold symEnd;rw [aU ⟨hx,hy⟩,if_neg (show¬(true=false) by decide),if_neg (show¬(s.fin=2/\(cB s.x).2=true) by omega),if_neg (show¬(s.fin≠3/\s.fin≠4) by omega)];simp only [z];by_cases c:s.x=s.y
 .have l:¬(cB s.x).1< (cB s.y).1:=by rw [c];omega
  rcases hf with f | f<;>simp [c,f]
 .rcases hf with f | f<;>by_cases nx:(cB s.x).2=true<;>by_cases ny:(cB s.y).2=true<;>by_cases l:(cB s.x).1< (cB s.y).1<;>by_cases g:0<eZ s.x s.y<;>simp [c,f,nx,ny,l,g]
  all_goals rw [if_neg λe=>c (key nx ny e)]
def ai8{p1 f1 p2 f2 p3 f3 p4 f4 p6 f6}(U1:Y27 p1 f1)(U2:Y11 p2 f2)(U3:Y13 p3 f3)(U4:ao9 p4 f4){p5:Sym×Int×Unit->Bool}{f5:Sym×Int×Unit->Sym×Unit}(hp5:∀s n,ShY s->aI s.x->aI s.y->(s.fin=3\/s.fin=4)->p5 (s,n,())=true)(hf5:∀s n,ShY s->aI s.x->aI s.y->(s.fin=3\/s.fin=4)->f5 (s,n,())=(symEnd s n,()))(U6:Y56 p6 f6)(s:Sym)(n:Int)(hs:ShY s):Ou.F (p1,f1,p2,f2,p3,f3,p4,f4,p5,f5,p6,f6,()) (s,n,()) (λy=>y=(symEnd s n,())):=by
 dsimp only [Ou,gm];simp (disch:=omega) only [RR,RB,U2.hp _ hs.x,U2.hf _ hs.x,U2.hp _ hs.y,U2.hf _ hs.y];have le:=hs.e.1;have no:(bp (aI s.x)=false\/bp (aI s.y)=false)->symEnd s n=Uo:=λh=>by
  unfold symEnd;rw [if_pos];rw [gY];rcases h with h | h<;>rw [h]<;>simp
 refine⟨λh=>by rw [no h];rfl,λh=> ?_⟩;have hx:=aN.1 h.1;have hy:=aN.1 h.2;refine ak (λ(y:Int×Int×Sym×Int×Int×List (List aj)×Int×List aj×List aj×Int×List Ev×Unit)=>y.1=n/\y.2.2.1=s/\y.2.2.2.2.2.2.1=s.fin/\y.2.2.2.2.2.2.2.2.2.1=s.k/\0<=y.2.1/\y.2.1<=s.events.length/\y.2.2.2.2.2.2.2.2.2.2.1=s.events.take y.2.1.toNat) (λy=>(s.events.length-y.2.1).toNat) ⟨rfl,rfl,rfl,rfl,by simp,by simp,by simp⟩ ?_;rintro⟨(n':Int),(i:Int),(s':Sym),(z1:Int),(z2:Int),(z3:List (List aj)),(fin:Int),(z4:List aj),(z5:List aj),(k:Int),(ev:List Ev),⟨⟩⟩ hI;dsimp only at hI ⊢;obtain⟨rfl,rfl,rfl,rfl,h1,h2,rfl⟩:=hI;have E:=hs.e.at i.toNat;have tl:=List.length_take_le' i.toNat s'.events;by_cases g:i<s'.events.length
 .simp (disch:=omega) only [RR,RB,g,U3.hp _ E.1,U3.hf _ E.1,U3.hp _ E.2.1,U3.hf _ E.2.1,U6.hp _ E.2.2,U6.hf _ E.2.2];exact⟨h1,by simp only [List.length_cons,List.length_nil];omega,⟨ah,ah,bK h1 g rfl⟩,ah⟩
 .have ef:s'.events.take i.toNat=s'.events:=List.take_of_length_le ah;rw [ef];simp (disch:=omega) only [RR,RB,g,U3.hp _ hs.x,U3.hf _ hs.x,U3.hp _ hs.y,U3.hf _ hs.y,U6.hp _ hs.r,U6.hf _ hs.r,U1.hp _ hs.x,U1.hf _ hs.x,U4.hp,U4.hf];have b:¬bp (aI s'.x/\aI s'.y)=false:=by rw [aU ⟨hx,hy⟩];decide
  have P:=λf=>hp5 s' n' hs hx hy f
  have F:=λf=>hf5 s' n' hs hx hy f
  have pl:s'.fin≠3/\s'.fin≠4->¬(s'.fin=2/\(cB s'.x).2=true)->symEnd s' n'=s':=λc d=>by unfold symEnd;rw [if_neg b,if_neg d,if_pos c]
  refine⟨λf=>⟨λg=> ?_,λg=> ?_⟩,λf=>⟨λk=>⟨λ_=>⟨P (Or.inl k),?_⟩,λe=>absurd k e⟩,λk=>⟨λl=>⟨P (Or.inr l),?_⟩,λl=> ?_⟩⟩⟩
  .unfold symEnd;rw [if_neg b,if_pos ⟨f,g⟩]
  .rw [pl ah (by rw [g];simp)]
  .exact congrArg (λz=>(z.1,())) (F (Or.inl k))
  .exact congrArg (λz=>(z.1,())) (F (Or.inr l))
  .rw [pl ⟨k,l⟩ (λh=>f h.1)]
structure Cn(s:SS):Prop where
 ld:s.ld=pK s.evs 4
 inn:s.inn=pK s.evs 6
def Cn.stp{s:SS}(h:Cn s)(o:IOp):Cn (stp s o):=by
 constructor
 .show(if o.kind=4 then s.ld+1 else s.ld)=pK (nE s o) 4;unfold nE;by_cases c:evO o
  .rw [if_pos c,wF,h.ld]
  .rw [if_neg c,if_neg (λe=>c (by unfold evO;omega)),h.ld]
 .show(if o.kind=6 then s.inn+1 else s.inn)=pK (nE s o) 6;unfold nE;by_cases c:evO o
  .rw [if_pos c,wF,h.inn]
  .rw [if_neg c,if_neg (λe=>c (by unfold evO;omega)),h.inn]
def Cn.run:∀(l:List IOp) (s:SS),Cn s->Cn (l.foldl Go.TX.F.stp s)
 | [],_,h=>h
 | o::r,s,h=>Cn.run r _ (h.stp o)
structure Pt2(t:List Atom)(b:Blk)(i:Nat)(tb:List Atom)(V:List (List aj))(ev:List Ev)(rg:List (List aj)):Prop where
 tb:tb=(SW t b i).t
 V:V=(SW t b i).vals
 ev:ev=(SW t b i).evs
 rg:rg=(SW t b i).regs
def Pt2.next{t:List Atom}{b:Blk}{i:Nat}{tb:List Atom}{V:List (List aj)}{ev:List Ev}{rg:List (List aj)}(h:Pt2 t b i tb V ev rg)(hi:i<b.ops.length){o:IOp}(ho:b.ops.getD i default=o)
  {v:List aj} {tb':List Atom} {ev':List Ev} {rg':List (List aj)} (h3:tb'=nT (SW t b i) o) (h4:v=nV (SW t b i) o) (h5:ev'=nE (SW t b i) o) (h6:rg'=nR (SW t b i) o):Pt2 t b (i+1) tb' (V++ [v]) ev' rg':=by
 have e:=Sq (t:=t) hi;rw [ho]at e;refine⟨?_,?_,?_,?_⟩<;>rw [e]
 .exact h3
 .rw [h.V,h4];rfl
 .exact h5
 .exact h6
def FQ{α:Type}{l:List α}{i:Nat}(h:i<l.length)(v:α):(l.set i v).take (i+1)=l.take i++ [v]:=by
 rw [List.take_succ_eq_append_getElem (by rw [List.length_set];exact h),List.getElem_set_self,List.take_set_of_le (Nat.le_refl _)]
structure asX(pp:Sym×Int×Unit->Bool)(ff:Sym×Int×Unit->Sym×Unit):Prop where
 hp:∀s n,ShY s->pp (s,n,())=true
 hf:∀s n,ShY s->ff (s,n,())=(symEnd s n,())
set_option maxHeartbeats 1000000 in
def ai9{p1 f1 p2 f2 p3 f3 p4 f4 p5 f5 p6 f6 p7 f7 p8 f8 p10 f10 p14 f14}(U1:Y60 p1 f1)(U2:Y28 p2 f2)(U3:Y22 p3 f3)(U4:asX p4 f4)(U5:Y44 p5 f5)(U6:Y29 p6 f6)(U7:Y13 p7 f7)(U8:Y31 p8 f8){p9:Int×List aj×List aj×List Atom×Unit->Bool}{f9:Int×List aj×List aj×List Atom×Unit->List Atom×List aj×Unit}(hp9:∀op x y t,(1<=op/\op<=5)->Sh x->Sh y->ShT t->aF t->p9 (op,x,y,t,())=true)(hf9:∀op x y t,(1<=op/\op<=5)->Sh x->Sh y->ShT t->aF t->f9 (op,x,y,t,())=((tDo t op x y).1,(tDo t op x y).2,()))(U10:Y35 p10 f10){p11:List Ev×Int×List Atom×Unit->Bool}{f11:List Ev×Int×List Atom×Unit->List Atom×List aj×Unit}(adS:∀l k t,l.length<1000000000->ShT t->aF t->p11 (l,k,t,())=true)(adT:∀l k t,l.length<1000000000->ShT t->aF t->f11 (l,k,t,())=((aT t ⟨if k=6 then 3 else 2,pK l k,[],[]⟩).1,dG (aT t ⟨if k=6 then 3 else 2,pK l k,[],[]⟩).2,())){p12:IOp×List aj×List aj×List (List aj)×Unit->Bool}{f12:IOp×List aj×List aj×List (List aj)×Unit->Int×Int×List aj×List aj×List (List aj)×Unit}(Qe:∀o x y r,Sh x->Sh y->ShP r->p12 (o,x,y,r,())=true)(Qf:∀o x y r,Sh x->Sh y->ShP r->f12 (o,x,y,r,())=(o.kind,o.at_,if o.kind=6 then []else x,if o.kind=5 then y else [],if o.kind=4\/o.kind=5 then r else [],())){p13:Int×List (List aj)×Unit->Bool}{f13:Int×List (List aj)×Unit->List aj×List (List aj)×Unit}(Jj:∀k l,p13 (k,l,())=true)(ad4:∀k l,f13 (k,l,())=(if k<0\/(l.length:Int)<=k then []else((l).getD (k).toNat default),l,()))(U14:Y56 p14 f14){p15:Blk×Unit->Bool}{f15:Blk×Unit->Int×Unit}(asY:∀b,p15 (b,())=true)(asZ:∀b,f15 (b,())=(if b.fin=1 then-1 else b.x,())){p16:Blk×Unit->Bool}{f16:Blk×Unit->Int×Unit}(as0:∀b,p16 (b,())=true)(as1:∀b,f16 (b,())=(if b.fin=1\/b.fin=2 then-1 else b.y,()))(t:List Atom)(b:Blk)(ht:ShT t)(hb:b.ops.length<1000000000):Ov.F (p1,f1,p2,f2,p3,f3,p4,f4,p5,f5,p6,f6,p7,f7,p8,f8,p9,f9,p10,f10,p11,f11,p12,f12,p13,f13,p14,f14,p15,f15,p16,f16,()) (t,b,()) (λy=>y=((bP t b).1,(bP t b).2,())):=by
 obtain⟨hp1,hf1⟩:=U1;obtain⟨hp2,hf2⟩:=U2;obtain⟨hp3,hf3⟩:=U3;obtain⟨hp4,hf4⟩:=U4;obtain⟨hp5,hf5⟩:=U5;obtain⟨hp6,hf6⟩:=U6;obtain⟨hp7,hf7⟩:=U7;obtain⟨hp8,hf8⟩:=U8;obtain⟨adR,aiX⟩:=U10;obtain⟨as2,as3⟩:=U14;have hlt:=ht.1;dsimp only [Ov,gm];simp (disch:=omega) only [RR,RB,hp6 t ht,hf6 t ht,hp1 b hb,hf1 b hb,hp8 t ht,hf8 t ht,hp5];by_cases c:aF t/\t.length<=100/\iK b
 case neg=>
  refine⟨λ_=> ?_,λh=> ?_⟩
  .unfold bP;rw [aR c];rfl
  .exact absurd ⟨aN.1 h.1.1,ah,aN.1 h.1.2⟩ c
 obtain⟨c1,c2,c3⟩:=c;simp (disch:=omega) only [RR,aU c1,aU c3];have sz:=c3.sz;have hop:=c3.op;have hk3:=c3.k3;have i0:=GH c1 ah;obtain⟨_,g5,_⟩:=hf5;refine⟨λh=>absurd h ah,λ_=> ?_⟩;refine ak (λ(y:Int×Blk×Int×Int×Int×Int×List (List aj)×List Atom×Unit)=>0<=y.1/\y.1<=4/\y.2.1=b/\y.2.2.2.2.1=b.fin/\y.2.2.2.2.2.1=b.k/\y.2.2.2.2.2.2.1.length=4/\y.2.2.2.2.2.2.1.take y.1.toNat=(rN t y.1.toNat).2/\y.2.2.2.2.2.2.2.1=(rN t y.1.toNat).1) (λy=>(4-y.1).toNat) ⟨by simp,by simp,rfl,rfl,rfl,g5,by simp;rfl,rfl⟩ ?_;rintro⟨(r:Int),(b':Blk),(z1:Int),(z2:Int),(fin:Int),(kk:Int),(rg:List (List aj)),(tb:List Atom),⟨⟩⟩ hI;dsimp only at hI ⊢;obtain⟨r0,r1,rfl,rfl,rfl,r4,r5,rfl⟩:=hI;have ok:=Ch c1 ah r.toNat ah;have okl:=ok.tl;by_cases h:r<4
 .have sA:ShA ⟨1,r,[],[]⟩:=⟨⟨by simp,λm hm=>absurd hm (by simp)⟩,⟨by simp,λm hm=>absurd hm (by simp)⟩⟩;have er:((r.toNat:Nat):Int)=r:=by omega
  simp (disch:=omega) only [RR,h,adR _ _ sA ok.tok.sh ok.tok,aiX _ _ sA ok.tok.sh ok.tok,hp2,hf2,r4,List.length_set];have es:rN t (r+1).toNat=((aT (rN t r.toNat).1 ⟨1,r,[],[]⟩).1,(rN t r.toNat).2++ [dG (aT (rN t r.toNat).1 ⟨1,r,[],[]⟩).2]):=by
   rw [show(r+1).toNat=r.toNat+1 by omega,Df,er]
  refine⟨r0,ah,r0,ah,⟨ah,ah,?_,by rw [es]⟩,ah⟩;rw [es,show(r+1).toNat=r.toNat+1 by omega,FQ ah,r5]
 .have e4:r.toNat=4:=by omega
  rw [e4]at r5 ok;have eg:rg=(rN t 4).2:=by rw [<-r5,List.take_of_length_le ah]
  subst eg;rw [e4];simp (disch:=omega) only [RR,h];refine ak (λ(y:Int×Blk×Int×Int×Int×Int×List (List aj)×List (List aj)×List Atom×List Ev×Unit)=>0<=y.1/\y.1<=b'.ops.length/\y.2.1=b'/\y.2.2.2.2.1=b'.fin/\y.2.2.2.2.2.1=b'.k/\Pt2 t b' y.1.toNat y.2.2.2.2.2.2.2.2.1 y.2.2.2.2.2.2.2.1 y.2.2.2.2.2.2.2.2.2.1 y.2.2.2.2.2.2.1) (λy=>(b'.ops.length-y.1).toNat) ⟨by simp,by simp,rfl,rfl,rfl,⟨rfl,rfl,rfl,rfl⟩⟩ ?_;have siw:∀j:Nat,j<=b'.ops.length->SI (t.length+4) j (SW t b' j):=λj hj=>by
   have:=(uS (b'.ops.take j) 0 (s0 t) i0 (λo ho=>hk3 o (List.mem_of_mem_take ho)) (by rw [List.length_take];omega) (by rw [List.length_take];omega)).1;rw [List.length_take,Nat.min_eq_left hj,Nat.zero_add]at this;exact this
  rintro⟨(i:Int),(b:Blk),(z1:Int),(z2:Int),(fin:Int),(kk:Int),(rg:List (List aj)),(V:List (List aj)),(tb:List Atom),(ev:List Ev),⟨⟩⟩ hI;dsimp only at hI ⊢;obtain⟨h1,h2,rfl,rfl,rfl,hA⟩:=hI;have si:=siw i.toNat ah;have evl:=ZG (t:=t) (b:=b) i.toNat ah;have cn:=Cn.run (b.ops.take i.toNat) (s0 t) ⟨rfl,rfl⟩;have cn:Cn (SW t b i.toNat):=cn;by_cases h7:i<b.ops.length
  case neg=>
   have en:=c3.en;have hf:=en.f;have hpc:=c3.pc;have hln:=c3.ln;have ein:i.toNat=b.ops.length:=by omega
   have eS:SW t b i.toNat=gQ t b:=by unfold SW gQ;rw [ein,List.take_of_length_le (Nat.le_refl _)]
   obtain⟨a3,a4,a5,a6⟩:=hA;rw [eS]at a3 a4 a5 a6 si;subst a3 a4 a5 a6;have pk:=Jd (b:=b) si;have eR:=rM c1 c2 c3;have sh:ShY (zC b (gQ t b)):=by
    have hs:=Jc b.ops 0 (s0 t) i0 hk3 ah ah ⟨by simp [s0],λe he=>absurd he (by simp [s0])⟩;exact⟨⟨by have:=hs.1;show(b.ops.foldl stp (s0 t)).evs.length<_;omega,hs.2⟩,si.regs,pk.1.sh,pk.2.sh⟩
   have sl:=si.vl;have x1:=en.x1;have y1:=en.y1;have EX:f13 (if b.fin=1 then-1 else b.x,(gQ t b).vals,())=((zC b (gQ t b)).x,(gQ t b).vals,()):=by
    rw [ad4];show _=(if b.fin=1 then []else(((gQ t b).vals).getD (b.x).toNat default),_);by_cases c:b.fin=1
    .rw [if_pos c,if_pos c,if_pos ah]
    .obtain⟨v1,v2,_⟩:=x1 c;rw [if_neg c,if_neg c,if_neg ah]
   have EY:f13 (if b.fin=1\/b.fin=2 then-1 else b.y,(gQ t b).vals,())=((zC b (gQ t b)).y,(gQ t b).vals,()):=by
    rw [ad4];show _=(if 3<=b.fin then(((gQ t b).vals).getD (b.y).toNat default)else [],_);by_cases c:b.fin=1\/b.fin=2
    .rw [if_pos c,if_pos (Or.inl (by decide)),if_neg (show¬3<=b.fin by omega)]
    .obtain⟨v1,v2,_⟩:=y1 ah;rw [if_neg c,if_neg (show¬(b.y<0\/((gQ t b).vals.length:Int)<=b.y) by omega),if_pos (show 3<=b.fin by have:=hf;omega)]
   have shr:ShP (gQ t b).regs:=sh.r;simp (disch:=omega) only [RR,RB,h7,as2 _ shr,as3 _ shr,asY,asZ,as0,as1,Jj,EX,EY,hp7 _ sh.x,hf7 _ sh.x,hp7 _ sh.y,hf7 _ sh.y];exact⟨hp4 _ _ sh,by rw [eR];exact congrArg (λz=>((gQ t b).t,z.1,())) (hf4 (zC b (gQ t b)) (b.pc+b.len) sh)⟩
  have hok:=hop i h1 h7;have nxt:=λ{v:List aj} {tb':List Atom} {ev':List Ev} {rg':List (List aj)}=>Pt2.next (o:=((b.ops).getD (i).toNat default)) hA ah rfl (v:=v) (tb':=tb') (ev':=ev') (rg':=rg')
  obtain⟨a3,a4,a5,a6⟩:=hA;have ei:(i+1).toNat=i.toNat+1:=by omega
  obtain⟨sn,so⟩:=uR (o:=((b.ops).getD (i).toNat default)) si hok.k3 ah ah;have vl:=si.vl;have shv:∀k:Int,Sh (if k<0\/(V.length:Int)<=k then []else((V).getD (k).toNat default)):=λk=>by
   split
   .exact⟨by simp,λm hm=>absurd hm (by simp)⟩
   .rw [a4];exact(yB si.vok k).1.sh
  obtain⟨X,eX⟩:∃X,X=if(((b.ops).getD (i).toNat default)).x<0\/(V.length:Int)<=(((b.ops).getD (i).toNat default)).x then []else((V).getD ((((b.ops).getD (i).toNat default)).x).toNat default):=⟨_,rfl⟩
  obtain⟨Y,eY⟩:∃Y,Y=if(((b.ops).getD (i).toNat default)).y<0\/(V.length:Int)<=(((b.ops).getD (i).toNat default)).y then []else((V).getD ((((b.ops).getD (i).toNat default)).y).toNat default):=⟨_,rfl⟩
  have F1:f13 ((((b.ops).getD (i).toNat default)).x,V,())=(X,V,()):=by rw [ad4,eX]
  have F2:f13 ((((b.ops).getD (i).toNat default)).y,V,())=(Y,V,()):=by rw [ad4,eY]
  have shx:Sh X:=eX▸shv _;have shy:Sh Y:=eY▸shv _;have ex:hX ((b.ops).getD (i).toNat default)->X=xOf (SW t b i.toNat) ((b.ops).getD (i).toNat default):=λh=>by
   have v:=hok.x1 h;have v2:=v.2.1;unfold xOf;rw [if_pos h,eX,if_neg (by rw [a4,vl];have:=v.1;omega),a4]
  have ey:hY ((b.ops).getD (i).toNat default)->Y=yOf (SW t b i.toNat) ((b.ops).getD (i).toNat default):=λh=>by
   have v:=hok.y1 h;have v2:=v.2.1;unfold yOf;rw [if_pos h,eY,if_neg (by rw [a4,vl];have:=v.1;omega),a4]
  clear eX eY shv
  have vl':V.length=i.toNat:=by rw [a4];exact vl
  generalize hs:SW t b i.toNat=s at*;generalize ho:((b.ops).getD (i).toNat default)=o at*;have kd:=hok.kd;subst a3 a5 a6;have r4:s.regs.length=4:=si.r4;have tsh:=si.tok.sh;have cnl:=cn.ld;have cni:=cn.inn;have rsh:ShP s.regs:=si.regs;have dn:=λ{v:List aj} {tb':List Atom} {ev':List Ev} {rg':List (List aj)} (h3:tb'=nT s o) (h4:v=nV s o) (h5:ev'=nE s o) (h6:rg'=nR s o)=>show((V.length:Int)+([v].length:Int)<=1073741824)/\(0<=i+1/\i+1<=b.ops.length/\Pt2 t b (i+1).toNat tb' (V++ [v]) ev' rg')/\(b.ops.length- (i+1)).toNat< (b.ops.length-i).toNat from⟨by simp only [List.length_cons,List.length_nil];omega,⟨ah,ah,by rw [ei];exact nxt h3 h4 h5 h6⟩,ah⟩
  have el1:∀e:Ev,(s.evs.length:Int)+([e].length:Int)<=1073741824:=λe=>by simp only [List.length_cons,List.length_nil];omega
  have T0:o.kind≠3->o.kind≠4->o.kind≠6->s.t=nT s o:=λh3 h4 h6=>by unfold nT;rw [if_neg h3,if_neg ah]
  have R0:o.kind≠8->s.regs=nR s o:=λh=>by unfold nR;rw [if_neg h]
  have E0:¬evO o->s.evs=nE s o:=λh=>by unfold nE;rw [if_neg h]
  have V0:o.kind=5\/o.kind=7\/o.kind=8->[]=nV s o:=λh=>by unfold nV;rw [if_neg ah,if_neg ah,if_neg ah,if_neg ah]
  rcases(by omega:o.kind=1\/o.kind=2\/o.kind=3\/o.kind=4\/o.kind=5\/o.kind=6\/o.kind=7\/o.kind=8)with c | c | c | c | c | c | c | c
  .simp (disch:=omega) only [RR,RB,ho,h7,Jj,F1,F2,c,Int.reduceEq,hp3,hf3];exact⟨h1,dn (T0 ah ah ah) (show bS o.k=nV s o by unfold nV;rw [if_pos c]) (E0 (by unfold evO;omega)) (R0 ah)⟩
  .have k2:=hok.k2 (Or.inl c);simp (disch:=omega) only [RR,RB,ho,h7,Jj,F1,F2,c,Int.reduceEq,r4];exact⟨h1,k2.1,ah,k2.1,ah,dn (T0 ah ah ah) (show((s.regs).getD (o.k).toNat default)=nV s o by unfold nV;rw [if_neg ah,if_pos c]) (E0 (by unfold evO;omega)) (R0 ah)⟩
  .have d9:=hok.k3 c;simp (disch:=omega) only [RR,RB,ho,h7,Jj,F1,F2,c,Int.reduceEq,hp9 o.k _ _ _ d9 shx shy tsh si.tok,hf9 o.k _ _ _ d9 shx shy tsh si.tok];have e1:=ex (by unfold hX;omega);have e2:=ey (by unfold hY;omega);exact⟨h1,dn (show(tDo s.t o.k X Y).1=nT s o by unfold nT;rw [if_pos c,e1,e2]) (show(tDo s.t o.k X Y).2=nV s o by unfold nV;rw [if_neg ah,if_neg ah,if_pos c,e1,e2]) (E0 (by unfold evO;omega)) (R0 ah)⟩
  .have el:s.evs.length<1000000000:=by omega
   have ea:aOf s o=⟨2,pK s.evs 4,[],[]⟩:=by unfold aOf;rw [if_pos c,cnl]
   have e1:=ex (by unfold hX;omega);have e2:yOf s o=[]:=by unfold yOf;rw [if_neg (by unfold hY;omega)]
   simp (disch:=omega) only [RR,RB,ho,h7,Jj,F1,F2,c,Int.reduceEq,adS s.evs 4 s.t el tsh si.tok,adT s.evs 4 s.t el tsh si.tok,Qe o X Y s.regs shx shy rsh,Qf o X Y s.regs shx shy rsh,el1];exact⟨h1,dn (by unfold nT;rw [if_neg ah,if_pos (Or.inl c),ea]) (by unfold nV;rw [if_neg ah,if_neg ah,if_neg ah,if_pos (Or.inl c),ea]) (by unfold nE;rw [if_pos (by unfold evO;omega),if_pos (Or.inl c),c,e1,e2]) (R0 ah)⟩
  .have e1:=ex (by unfold hX;omega);have e2:=ey (by unfold hY;omega);simp (disch:=omega) only [RR,RB,ho,h7,Jj,F1,F2,c,Int.reduceEq,Qe o X Y s.regs shx shy rsh,Qf o X Y s.regs shx shy rsh,el1];exact⟨h1,dn (T0 ah ah ah) (V0 ah) (by unfold nE;rw [if_pos (by unfold evO;omega),if_pos (Or.inr c),c,e1,e2]) (R0 ah)⟩
  .have el:s.evs.length<1000000000:=by omega
   have ea:aOf s o=⟨3,pK s.evs 6,[],[]⟩:=by unfold aOf;rw [if_neg ah,cni]
   have e1:xOf s o=[]:=by unfold xOf;rw [if_neg (by unfold hX;omega)]
   have e2:yOf s o=[]:=by unfold yOf;rw [if_neg (by unfold hY;omega)]
   simp (disch:=omega) only [RR,RB,ho,h7,Jj,F1,F2,c,Int.reduceEq,adS s.evs 6 s.t el tsh si.tok,adT s.evs 6 s.t el tsh si.tok,Qe o X Y s.regs shx shy rsh,Qf o X Y s.regs shx shy rsh,el1];exact⟨h1,dn (by unfold nT;rw [if_neg ah,if_pos (Or.inr c),ea]) (by unfold nV;rw [if_neg ah,if_neg ah,if_neg ah,if_pos (Or.inr c),ea]) (by unfold nE;rw [if_pos (by unfold evO;omega),if_neg ah,c,e1,e2]) (R0 ah)⟩
  .have e1:=ex (by unfold hX;omega);have e2:yOf s o=[]:=by unfold yOf;rw [if_neg (by unfold hY;omega)]
   simp (disch:=omega) only [RR,RB,ho,h7,Jj,F1,F2,c,Int.reduceEq,Qe o X Y s.regs shx shy rsh,Qf o X Y s.regs shx shy rsh,el1];exact⟨h1,dn (T0 ah ah ah) (V0 ah) (by unfold nE;rw [if_pos (by unfold evO;omega),if_neg ah,c,e1,e2]) (R0 ah)⟩
  .have k2:=hok.k2 (Or.inr c);have e1:=ex (by unfold hX;omega);simp (disch:=omega) only [RR,RB,ho,h7,Jj,F1,F2,c,Int.reduceEq,r4];exact⟨h1,k2.1,ah,k2.1,ah,dn (T0 ah ah ah) (V0 ah) (E0 (by unfold evO;omega)) (by unfold nR;rw [if_pos c,e1])⟩
def aja{α:Type}[Inhabited α](l:List α)(a:α)(i:Int)(h:0<=i):((l++ [a]).getD (i).toNat default)=if i=l.length then a else((l).getD (i).toNat default):=by
 by_cases c:i=l.length
 .rw [if_pos c,c,List.getD_eq_getElem?_getD];simp
 .rw [if_neg c,List.getD_eq_getElem?_getD,List.getD_eq_getElem?_getD];by_cases d:i.toNat<l.length
  .rw [List.getElem?_append_left d]
  .rw [List.getElem?_eq_none (by rw [List.length_append,List.length_singleton];omega),List.getElem?_eq_none ah]
def Uw{n:Int}{t u:List Atom}(h:P8 n t)(g:P8 n u):t=u:=by
 obtain⟨h1,h2⟩:=h;obtain⟨g1,g2⟩:=g;exact jy ah λi i0 i1=>by
  have a:=h2 i i0 ah;have b:=g2 i i0 ah;exact a.trans b.symm
def Sz:∀n:Nat,n<=4->P8 n (rN [] n).1
 | 0,_=>⟨rfl,All.zero⟩
 | n+1,hn=>by
  obtain⟨h1,h2⟩:=Sz n ah;have ok:=Ch qB (by simp) n ah;have e:aT (rN [] n).1 ⟨1,n,[],[]⟩=((rN [] n).1++ [⟨1,n,[],[]⟩],((rN [] n).1.length:Int)):=by
   rcases iV (rN [] n).1 ⟨1,n,[],[]⟩with⟨f1,f2⟩ | ⟨f1,f2,f3,_⟩
   .unfold aT;rw [if_neg ah,if_neg];rintro(g | g)
    .exact g (by unfold gq;rw [if_neg (by simp)];exact⟨⟨rfl,rfl⟩,Or.inl ⟨rfl,by dsimp only;omega,by dsimp only;omega⟩⟩)
    .omega
   .exfalso;have a:=h2 _ f1 ah;dsimp only at a f3;rw [a]at f3;injection f3 with _ g;omega
  have e2:(rN [] (n+1)).1=(rN [] n).1++ [⟨1,n,[],[]⟩]:=by rw [Df,e]
  rw [e2];refine⟨by rw [List.length_append,List.length_singleton];omega,λi i0 i1=> ?_⟩;dsimp only;rw [aja _ _ _ i0];by_cases c:i=((rN [] n).1.length:Int)
  .rw [if_pos c,c,h1]
  .rw [if_neg c];exact h2 i i0 ah
def apa{t:List Atom}(h:P8 4 t):t=t4:=Uw h (Sz 4 (Nat.le_refl _))
def ajb{p1 f1}(U1:Y8 p1 f1)(a b:List (List aj))(ha:ShP a):Ow.F (p1,f1,()) (a,b,()) (λy=>y=(bp (a=b),())):=by
 have hlen:=ha.1;dsimp only [Ow,gm];simp (disch:=omega) only [RR];refine⟨λh=> ?_,λh=> ?_⟩
 .rw [aR (λe=>h (by rw [e]))]
 have hl:a.length=b.length:=by omega
 refine ak (λ(y:List (List aj)×List (List aj)×Int×Unit)=>y.1=a/\y.2.1=b/\0<=y.2.2.1/\y.2.2.1<=a.length/\All y.2.2.1 (λi=>a.getD i.toNat default=b.getD i.toNat default)) (λy=>(a.length-y.2.2.1).toNat) ⟨rfl,rfl,by simp,by simp,All.zero⟩ ?_;rintro⟨(l1:List (List aj)),(l2:List (List aj)),(i:Int),⟨⟩⟩ hI;dsimp only at hI ⊢;obtain⟨rfl,rfl,h1,h2,h3⟩:=hI;simp (disch:=omega) only [RR,U1.hp _ _ (ha.at _),U1.hf _ _ (ha.at _),fK];refine⟨λh4=>⟨ah,ah,ah,ah,λh5=> ?_,λh5=>⟨⟨ah,ah,h3.snoc h5⟩,ah⟩⟩,λh4=> ?_⟩
 .rw [aR];intro e;rw [e]at h5;exact h5 rfl
 .rw [aU (jy hl (h3.le ah))]
def ajc{p1 f1 p2 f2}(U1:Y8 p1 f1)(U2:Y88 p2 f2)(a b:Ev)(ha:ShE a):Ox.F (p1,f1,p2,f2,()) (a,b,()) (λy=>y=(bp (a=b),())):=by
 dsimp only [Ox,gm];simp (disch:=omega) only [RR,RB,U1.hp _ _ ha.1,U1.hf _ _ ha.1,U1.hp _ _ ha.2.1,U1.hf _ _ ha.2.1,U2.hp _ _ ha.2.2,U2.hf _ _ ha.2.2,fK];simp only [pJ,<-gY];refine Prod.ext (iU ?_) rfl;cases a;cases b;simp only [Ev.mk.injEq];constructor<;>(intro h;simp only [h,and_self])
def ajd{p1 f1 p2 f2 p3 f3}(U1:Y8 p1 f1)(U2:Y93 p2 f2)(U3:Y88 p3 f3)(a b:Sym)(ha:ShY a):Oy.F (p1,f1,p2,f2,p3,f3,()) (a,b,()) (λy=>y=(bp (a=b),())):=by
 dsimp only [Oy,gm];simp (disch:=omega) only [RR,RB,U1.hp _ _ ha.x,U1.hf _ _ ha.x,U1.hp _ _ ha.y,U1.hf _ _ ha.y,U3.hp _ _ ha.r,U3.hf _ _ ha.r,fK,aN,fT];have hlen:=ha.e.1;refine⟨λh=> ?_,λh=> ?_⟩
 .rw [aR];rintro rfl
  revert h;simp
 refine ak (λ(y:Int×Sym×Sym×Unit)=>y.2.1=a/\y.2.2.1=b/\0<=y.1/\y.1<=a.events.length/\All y.1 (λi=>a.events.getD i.toNat default=b.events.getD i.toNat default)) (λy=>(a.events.length-y.1).toNat) ⟨rfl,rfl,by simp,by simp,All.zero⟩ ?_;rintro⟨(i:Int),(a':Sym),(b':Sym),⟨⟩⟩ hI;dsimp only at hI ⊢;obtain⟨rfl,rfl,h1,h2,h3⟩:=hI;have hl:a'.events.length=b'.events.length:=by
  have:=h.1.1.1.1.1;omega
 simp (disch:=omega) only [RR,RB,U2.hp _ _ (ha.e.at _),U2.hf _ _ (ha.e.at _),aN,fT];refine⟨λh4=>⟨ah,ah,ah,ah,λh5=> ?_,λh5=>⟨⟨ah,ah,h3.snoc h5⟩,ah⟩⟩,λh4=> ?_⟩
 .rw [aR];rintro rfl;exact h5 rfl
 .rw [aU];obtain⟨⟨⟨⟨⟨g1,g2⟩,g3⟩,g4⟩,g5⟩,g6⟩:=h;exact Sym.ext (jy hl (h3.le ah)) g2 ah g5 g6 ah
def aje{p1 f1 p2 f2 p3 f3 p4 f4 p5 f5}(U1:Y60 p1 f1)(U2:Y94 p2 f2)(U3:Y44 p3 f3)(U4:Y89 p4 f4)(U5:Y95 p5 f5)(b c:Blk)(hb:b.ops.length<1000000000)(hc:c.ops.length<1000000000):Oz.F (p1,f1,p2,f2,p3,f3,p4,f4,p5,f5,()) (b,c,()) (λy=>y=(chk b c,())):=by
 have s4:ShT t4:=Sk.1.sh;have y1:=zF t4 b;have U3.hf:=apa U3.hf.1;dsimp only [Oz,gm];simp (disch:=omega) only [RR,RB,U1.hp b hb,U1.hf b hb,U1.hp c hc,U1.hf c hc,U2.hp b c hb,U2.hf b c hb,U3.hp,U3.hf,U4.hp t4 b s4 hb,U4.hf t4 b s4 hb,U4.hp _ c y1.2 hc,U4.hf _ c y1.2 hc,U5.hp _ _ y1.1,U5.hf _ _ y1.1,aN,fT];unfold chk;refine⟨λh=> ?_,λh=>⟨λe=> ?_,λe=> ?_⟩⟩
 .rw [aR];rintro⟨h1,h2,h3,h4,_⟩;simp_all
 .rw [aU];exact⟨h.1.1.1,h.1.1.2,by simp_all,by simp_all,Or.inl e⟩
 .refine Prod.ext (iU ⟨λg=>⟨h.1.1.1,h.1.1.2,by simp_all,by simp_all,Or.inr g⟩,λg=>g.2.2.2.2.resolve_left e⟩) rfl
def ad5(q:Cer):Int×Int×Int×Int×Int×Int×Int×Int×Int×Int×Int×Int×List IOp×List IOp×Unit:=(q.base.pc,q.base.len,q.base.fin,q.base.x,q.base.y,q.base.k,q.made.pc,q.made.len,q.made.fin,q.made.x,q.made.y,q.made.k,q.base.ops,q.made.ops,())
def as4(l:List Cer)(q:Cer):List Cer:=(l++ [q]).drop (l.length+1-3)
theorem ajf{p1 f1}(U1:Y96 p1 f1)(l:List Cer)(h:ShD l):PL.F (p1,f1,()) (l,()) (λy=>y=(bp (Fe l),())):=by
 have mE:∀c:Blk,Co.mk .blk (c.pc,c.len,c.ops,c.fin,c.x,c.y,c.k,())=c:=λ_=>rfl
 dsimp only [PL,gm,qX];have L:=h.1;simp (disch:=omega) only [RR,CRB,mE];refine⟨λg=>by rw [aR (λe=>by have:=e.1;omega)],λg=> ?_⟩;refine ak (λ(y:List Cer×Int×Unit)=>y.1=l/\0<=y.2.1/\y.2.1<=l.length/\¬∃q∈l.take y.2.1.toNat,chk q.base q.made=false) (λy=>(l.length-y.2.1).toNat) ⟨rfl,by simp,by simp,by rintro⟨q,h,_⟩;cases h⟩ ?_;rintro⟨(l':List Cer),(i:Int),⟨⟩⟩ hI;dsimp only at hI ⊢;obtain⟨rfl,h1,h2,h3⟩:=hI;have a:=h.at i.toNat;simp (disch:=omega) only [RR,CRB,mE,U1.hp (((l').getD (i).toNat default)).base (((l').getD (i).toNat default)).made ah ah,U1.hf (((l').getD (i).toNat default)).base (((l').getD (i).toNat default)).made ah ah];refine⟨λg4=>⟨h1,g4,h1,g4,λe=> ?_,λe=>⟨⟨ah,ah,?_⟩,ah⟩⟩,λg4=> ?_⟩
 .rw [aR];intro v;have:=v.2 _ (cO h1 g4 (d:=default));rw [e]at this;cases this
 .rw [show(i+1).toNat=i.toNat+1 by omega];exact λx=>((Sr (G:=λq:Cer=>chk q.base q.made=false) ah).1 x).elim h3 (λz=>by rw [e]at z;cases z)
 .rw [List.take_of_length_le ah]at h3;rw [aU];exact⟨ah,λq hq=>by
   cases c:chk q.base q.made with
   | true=>rfl
   | false=>exact absurd ⟨q,hq,c⟩ h3⟩
structure aul(pp:Cer×Unit->Bool)(ff:Cer×Unit->Int×Int×Int×Int×Int×Int×Int×Int×Int×Int×Int×Int×List IOp×List IOp×Unit):Prop where
 hp:∀q,q.base.ops.length<1000000->q.made.ops.length<1000000->pp (q,())=true
 hf:∀q,q.base.ops.length<1000000->q.made.ops.length<1000000->ff (q,())=ad5 q
structure aum(pp:List Cer×Cer×Unit->Bool)(ff:List Cer×Cer×Unit->List Cer×Unit):Prop where
 hp:∀l q,ShC l->q.base.ops.length<1000000->q.made.ops.length<1000000->pp (l,q,())=true
 hf:∀l q,ShC l->q.base.ops.length<1000000->q.made.ops.length<1000000->ff (l,q,())=(as4 l q,())
def opB(o:IOp):List Int:=[o.kind%256,o.x%256,o.y%256,o.k/256%256,o.k%256,o.at_%256]
def as5(b:Blk):List Int:=[b.pc%256,b.len%256,b.fin%256,b.x%256,b.y%256,b.k/256%256,b.k%256]++b.ops.flatMap opB
noncomputable def irB (b:Blk):List Int:=if bp (iK b)=true then as5 b else []
def rdO(l:List Int)(p:Nat):IOp:=⟨l.getD p default,l.getD (p+1) default,l.getD (p+2) default,l.getD (p+3) default*256+l.getD (p+4) default,l.getD (p+5) default⟩
def as6(l:List Int)(n:Nat):List IOp:=(List.range n).map λi=>rdO l (7+6*i)
def rdB(l:List Int):Blk:=⟨l.getD 0 default,l.getD 1 default,as6 l ((l.length-7)/6),l.getD 2 default,l.getD 3 default,l.getD 4 default,l.getD 5 default*256+l.getD 6 default⟩
def as7(l:List Int):Prop:=(7<=l.length/\(l.length-7)%6=0/\l.length<=295)/\irB (rdB l)=l
noncomputable def rdF (l:List Int):Int×Int×Int×Int×Int×Int×Bool×List IOp×Unit:=if bp (as7 l)=true then((rdB l).pc,(rdB l).len,(rdB l).fin,(rdB l).x,(rdB l).y,(rdB l).k,true,(rdB l).ops,())else(0,0,0,0,0,0,false,[],())
structure OpR(o:IOp):Prop where
 kd:0<=o.kind/\o.kind<=255
 x:0<=o.x/\o.x<=255
 y:0<=o.y/\o.y<=255
 k:0<=o.k/\o.k<=65535
 at_:0<=o.at_/\o.at_<=255
structure aun(pp:Blk×Unit->Bool)(ff:Blk×Unit->List Int×Unit):Prop where
 hp:∀b,b.ops.length<1000000000->pp (b,())=true
 hf:∀b,b.ops.length<1000000000->ff (b,())=(irB b,())
structure auo(pp:List Int×Unit->Bool)(ff:List Int×Unit->Int×Int×Int×Int×Int×Int×Bool×List IOp×Unit):Prop where
 hp:∀l,By l->l.length<1000000000->pp (l,())=true
 hf:∀l,By l->l.length<1000000000->ff (l,())=rdF l
def o5(o:IOp):Int×Int×Int×Int×Int×Unit:=(o.kind,o.x,o.y,o.k,o.at_,())
def set_mid{α:Type}{l:List α}{z d x:α}{i:Int}(h0:0<=i)(h:i<l.length)(e:x=l.getD i.toNat d):(l.take i.toNat++List.replicate (l.length-i.toNat) z).set i.toNat x=l.take (i+1).toNat++List.replicate (l.length- (i+1).toNat) z:=by
 have ht:(l.take i.toNat).length=i.toNat:=by rw [List.length_take];omega
 rw [List.set_append_right _ _ ah,ht,Nat.sub_self,show l.length-i.toNat=(l.length- (i+1).toNat)+1 by omega,List.replicate_succ,List.set_cons_zero,<-bK h0 h e,List.append_assoc];rfl
def Dh{α:Type}{l:List α}{z:α}{i:Nat}(h:i<=l.length):(l.take i++List.replicate (l.length-i) z).length=l.length:=by
 rw [List.length_append,List.length_take,List.length_replicate];omega
def ZY(o:IOp):OQ.F () (o,()) (λy=>y=o5 o):=by
 dsimp only [OQ,gm];simp (disch:=omega) only [RR,RB];rfl
def ajg{p1:IOp×Unit->Bool}{f1:IOp×Unit->Int×Int×Int×Int×Int×Unit}(hp1:∀o,p1 (o,())=true)(hf1:∀o,f1 (o,())=o5 o)(l:List IOp)(h:l.length<1000000000):OT.F (p1,f1,()) (l,()) (λy=>y=(l,())):=by
 dsimp only [OT,gm];simp (disch:=omega) only [RR];refine⟨ah,ah,ak (λ(y:List IOp×Int×List IOp×Unit)=>y.1=l/\0<=y.2.1/\y.2.1<=l.length/\y.2.2.1=l.take y.2.1.toNat++List.replicate (l.length-y.2.1.toNat) ⟨0,0,0,0,0⟩) (λy=>(l.length-y.2.1).toNat) ⟨rfl,by simp,by simp,rfl⟩ ?_⟩;rintro⟨(l:List IOp),(i:Int),(o:List IOp),⟨⟩⟩ hI;dsimp only at hI ⊢;obtain⟨rfl,h1,h2,rfl⟩:=hI;have ml:=Dh (l:=l) (z:=(⟨0,0,0,0,0⟩:IOp)) (i:=i.toNat) ah;simp (disch:=omega) only [RR,hp1,hf1,ml];refine⟨λg=>⟨ah,ah,ah,ah,ah,ah,⟨ah,ah,set_mid h1 g rfl⟩,ah⟩,λg=> ?_⟩;rw [List.take_of_length_le ah,show l.length-i.toNat=0 by omega];simp
def ajh{p1:List IOp×Unit->Bool}{f1:List IOp×Unit->List IOp×Unit}(hp1:∀l,l.length<1000000000->p1 (l,())=true)(hf1:∀l,l.length<1000000000->f1 (l,())=(l,()))(b:Blk)(h:b.ops.length<1000000000):OU.F (p1,f1,()) (b,()) (λy=>y=bk7 b):=by
 dsimp only [OU,gm];simp (disch:=omega) only [RR,RB,hp1 _ h,hf1 _ h]
def afg(a b:IOp):YD.F () (a,b,()) (λy=>y=(bp (a=b),())):=by
 dsimp only [YD,gm];simp (disch:=omega) only [RR,RB];refine⟨λh=> ?_,λh=>⟨λh2=> ?_,λh2=>⟨λh3=> ?_,λh3=>⟨λh4=> ?_,λh4=>⟨λh5=> ?_,λh5=> ?_⟩⟩⟩⟩⟩
 all_goals first | (rw [aR];rintro rfl;simp_all;done) | (rw [aU];cases a;cases b;simp_all)
def apb{p1:IOp×IOp×Unit->Bool}{f1:IOp×IOp×Unit->Bool×Unit}(hp1:∀a b,p1 (a,b,())=true)(hf1:∀a b,f1 (a,b,())=(bp (a=b),()))(a b:List IOp)(hlen:a.length<1000000000):YE.F (p1,f1,()) (a,b,()) (λy=>y=(bp (a=b),())):=by
 dsimp only [YE,gm];simp (disch:=omega) only [RR];refine⟨λh=> ?_,λh=> ?_⟩
 .rw [aR (λe=>h (by rw [e]))]
 have hl:a.length=b.length:=by omega
 refine ak (λ(y:List IOp×List IOp×Int×Unit)=>y.1=a/\y.2.1=b/\0<=y.2.2.1/\y.2.2.1<=a.length/\All y.2.2.1 (λi=>a.getD i.toNat default=b.getD i.toNat default)) (λy=>(a.length-y.2.2.1).toNat) ⟨rfl,rfl,by simp,by simp,All.zero⟩ ?_;rintro⟨(l1:List IOp),(l2:List IOp),(i:Int),⟨⟩⟩ hI;dsimp only at hI ⊢;obtain⟨rfl,rfl,h1,h2,h3⟩:=hI;simp (disch:=omega) only [RR,hp1,hf1,aN,fT];refine⟨λh4=>⟨ah,ah,ah,ah,λh5=> ?_,λh5=>⟨⟨ah,ah,h3.snoc h5⟩,ah⟩⟩,λh4=> ?_⟩
 .rw [aR];intro e;rw [e]at h5;exact h5 rfl
 .rw [aU (jy hl (h3.le ah))]
def apc{p1 f1}(U1:Y92 p1 f1)(a b:Blk)(h:a.ops.length<1000000000):YF.F (p1,f1,()) (a,b,()) (λy=>y=(bp (a=b),())):=by
 dsimp only [YF,gm];simp (disch:=omega) only [RR,RB,U1.hp _ b.ops h,U1.hf _ b.ops h,aN,fT];have e:a=b↔a.pc=b.pc/\a.len=b.len/\a.ops=b.ops/\a.fin=b.fin/\a.x=b.x/\a.y=b.y/\a.k=b.k:=by
  cases a;cases b;simp only [Blk.mk.injEq]
 by_cases e1:a.pc=b.pc
 .by_cases e2:a.len=b.len
  .by_cases e3:a.ops=b.ops
   .by_cases e4:a.fin=b.fin
    .by_cases e5:a.x=b.x
     .by_cases e6:a.y=b.y
      .by_cases e7:a.k=b.k
       .rw [aU (e.2 ⟨e1,e2,e3,e4,e5,e6,e7⟩)];simp [e1,e2,e3,e4,e5,e6,e7]
       .rw [aR (λg=>e7 (e.1 g).2.2.2.2.2.2)];simp [e7]
      .rw [aR (λg=>e6 (e.1 g).2.2.2.2.2.1)];simp [e6]
     .rw [aR (λg=>e5 (e.1 g).2.2.2.2.1)];simp [e5]
    .rw [aR (λg=>e4 (e.1 g).2.2.2.1)];simp [e4]
   .rw [aR (λg=>e3 (e.1 g).2.2.1)];simp [e3]
  .rw [aR (λg=>e2 (e.1 g).2.1)];simp [e2]
 .rw [aR (λg=>e1 (e.1 g).1)];simp [e1]
def szL(n m:Int):Int:=if m-n<0 then-1 else m-n
def afh(l:List IOp)(m:Int)(h:l.length<9223372036854775808)(h0:0<=m)(h1:m<=1048576):Xn.F () (l,m,()) (λy=>y=(szL l.length m,())):=by
 dsimp only [Xn,gm];simp (disch:=omega) only [RR];unfold szL;refine⟨λg=>by rw [if_pos g],λg=>by rw [if_neg ah]⟩
def iW{n:Nat}{m:Int}(h1:m<=1048576):(szL n m<0->szL n m= -1)/\(0<=szL n m->(n:Int)<=1048576/\szL n m<=1048576):=by
 unfold szL;split<;>exact⟨λ_=>by omega,λ_=>by omega⟩
def apd{p1:List IOp×Int×Unit->Bool}{f1:List IOp×Int×Unit->Int×Unit}(hp1:∀l m,l.length<9223372036854775808->0<=m->m<=1048576->p1 (l,m,())=true)(hf1:∀l m,l.length<9223372036854775808->0<=m->m<=1048576->f1 (l,m,())=(szL l.length m,()))(b:Blk)(m:Int)(h:b.ops.length<9223372036854775808)(h0:0<=m)(h1:m<=1048576):Xo.F (p1,f1,()) (b,m,()) (λy=>y=(szL b.ops.length m,())):=by
 dsimp only [Xo,gm];simp (disch:=omega) only [RR,RB,hp1 _ m h h0 h1,hf1 _ m h h0 h1];exact λg=>by rw [(iW h1).1 g]
structure ape(pp:Blk×Int×Unit->Bool)(ff:Blk×Int×Unit->Int×Unit):Prop where
 hp:∀b m,b.ops.length<9223372036854775808->0<=m->m<=1048576->pp (b,m,())=true
 hf:∀b m,b.ops.length<9223372036854775808->0<=m->m<=1048576->ff (b,m,())=(szL b.ops.length m,())
def szP(q:Cer)(m:Int):Int:=if szL q.base.ops.length m<0 then-1 else szL q.made.ops.length (szL q.base.ops.length m)
def ShI(q:Cer):Prop:=q.base.ops.length<9223372036854775808/\q.made.ops.length<9223372036854775808
def Z0{q:Cer}{m:Int}(h1:m<=1048576):(szP q m<0->szP q m= -1)/\(0<=szP q m->q.base.ops.length<1000000000/\q.made.ops.length<1000000000/\szP q m<=1048576):=by
 unfold szP;have s1:=iW (n:=q.base.ops.length) h1;split
 .exact⟨λ_=>rfl,λ_=>by omega⟩
 .have g:=s1.2 ah;have s2:=iW (n:=q.made.ops.length) g.2;exact⟨s2.1,λk=>by have:=s2.2 k;omega⟩
theorem apf{p1 f1}(U1:ape p1 f1)(q:Cer)(m:Int)(h:ShI q)(h0:0<=m)(h1:m<=1048576):YI.F (p1,f1,()) (q,m,()) (λy=>y=(szP q m,())):=by
 obtain⟨hp1,hf1⟩:=U1;have mB:∀c:Blk,Co.mk .blk (c.pc,c.len,c.ops,c.fin,c.x,c.y,c.k,())=c:=λ_=>rfl
 dsimp only [YI,gm,qX,List.cons_append,List.nil_append,List.map_cons,List.map_nil]at*;have s1:=iW (n:=q.base.ops.length) h1;simp (disch:=omega) only [RR,CRB,mB,hp1 q.base m h.1 h0 h1,hf1 q.base m h.1 h0 h1];unfold szP;refine⟨λg=>by rw [if_pos g],λg=> ?_⟩;rw [if_neg ah];obtain⟨u1,u2⟩:=s1.2 ah;have g:0<=szL q.base.ops.length m:=by omega
 have s2:=iW (n:=q.made.ops.length) u2;simp (disch:=omega) only [RR,hp1 q.made _ h.2 g u2,hf1 q.made _ h.2 g u2];exact λg=>by rw [s2.1 g]
def Fp:List Cer->Int->Int
 | [],m=>m
 | q::l,m=>if szP q m<0 then-1 else Fp l (szP q m)
def Z4(l:List Cer){i:Nat}(h:l.length<=i)(m:Int):Fp (l.drop i) m=m:=by rw [List.drop_eq_nil_of_le h];rfl
def Ux(l:List Cer){i:Nat}(h:i<l.length)(m:Int):Fp (l.drop i) m=if szP (l.getD i default) m<0 then-1 else Fp (l.drop (i+1)) (szP (l.getD i default) m):=by
 rw [List.drop_eq_getElem_cons h,getD_lt h];rfl
def SA:∀(l:List Cer) (m:Int),m<=1048576->(Fp l m<0->m<0\/Fp l m= -1)/\(0<=Fp l m->∀q∈l,q.base.ops.length<1000000000/\q.made.ops.length<1000000000)
 | [],m,_=>⟨λh=>Or.inl h,λ_ q hq=>by cases hq⟩
 | q::l,m,h=>by
  have s:=Z0 (q:=q) h;rw [Fp];split
  .exact⟨λ_=>Or.inr rfl,λg=>by omega⟩
  .have g:=s.2 ah;have ih:=SA l (szP q m) g.2.2;refine⟨λk=> ?_,λk c hc=> ?_⟩
   .rcases ih.1 k with e | e
    .omega
    .exact Or.inr e
   .rcases List.mem_cons.1 hc with rfl | hc
    .exact⟨g.1,g.2.1⟩
    .exact ih.2 k c hc
def Ci(l:List Cer)(m:Int):Int:=if m-l.length<0 then-1 else Fp l (m-l.length)
def apg{p1:Cer×Int×Unit->Bool}{f1:Cer×Int×Unit->Int×Unit}(hp1:∀q m,ShI q->0<=m->m<=1048576->p1 (q,m,())=true)(hf1:∀q m,ShI q->0<=m->m<=1048576->f1 (q,m,())=(szP q m,()))(l:List Cer)(m:Int)(h:l.length<9223372036854775808/\∀q∈l,ShI q)(h0:0<=m)(h1:m<=1048576):YJ.F (p1,f1,()) (l,m,()) (λy=>y=(Ci l m,())):=by
 obtain⟨hl,hq⟩:=h;dsimp only [YJ,gm];simp (disch:=omega) only [RR];unfold Ci;refine⟨λg=>by rw [if_pos g],λg=> ?_⟩;rw [if_neg ah];refine ak (λ(y:List Cer×Int×Int×Unit)=>y.1=l/\0<=y.2.1/\y.2.1<=1048576/\0<=y.2.2.1/\y.2.2.1<=l.length/\Fp l (m-l.length)=Fp (l.drop y.2.2.1.toNat) y.2.1) (λy=>(l.length-y.2.2.1).toNat) ⟨rfl,by dsimp only;omega,by dsimp only;omega,by simp,by simp,rfl⟩ ?_;rintro⟨(l:List Cer),(k:Int),(i:Int),⟨⟩⟩ hI;dsimp only at hI ⊢;obtain⟨rfl,k1,k2,i1,i2,e⟩:=hI;rw [e];have A:i<l.length->ShI (((l).getD (i).toNat default)):=λc=>hq _ (cO i1 c)
 by_cases c:i<l.length
 .have s:=Z0 (q:=((l).getD (i).toNat default)) k2;rw [Ux l ah];simp (disch:=omega) only [RR,c,hp1 _ k (A c) k1 k2,hf1 _ k (A c) k1 k2];refine⟨i1,λg=>by rw [if_pos g],λg=>⟨⟨ah,by have:=s.2 ah;omega,ah,ah,?_⟩,ah⟩⟩;rw [if_neg ah,show(i+1).toNat=i.toNat+1 by omega]
 .simp (disch:=omega) only [RR,c,Z4 l (show l.length<=i.toNat by omega)]
theorem aji{p1 f1}(U1:Y99 p1 f1)(q:Cer)(h1:q.base.ops.length<1000000000)(h2:q.made.ops.length<1000000000):PU.F (p1,f1,()) (q,()) (λy=>y=ad5 q):=by
 have mE:∀c:Blk,Co.mk .blk (c.pc,c.len,c.ops,c.fin,c.x,c.y,c.k,())=c:=λ_=>rfl
 dsimp only [PU,gm,qX];simp (disch:=omega) only [RR,CRB,mE,U1.hp _ h1,U1.hf _ h1,U1.hp _ h2,U1.hf _ h2];rfl
theorem ajj{p1:Cer×Unit->Bool}{f1:Cer×Unit->Int×Int×Int×Int×Int×Int×Int×Int×Int×Int×Int×Int×List IOp×List IOp×Unit}(hp1:∀q,q.base.ops.length<1000000000->q.made.ops.length<1000000000->p1 (q,())=true)(hf1:∀q,q.base.ops.length<1000000000->q.made.ops.length<1000000000->f1 (q,())=ad5 q)(l:List Cer)(h:ShD l):PW.F (p1,f1,()) (l,()) (λy=>y=(l,())):=by
 have hl:=h.1;have mC:∀q:Cer,Co.mk .cer (q.base.pc,q.base.len,q.base.ops,q.base.fin,q.base.x,q.base.y,q.base.k,q.made.pc,q.made.len,q.made.ops,q.made.fin,q.made.x,q.made.y,q.made.k,())=q:=λ_=>rfl
 unfold ad5 at hf1;dsimp only [PW,gm,qX,List.cons_append,List.nil_append,List.map_cons,List.map_nil]at*;simp (disch:=omega) only [RR];refine⟨ah,ah,ak (λ(y:List Cer×Int×List Cer×Unit)=>y.1=l/\0<=y.2.1/\y.2.1<=l.length/\y.2.2.1=l.take y.2.1.toNat++List.replicate (l.length-y.2.1.toNat) ⟨⟨0,0,[],0,0,0,0⟩,⟨0,0,[],0,0,0,0⟩⟩) (λy=>(l.length-y.2.1).toNat) ⟨rfl,by simp,by simp,rfl⟩ ?_⟩;rintro⟨(l:List Cer),(i:Int),(o:List Cer),⟨⟩⟩ hI;dsimp only at hI ⊢;obtain⟨rfl,i1,i2,rfl⟩:=hI;have a:=h.at i.toNat;have ml:=Dh (l:=l) (z:=(⟨⟨0,0,[],0,0,0,0⟩,⟨0,0,[],0,0,0,0⟩⟩:Cer)) (i:=i.toNat) ah;simp (disch:=omega) only [RR,hp1 _ a.1 a.2,hf1 _ a.1 a.2,mC,ml];refine⟨λg=>⟨ah,ah,ah,ah,ah,ah,⟨ah,ah,set_mid i1 g rfl⟩,ah⟩,λg=> ?_⟩;rw [List.take_of_length_le ah,show l.length-i.toNat=0 by omega];simp
theorem aph{p1 f1}(U1:Y94 p1 f1)(a b:Cer)(h1:a.base.ops.length<1000000000)(h2:a.made.ops.length<1000000000):YR.F (p1,f1,()) (a,b,()) (λy=>y=(bp (a=b),())):=by
 have mE:∀c:Blk,Co.mk .blk (c.pc,c.len,c.ops,c.fin,c.x,c.y,c.k,())=c:=λ_=>rfl
 dsimp only [YR,gm,qX];simp (disch:=omega) only [RR,CRB,mE,U1.hp _ b.base h1,U1.hf _ b.base h1,U1.hp _ b.made h2,U1.hf _ b.made h2,aN,fT];refine⟨λe=> ?_,λe=>⟨λf=> ?_,λf=> ?_⟩⟩
 .rw [aR (λg=>e (by rw [g]))]
 .rw [aR (λg=>f (by rw [g]))]
 .rw [aU (Cer.ext e f)]
def apj{p1:Cer×Cer×Unit->Bool}{f1:Cer×Cer×Unit->Bool×Unit}(hp1:∀a b,a.base.ops.length<1000000000->a.made.ops.length<1000000000->p1 (a,b,())=true)(hf1:∀a b,a.base.ops.length<1000000000->a.made.ops.length<1000000000->f1 (a,b,())=(bp (a=b),()))(a b:List Cer)(hD:ShD a):YS.F (p1,f1,()) (a,b,()) (λy=>y=(bp (a=b),())):=by
 have hlen:=hD.1;dsimp only [YS,gm];simp (disch:=omega) only [RR];refine⟨λh=> ?_,λh=> ?_⟩
 .rw [aR (λe=>h (by rw [e]))]
 have hl:a.length=b.length:=by omega
 refine ak (λ(y:List Cer×List Cer×Int×Unit)=>y.1=a/\y.2.1=b/\0<=y.2.2.1/\y.2.2.1<=a.length/\All y.2.2.1 (λi=>a.getD i.toNat default=b.getD i.toNat default)) (λy=>(a.length-y.2.2.1).toNat) ⟨rfl,rfl,by simp,by simp,All.zero⟩ ?_;rintro⟨(l1:List Cer),(l2:List Cer),(i:Int),⟨⟩⟩ hI;dsimp only at hI ⊢;obtain⟨rfl,rfl,h1,h2,h3⟩:=hI;have A:=hD.at i.toNat;simp (disch:=omega) only [RR,hp1 _ (((l2).getD (i).toNat default)) A.1 A.2,hf1 _ (((l2).getD (i).toNat default)) A.1 A.2,aN,fT];refine⟨λh4=>⟨ah,ah,ah,ah,λh5=> ?_,λh5=>⟨⟨ah,ah,h3.snoc h5⟩,ah⟩⟩,λh4=> ?_⟩
 .rw [aR];intro e;rw [e]at h5;exact h5 rfl
 .rw [aU (jy hl (h3.le ah))]
structure as8(pp:List Cer×List Cer×Unit->Bool)(ff:List Cer×List Cer×Unit->Bool×Unit):Prop where
 hp:∀a b,ShD a->pp (a,b,())=true
 hf:∀a b,ShD a->ff (a,b,())=(bp (a=b),())
structure as9(pp:List Cer×Int×Unit->Bool)(ff:List Cer×Int×Unit->Int×Unit):Prop where
 hp:∀l m,(l.length<9223372036854775808/\∀q∈l,ShI q)->0<=m->m<=1048576->pp (l,m,())=true
 hf:∀l m,(l.length<9223372036854775808/\∀q∈l,ShI q)->0<=m->m<=1048576->ff (l,m,())=(Ci l m,())
structure ata(pp:List Cer×Unit->Bool)(ff:List Cer×Unit->List Cer×Unit):Prop where
 hp:∀l,ShD l->pp (l,())=true
 hf:∀l,ShD l->ff (l,())=(l,())
def Wo(n:Int):Prop:=0<=n/\n<=65535
def Wos(l:List Int):Prop:=∀n∈l,Wo n
structure MOK(m:bq):Prop where
 r4:m.regs.length=4
 rw:Wos m.regs
 m64:m.mem.length=64
 mw:Wos m.mem
 pc:Wo m.pc
 sv:Wo m.save
 iw:Wos m.ins
 ow:Wos m.outs
 ha:0<=m.halt/\m.halt<=4
 ct:0<=m.count/\m.count<=1000000
def apk(r a b:Int):Bool:=inB a 0 65535&&inB b 0 65535&&decide (r=1/\a=b\/r=2/\a<b)
structure MS where
 m:bq
 vals:List Int
 left:Bool
def vx(s:MS)(o:IOp):Int:=if hX o then((s.vals).getD (o.x).toNat default)else 0
def vy(s:MS)(o:IOp):Int:=if hY o then((s.vals).getD (o.y).toNat default)else 0
def mV(s:MS)(o:IOp):Int:=if o.kind=1 then o.k else if o.kind=2 then((s.m.regs).getD (o.k).toNat default)else if o.kind=3 then wdo o.k (vx s o) (vy s o)else if o.kind=4 then((s.m.mem).getD (vx s o).toNat default)else if o.kind=6 then s.m.ins.getD 0 default else 0
def mM(s:MS)(o:IOp):bq:=if o.kind=5 then {s.m with mem:=s.m.mem.set (vx s o).toNat (vy s o)}else if o.kind=6 then {s.m with ins:=s.m.ins.drop 1}else if o.kind=7 then {s.m with outs:=s.m.outs++ [vx s o]}else if o.kind=8 then {s.m with regs:=s.m.regs.set o.k.toNat (vx s o)}else s.m
def leave(m:bq)(n:Int)(h:Int):bq:={m with halt:=h,pc:=m.pc+n,count:=m.count+n}
def GL(b:Blk)(s:MS)(o:IOp):MS:=
 if s.left=true then s
 else if(o.kind=4\/o.kind=5)/\64<=vx s o then⟨leave s.m o.at_ 3,s.vals,true⟩
 else if o.kind=5/\b.pc+o.at_+1<=vx s o/\vx s o<=b.pc+b.len-1 then⟨leave (mM s o) (o.at_+1) (mM s o).halt,s.vals,true⟩
 else⟨mM s o,s.vals++ [mV s o],false⟩
def atb(b:Blk)(s:MS):bq:=if s.left=true then s.m else {s.m with count:=s.m.count+b.len,pc:=if b.fin=1 then b.k else if b.fin=2 then((s.vals).getD (b.x).toNat default)else if apk (b.fin-2) ((s.vals).getD (b.x).toNat default) ((s.vals).getD (b.y).toNat default)=true then b.k else b.pc+b.len}
def ad6:bq:=⟨[],0,[],0,false,false,0,[],[],0⟩
noncomputable def apl (b:Blk) (m:bq):bq×Bool:=if bp (iK b/\MOK m)=true then(if m.halt≠0\/m.pc≠b.pc\/1000000-b.len<m.count then(m,false)else(atb b (b.ops.foldl (GL b) ⟨m,[],false⟩),true))else(ad6,false)
def dO(i:Ins):Prop:=(0<=i.op/\i.op<=15)/\(0<=i.d/\i.d<=3)/\(0<=i.a/\i.a<=3)/\0<=i.k/\
 (i.op=0->i.d=0/\i.a=0/\i.k<=3)/\(i.op=1->i.a=0/\i.k<=255)/\(i.op=2->i.k=0)/\(3<=i.op/\i.op<=7->i.k<=3)/\(i.op=8->i.k<=15)/\(9<=i.op/\i.op<=12->i.k<=255)/\(i.op=13->i.d=0/\i.k=0)/\(14<=i.op->i.a=0/\i.k=0)
def ajk(i:Ins):Int:=i.op*4096+i.d*1024+i.a*256+i.k
def jm(w:Int):Ins:=⟨w/4096,w/1024%4,w/256%4,w%256⟩
structure qC(pc:Int)(l:List Ins):Prop where
 ln:1<=l.length/\l.length<=8
 pc:0<=pc/\pc<=64-l.length
 ok:∀i:Nat,i<l.length->dO (l.getD i default)/\(l.getD i default).op≠0/\(11<=(l.getD i default).op/\(l.getD i default).op<=13->i+1=l.length)
def gu(n b:Int)(i:Ins):List IOp:=
 if i.op=1 then [⟨1,0,0,i.k,0⟩,⟨8,b,0,i.d,0⟩]
 else if i.op=2 then [⟨2,0,0,i.a,0⟩,⟨8,b,0,i.d,0⟩]
 else if i.op=8 then [⟨2,0,0,i.a,0⟩,⟨1,0,0,2^i.k.toNat,0⟩,⟨3,b,b+1,3,0⟩,⟨8,b+2,0,i.d,0⟩]
 else if i.op=9 then [⟨2,0,0,i.a,0⟩,⟨1,0,0,i.k,0⟩,⟨3,b,b+1,1,0⟩,⟨4,b+2,0,0,n⟩,⟨8,b+3,0,i.d,0⟩]
 else if i.op=10 then [⟨2,0,0,i.a,0⟩,⟨1,0,0,i.k,0⟩,⟨3,b,b+1,1,0⟩,⟨2,0,0,i.d,0⟩,⟨5,b+2,b+3,0,n⟩]
 else if i.op=14 then [⟨2,0,0,i.d,0⟩,⟨7,b,0,0,n⟩]
 else if i.op=15 then [⟨6,0,0,0,n⟩,⟨8,b,0,i.d,0⟩]
 else if i.op=11\/i.op=12 then [⟨2,0,0,i.d,0⟩,⟨2,0,0,i.a,0⟩]
 else if i.op=13 then [⟨2,0,0,i.a,0⟩]
 else [⟨2,0,0,i.a,0⟩,⟨2,0,0,i.k,0⟩,⟨3,b,b+1,i.op-2,0⟩,⟨8,b+2,0,i.d,0⟩]
def fF(n:Int)(b:Blk)(i:Ins):Blk:=
 if i.op=11\/i.op=12 then {b with ops:=b.ops++gu n b.ops.length i,fin:=i.op-8,x:=b.ops.length,y:=b.ops.length+1,k:=i.k}
 else if i.op=13 then {b with ops:=b.ops++gu n b.ops.length i,fin:=2,x:=b.ops.length,k:=0}
 else {b with ops:=b.ops++gu n b.ops.length i}
def nQ:Int->Blk->List Ins->Blk
 | _,b,[]=>b
 | n,b,i::r=>nQ (n+1) (fF n b i) r
def uU(pc:Int)(l:List Ins):Blk:=⟨pc,l.length,[],1,0,0,pc+l.length⟩
noncomputable def lower (pc:Int) (l:List Ins):Blk:=if bp (qC pc l)=true then nQ 0 (uU pc l) l else Us
def adr(m:bq)(i:Ins):Int:=(((m.regs).getD (i.a).toNat default)+i.k)%65536
def eff(m:bq)(i:Ins):bq:=
 if i.op=1 then {m with regs:=m.regs.set i.d.toNat i.k}
 else if i.op=2 then {m with regs:=m.regs.set i.d.toNat ((m.regs).getD (i.a).toNat default)}
 else if i.op=8 then {m with regs:=m.regs.set i.d.toNat (((m.regs).getD (i.a).toNat default)*2^i.k.toNat%65536)}
 else if i.op=9 then {m with regs:=m.regs.set i.d.toNat ((m.mem).getD (adr m i).toNat default)}
 else if i.op=10 then {m with mem:=m.mem.set (adr m i).toNat ((m.regs).getD (i.d).toNat default)}
 else if i.op=14 then {m with outs:=m.outs++ [((m.regs).getD (i.d).toNat default)]}
 else if i.op=15 then {m with regs:=m.regs.set i.d.toNat (m.ins.getD 0 default),ins:=m.ins.drop 1}
 else if i.op=0 then(if i.k=0 then {m with halt:=1}else if i.k=1 then {m with kg:=true}else {m with kg:=decide (i.k=2)})
 else if 11<=i.op then m
 else {m with regs:=m.regs.set i.d.toNat (wdo (i.op-2) ((m.regs).getD (i.a).toNat default) ((m.regs).getD (i.k).toNat default))}
def nxt(m:bq)(i:Ins):Int:=
 if i.op=0/\i.k=1 then m.save
 else if(i.op=11\/i.op=12)/\apk (i.op-10) ((m.regs).getD (i.d).toNat default) ((m.regs).getD (i.a).toNat default)=true then i.k
 else if i.op=13 then((m.regs).getD (i.a).toNat default)
 else(m.pc+1)%65536
def exec(m:bq)(i:Ins):bq:=if(i.op=9\/i.op=10)/\64<=adr m i then {m with halt:=3}else {eff m i with pc:=nxt m i,count:=m.count+1}
noncomputable def stepM (m:bq) (irq:Bool):bq:=
 let w:=m.waits || irq
 let m1:bq:=if w=true/\m.kg=true then {m with waits:=false,kg:=false,save:=m.pc,pc:=48}else {m with waits:=w}
 if 64<=m1.pc then {m1 with halt:=4}
 else if bp (dO (jm ((m1.mem).getD (m1.pc).toNat default)))=false then {m1 with halt:=2}
 else exec m1 (jm ((m1.mem).getD (m1.pc).toNat default))
theorem Wos.at{l:List Int}(h:Wos l)(i:Int):Wo ((l).getD (i).toNat default):=by
 by_cases c:i.toNat<l.length
 .rw [getD_lt c];exact h _ (List.getElem_mem _)
 .rw [List.getD_eq_getElem?_getD,List.getElem?_eq_none ah];exact⟨by decide,by decide⟩
theorem Qk{k:Int}(h0:0<=k)(h1:k<=15):Wo (2^k.toNat):=by
 obtain⟨j,rfl⟩:∃j:Nat,k=j:=⟨k.toNat,ah⟩;have:j<=15:=by omega
 rw [show((j:Int)).toNat=j from rfl];have h:(2:Nat)^j<=2^15:=Nat.pow_le_pow_right (by decide) this;have e:((2:Int)^j)=((2^j:Nat):Int):=by simp
 rw [e];have h15:(2:Nat)^15=32768:=by decide
 rw [h15]at h;generalize (2:Nat)^j=z at h;exact⟨ah,ah⟩
section
variable (B:Blk) (m:bq) (v:List Int)
theorem st2(k:Int):GL B ⟨m,v,false⟩ ⟨2,0,0,k,0⟩=⟨m,v++ [((m.regs).getD (k).toNat default)],false⟩:=by simp [GL,mM,mV]
end
end Go.TX.F
namespace Go.TX.F
open Go Go.AE Go.TX
def MSh(m:bq):Prop:=m.regs.length<1000000000/\m.mem.length<1000000000/\m.ins.length<1000000000/\m.outs.length<1000000000
abbrev m10(m : bq) : Int × Int × Bool × Bool × Int × Int × List Int × List Int × List Int × List Int × Unit := (m.pc, m.save, m.kg, m.waits, m.halt, m.count, m.regs, m.mem, m.ins, m.outs, ())
abbrev mB(m : bq) : Int × Int × Bool × Bool × Int × List Int × Int × List Int × List Int × List Int × Unit := (m.pc, m.save, m.kg, m.waits, m.halt, m.ins, m.count, m.regs, m.mem, m.outs, ())
abbrev mR(x : bq × Bool) : Int × Int × Bool × Bool × Int × Int × Bool × List Int × List Int × List Int × List Int × Unit := (x.1.pc, x.1.save, x.1.kg, x.1.waits, x.1.halt, x.1.count, x.2, x.1.regs, x.1.mem, x.1.ins, x.1.outs, ())
def MRB:(∀m:bq,iR .aM 0 .i64 m=m.regs)/\(∀m:bq,bV .aM 1 m=m.pc)/\(∀m:bq,iR .aM 2 .i64 m=m.mem)/\(∀m:bq,bV .aM 3 m=m.save)/\(∀m:bq,Km .aM 4 m=m.kg)/\(∀m:bq,Km .aM 5 m=m.waits)/\(∀m:bq,bV .aM 6 m=m.halt)/\(∀m:bq,iR .aM 7 .i64 m=m.ins)/\(∀m:bq,iR .aM 8 .i64 m=m.outs)/\(∀m:bq,bV .aM 9 m=m.count):=
 ⟨λ_=>rfl,λ_=>rfl,λ_=>rfl,λ_=>rfl,λ_=>rfl,λ_=>rfl,λ_=>rfl,λ_=>rfl,λ_=>rfl,λ_=>rfl⟩
def Bw{a b c:Int}:inB a b c=bp (b<=a/\a<=c):=by rw [gY];simp only [inB,pJ]
structure apm(pp:List Int×Unit->Bool)(ff:List Int×Unit->Bool×Unit):Prop where
 hp:∀l,l.length<1000000000->pp (l,())=true
 hf:∀l,l.length<1000000000->ff (l,())=(bp (Wos l),())
def apn{p1 f1 p2 f2 p3 f3}(U1:Y9 p1 f1)(U2:Y1 p2 f2)(U3:apm p3 f3)(m:bq)(h:MSh m):YM.F (p1,f1,p2,f2,p3,f3,()) (m,()) (λy=>y=(bp (MOK m),())):=by
 obtain⟨a1,a2,a3,a4⟩:=h;dsimp only [YM,gm];simp (disch:=omega) only [RR,MRB,U1.hp,U1.hf,U2.hp,U2.hf,U3.hp _ a1,U3.hf _ a1,U3.hp _ a2,U3.hf _ a2,U3.hp _ a3,U3.hf _ a3,U3.hp _ a4,U3.hf _ a4,Bw,pJ];simp only [<-gY];refine Prod.ext (iU ⟨λh=> ?_,λh=> ?_⟩) rfl
 .obtain⟨⟨⟨⟨⟨⟨⟨⟨⟨h1,h2⟩,h3⟩,h4⟩,h5⟩,h6⟩,h7⟩,h8⟩,h9⟩,h10⟩:=h;exact⟨ah,h3,ah,h4,h5,h6,h7,h8,h9,h10⟩
 .exact⟨⟨⟨⟨⟨⟨⟨⟨⟨by have:=h.r4;omega,by have:=h.m64;omega⟩,h.rw⟩,h.mw⟩,h.pc⟩,h.sv⟩,h.iw⟩,h.ow⟩,h.ha⟩,h.ct⟩
structure aup(pp:List Int×Unit->Bool)(ff:List Int×Unit->List Int×Unit):Prop where
 hp:∀l,l.length<=1073741824->pp (l,())=true
 hf:∀l,l.length<=1073741824->ff (l,())=(l,())
def Wos.set{l:List Int}(h:Wos l){n:Int}(w:Wo n)(i:Nat):Wos (l.set i n):=λx hx=>(List.mem_or_eq_of_mem_set hx).elim (h x) (λe=>e▸w)
def Wos.drop{l:List Int}(h:Wos l)(i:Nat):Wos (l.drop i):=λx hx=>h x (List.mem_of_mem_drop hx)
def Wos.snoc{l:List Int}(h:Wos l){n:Int}(w:Wo n):Wos (l++ [n]):=λx hx=>by
 rw [List.mem_append,List.mem_singleton]at hx;exact hx.elim (h x) (λe=>e▸w)
def wo0:Wo 0:=⟨by decide,by decide⟩
def afi{s:MS}(h:Wos s.vals)(o:IOp):Wo (vx s o):=by
 unfold vx;split
 .exact h.at _
 .exact wo0
def apo{s:MS}(h:Wos s.vals)(o:IOp):Wo (vy s o):=by
 unfold vy;split
 .exact h.at _
 .exact wo0
def Wos.hd{l:List Int}(h:Wos l):Wo (l.getD 0 default):=h.at 0
def apq{s:MS}{o:IOp}(h:Wos s.vals)(k:MOK s.m)(k1:o.kind=1->0<=o.k/\o.k<=65535):Wo (mV s o):=by
 unfold mV;split
 .exact k1 ‹_›
 split
 .exact k.rw.at _
 split
 .exact R7 _ _ _
 split
 .exact k.mw.at _
 split
 .exact k.iw.hd
 .exact wo0
def apr{s:MS}(h:Wos s.vals)(k:MOK s.m)(o:IOp):MOK (mM s o):=by
 unfold mM;split
 .exact {k with m64:=by rw [List.length_set];exact k.m64,mw:=k.mw.set (apo h o) _}
 split
 .exact {k with iw:=k.iw.drop 1}
 split
 .exact {k with ow:=k.ow.snoc (afi h o)}
 split
 .exact {k with r4:=by rw [List.length_set];exact k.r4,rw:=k.rw.set (afi h o) _}
 .exact k
def aps(s:MS)(o:IOp):(mM s o).ins.length<=s.m.ins.length/\(mM s o).outs.length<=s.m.outs.length+1/\(mM s o).regs.length=s.m.regs.length/\(mM s o).mem.length=s.m.mem.length:=by
 unfold mM;split
 .exact⟨Nat.le_refl _,Nat.le_succ _,rfl,List.length_set⟩
 split
 .exact⟨by rw [List.length_drop];omega,Nat.le_succ _,rfl,rfl⟩
 split
 .exact⟨Nat.le_refl _,by rw [List.length_append];exact Nat.le_refl _,rfl,rfl⟩
 split
 .exact⟨Nat.le_refl _,Nat.le_succ _,List.length_set,rfl⟩
 .exact⟨Nat.le_refl _,Nat.le_succ _,rfl,rfl⟩
def SM(b:Blk)(m0:bq)(i:Nat):MS:=(b.ops.take i).foldl (GL b) ⟨m0,[],false⟩
structure RJ(b:Blk)(m0:bq)(i:Nat)(S:MS):Prop where
 e:S=SM b m0 i
 lf:S.left=false
 ln:S.vals.length=i
 wv:Wos S.vals
 ok:MOK S.m
 li:S.m.ins.length<1000000000
 lo:S.m.outs.length<=m0.outs.length+i
def ad7{b:Blk}{m0:bq}{i:Nat}(hi:i<b.ops.length):SM b m0 (i+1)=GL b (SM b m0 i) (b.ops.getD i default):=by
 unfold SM;rw [List.take_succ_eq_append_getElem hi,List.foldl_append,getD_lt hi];rfl
def RJ.next{b:Blk}{m0:bq}{i:Nat}{S:MS}{o:IOp}(h:RJ b m0 i S)(hi:i<b.ops.length)(ho:b.ops.getD i default=o)(k1:o.kind=1->0<=o.k/\o.k<=65535)
  (c1:¬((o.kind=4\/o.kind=5)/\64<=vx S o)) (c2:¬(o.kind=5/\b.pc+o.at_+1<=vx S o/\vx S o<=b.pc+b.len-1)):RJ b m0 (i+1) ⟨mM S o,S.vals++ [mV S o],false⟩:=by
 have l:=aps S o;refine⟨?_,rfl,by rw [List.length_append,h.ln];rfl,h.wv.snoc (apq h.wv h.ok k1),apr h.wv h.ok o,by have:=h.li;dsimp only;omega,by have:=h.lo;dsimp only;omega⟩;rw [ad7 hi,<-h.e,ho];unfold GL;rw [if_neg (by rw [h.lf];decide),if_neg c1,if_neg c2]
def RT(b:Blk)(m0:bq)(y:List IOp×Int×Int×Int×Int×Bool×Bool×Int×List Int×Int×List Int×List Int×Blk×List Int×List Int×Unit):Prop:=
 ∃(i:Nat) (S:MS),i<=b.ops.length/\RJ b m0 i S/\y=(b.ops,(b.ops.length:Int),(i:Int),S.m.pc,S.m.save,S.m.kg,S.m.waits,S.m.halt,S.m.ins,S.m.count,S.m.regs,S.m.mem,b,S.vals++List.replicate (b.ops.length-i) 0,S.m.outs,())
def RT.next{b:Blk}{m0:bq}{i:Nat}{S:MS}{o:IOp}{y:List IOp×Int×Int×Int×Int×Bool×Bool×Int×List Int×Int×List Int×List Int×Blk×List Int×List Int×Unit}(h:RJ b m0 i S)(hi:i<b.ops.length)(ho:b.ops.getD i default=o)(k1:o.kind=1->0<=o.k/\o.k<=65535)
  (c1:¬((o.kind=4\/o.kind=5)/\64<=vx S o)) (c2:¬(o.kind=5/\b.pc+o.at_+1<=vx S o/\vx S o<=b.pc+b.len-1))
  (e:y=(b.ops,(b.ops.length:Int),(i:Int)+1,(mM S o).pc,(mM S o).save,(mM S o).kg,(mM S o).waits,(mM S o).halt,(mM S o).ins,(mM S o).count,(mM S o).regs,(mM S o).mem,b,(S.vals++ [mV S o])++List.replicate (b.ops.length- (i+1)) 0,(mM S o).outs,())):
  RT b m0 y/\(b.ops.length-y.2.2.1).toNat< (b.ops.length- (i:Int)).toNat:=by
 subst e;exact⟨⟨i+1,_,hi,h.next hi ho k1 c1 c2,rfl⟩,by dsimp only;omega⟩
structure auq(pp:Int×Int×Bool×Bool×Int×List Int×Int×List Int×List Int×List Int×Unit->Bool)(ff:Int×Int×Bool×Bool×Int×List Int×Int×List Int×List Int×List Int×Unit->Int×Int×Int×Bool×Bool×Int×List Int×Int×List Int×List Int×List Int×Unit):Prop where
 hp:∀(pc sv:Int) (lt wt:Bool) (ha:Int) (ins:List Int) (ct:Int) (regs mem outs:List Int),ins.length<1000000000->pp (pc,sv,lt,wt,ha,ins,ct,regs,mem,outs,())=true
 hf:∀(pc sv:Int) (lt wt:Bool) (ha:Int) (ins:List Int) (ct:Int) (regs mem outs:List Int),ins.length<1000000000->ff (pc,sv,lt,wt,ha,ins,ct,regs,mem,outs,())=(ins.getD 0 default,pc,sv,lt,wt,ha,ins.drop 1,ct,regs,mem,outs,())
structure atc(pp:bq×Unit->Bool)(ff:bq×Unit->Int×Int×Bool×Bool×Int×Int×List Int×List Int×List Int×List Int×Unit):Prop where
 hp:∀m,MSh m->pp (m,())=true
 hf:∀m,MSh m->ff (m,())=m10 m
structure apt(pp:bq×Unit->Bool)(ff:bq×Unit->Bool×Unit):Prop where
 hp:∀m,MSh m->pp (m,())=true
 hf:∀m,MSh m->ff (m,())=(bp (MOK m),())
def apu{n:Int}(h0:0<=n)(h1:n<=15):(uH.getD n.toNat default).d=decide (n≠0/\n≠13)/\(uH.getD n.toNat default).a=decide (n≠0/\n≠1/\n≠14/\n≠15)/\
  (uH.getD n.toNat default).most=(if n=0 then 3 else if n=1 then 255 else if n=2 then 0 else if n<=7 then 3 else if n=8 then 15 else if n<=12 then 255 else 0):=by
 rcases(by omega:n=0\/n=1\/n=2\/n=3\/n=4\/n=5\/n=6\/n=7\/n=8\/n=9\/n=10\/n=11\/n=12\/n=13\/n=14\/n=15)with h | h | h | h | h | h | h | h | h | h | h | h | h | h | h | h<;>subst h<;>exact⟨rfl,rfl,rfl⟩
theorem ajl:(uH.length:Int)=16:=rfl
theorem apv{p1 f1 p2 f2}(U1:Y1 p1 f1)(U2:Y17 p2 f2)(i:Ins):Xu.F (p1,f1,p2,f2,()) (i,()) (λy=>y=(bp (dO i),())):=by
 have RI':(∀i:Ins,bV .ins 0 i=i.op)/\(∀i:Ins,bV .ins 1 i=i.d)/\(∀i:Ins,bV .ins 2 i=i.a)/\(∀i:Ins,bV .ins 3 i=i.k)/\(∀f:Form,Km .form 0 f=f.d)/\(∀f:Form,Km .form 1 f=f.a)/\(∀f:Form,bV .form 2 f=f.most):=⟨λ_=>rfl,λ_=>rfl,λ_=>rfl,λ_=>rfl,λ_=>rfl,λ_=>rfl,λ_=>rfl⟩;have gl:Rz .form=uH:=rfl;dsimp only [Xu,gm];simp (disch:=omega) only [RR,RI',U1.hp,U1.hf,U2.hp,U2.hf,gl,ajl,bM,jq];refine⟨λh=>by rw [aR (λg=>h ⟨g.1.1,g.1.2⟩)],λh=> ?_⟩;obtain⟨f1',f2',f3'⟩:=apu h.1 h.2;rw [f1',f2',f3'];refine⟨h.1,ah,Prod.ext ?_ rfl⟩;simp only [Bw,pJ];have ob:∀P Q:Prop,(bp P || bp Q)=bp (P\/Q):=λP Q=>by by_cases h1:P<;>by_cases h2:Q<;>simp [bp,h1,h2]
 simp only [ob,<-gY];refine iU ?_;unfold dO;obtain⟨g0,g1⟩:=h;rcases(by omega:i.op=0\/i.op=1\/i.op=2\/(3<=i.op/\i.op<=7)\/i.op=8\/(9<=i.op/\i.op<=12)\/i.op=13\/i.op=14\/i.op=15)with h | h | h | h | h | h | h | h | h
 all_goals (constructor<;>intro g<;>(repeat' split at g)<;>(repeat' split)<;>omega)
def apw{p1 f1}(U1:Y1 p1 f1)(a:Int):Xx.F (p1,f1,()) (a,()) (λy=>y=(inB a 11 13,())):=by
 dsimp only [Xx,gm];simp (disch:=omega) only [RR,U1.hp,U1.hf]
structure ajm(pp:Int×Unit->Bool)(ff:Int×Unit->Bool×Unit):Prop where
 hp:∀a,pp (a,())=true
 hf:∀a,ff (a,())=(inB a 11 13,())
structure Z5(pp:Ins×Unit->Bool)(ff:Ins×Unit->Bool×Unit):Prop where
 hp:∀i,pp (i,())=true
 hf:∀i,ff (i,())=(bp (dO i),())
theorem atd{p1 f1 p2 f2 p3 f3}(U1:ajm p1 f1)(U2:Z5 p2 f2)(U3:Y1 p3 f3)(pc:Int)(l:List Ins)(hl:l.length<1000000000):ahI.F (p1,f1,p2,f2,p3,f3,()) (pc,l,()) (λy=>y=(bp (qC pc l),())):=by
 have io:∀i:Ins,bV .ins 0 i=i.op:=λ_=>rfl
 dsimp only [ahI,gm];simp (disch:=omega) only [RR,io,U1.hp,U1.hf,U2.hp,U2.hf,U3.hp,U3.hf,bM,jq];refine⟨λh=> ?_,λh=> ?_⟩
 .rw [aR];intro g;have a:=g.ln;have c:=g.pc;omega
 refine ak (λ(y:List Ins×List Ins×Int×Int×Unit)=>y.1=l/\y.2.1=l/\y.2.2.1=l.length/\0<=y.2.2.2.1/\y.2.2.2.1<=l.length/\∀j:Nat,j<y.2.2.2.1->dO (l.getD j default)/\(l.getD j default).op≠0/\(11<=(l.getD j default).op/\(l.getD j default).op<=13->j+1=l.length)) (λy=>(l.length-y.2.2.2.1).toNat) ⟨rfl,rfl,rfl,by simp,by simp,λj hj=>absurd hj (by dsimp only;omega)⟩ ?_;rintro⟨(l1:List Ins),(l2:List Ins),(n:Int),(i:Int),⟨⟩⟩ hI;dsimp only at hI ⊢;obtain⟨rfl,rfl,rfl,h1,h2,h3⟩:=hI;simp (disch:=omega) only [RR,io,U1.hp,U1.hf,U2.hp,U2.hf,bM,jq,aN,fT];refine⟨λg=>⟨h1,g,λe=> ?_,λe=>⟨⟨ah,ah,λj hj=> ?_⟩,ah⟩⟩,λg=> ?_⟩
 .rw [aR];intro v;have:=v.ok i.toNat ah;rcases e with(e | e) | e
  .exact e this.1
  .exact this.2.1 e
  .have:=this.2.2 e.1;omega
 .by_cases c:j<i
  .exact h3 j c
  .have ej:j=i.toNat:=by omega
   subst ej;obtain⟨⟨e1,e2⟩,e3⟩:=e;refine⟨e1,e2,λq=> ?_⟩;rw [bM.2 q,Bool.true_and]at e3;have:=of_decide_eq_false e3;omega
 .rw [aU];exact⟨ah,ah,λj hj=>h3 j ah⟩
theorem afj{p1 f1}(U1:Y61 p1 f1)(kd x y k a1 a2 a3 a4 a5 a6 a:Int)(ops:List IOp)(h:ops.length<1000000):Yu.F (p1,f1,()) (kd,x,y,k,a1,a2,a3,a4,a5,a6,a,ops,()) (λy'=>y'=((ops.length:Int),a1,a2,a3,a4,a5,a6,a,ops++ [⟨kd,x,y,k,if 4<=kd/\kd<=7 then a else 0⟩],())):=by
 have mk:∀a b c d e:Int,Co.mk .iop (a,b,c,d,e,())=⟨a,b,c,d,e⟩:=λ_ _ _ _ _=>rfl
 dsimp only [Yu,gm];simp (disch:=omega) only [RR,mk,U1.hp,U1.hf,evO,List.length_cons,List.length_nil,List.length_append];refine⟨λc=>⟨ah,?_⟩,λc=>⟨ah,?_⟩⟩
 .rw [if_pos c,show((ops.length+(0+1):Nat):Int)-1=ops.length by omega]
 .rw [if_neg c,show((ops.length+(0+1):Nat):Int)-1=ops.length by omega]
structure Z6(pp:Int×Int×Int×Int×Int×Int×Int×Int×Int×Int×Int×List IOp×Unit->Bool)(ff:Int×Int×Int×Int×Int×Int×Int×Int×Int×Int×Int×List IOp×Unit->Int×Int×Int×Int×Int×Int×Int×Int×List IOp×Unit):Prop where
 hp:∀(kd x y k a1 a2 a3 a4 a5 a6 a:Int) (ops:List IOp),ops.length<1000000->pp (kd,x,y,k,a1,a2,a3,a4,a5,a6,a,ops,())=true
 hf:∀(kd x y k a1 a2 a3 a4 a5 a6 a:Int) (ops:List IOp),ops.length<1000000->ff (kd,x,y,k,a1,a2,a3,a4,a5,a6,a,ops,())=((ops.length:Int),a1,a2,a3,a4,a5,a6,a,ops++ [⟨kd,x,y,k,if 4<=kd/\kd<=7 then a else 0⟩],())
def afk{p1 f1}(U1:Z6 p1 f1)(k a1 a2 a3 a4 a5 a6 a:Int)(ops:List IOp)(h:ops.length<1000000):Yw.F (p1,f1,()) (k,a1,a2,a3,a4,a5,a6,a,ops,()) (λy=>y=((ops.length:Int),a1,a2,a3,a4,a5,a6,a,ops++ [⟨1,0,0,k,0⟩],())):=by
 dsimp only [Yw,gm];simp (disch:=omega) only [RR,U1.hp 1 0 0 k a1 a2 a3 a4 a5 a6 a ops h,U1.hf 1 0 0 k a1 a2 a3 a4 a5 a6 a ops h];rfl
def afl{p1 f1}(U1:Z6 p1 f1)(k a1 a2 a3 a4 a5 a6 a:Int)(ops:List IOp)(h:ops.length<1000000):Yx.F (p1,f1,()) (k,a1,a2,a3,a4,a5,a6,a,ops,()) (λy=>y=((ops.length:Int),a1,a2,a3,a4,a5,a6,a,ops++ [⟨2,0,0,k,0⟩],())):=by
 dsimp only [Yx,gm];simp (disch:=omega) only [RR,U1.hp 2 0 0 k a1 a2 a3 a4 a5 a6 a ops h,U1.hf 2 0 0 k a1 a2 a3 a4 a5 a6 a ops h];rfl
def afm{p1 f1}(U1:Z6 p1 f1)(op x y a1 a2 a3 a4 a5 a6 a:Int)(ops:List IOp)(h:ops.length<1000000):Yy.F (p1,f1,()) (op,x,y,a1,a2,a3,a4,a5,a6,a,ops,()) (λz=>z=((ops.length:Int),a1,a2,a3,a4,a5,a6,a,ops++ [⟨3,x,y,op,0⟩],())):=by
 dsimp only [Yy,gm];simp (disch:=omega) only [RR,U1.hp 3 x y op a1 a2 a3 a4 a5 a6 a ops h,U1.hf 3 x y op a1 a2 a3 a4 a5 a6 a ops h];rfl
theorem apx{p1 f1}(U1:Z6 p1 f1)(v:Int)(i:Ins)(a1 a2 a3 a4 a5 a6 a:Int)(ops:List IOp)(h:ops.length<1000000):Yv.F (p1,f1,()) (v,i,a1,a2,a3,a4,a5,a6,a,ops,()) (λy=>y=(i,a1,a2,a3,a4,a5,a6,a,ops++ [⟨8,v,0,i.d,0⟩],())):=by
 have io:bV .ins 1 i=i.d:=rfl;dsimp only [Yv,gm];simp (disch:=omega) only [RR,io,U1.hp 8 v 0 i.d a1 a2 a3 a4 a5 a6 a ops h,U1.hf 8 v 0 i.d a1 a2 a3 a4 a5 a6 a ops h];rfl
def ad8{k:Int}(h0:0<=k)(h1:k<=15):gX .shl .i64 1 k=2^k.toNat:=by
 have p:=Qk h0 h1;unfold Wo at p;show IntKind.i64.wrap (1*2^ (min k.toNat 64))=_;rw [Nat.min_eq_left ah,Int.one_mul,w64 ah ah]
set_option maxHeartbeats 1000000 in
def apy{p4 f4}{p1:Int×Int×Int×Int×Int×Int×Int×Int×Int×Int×List IOp×Unit->Bool}{f1:Int×Int×Int×Int×Int×Int×Int×Int×Int×Int×List IOp×Unit->Int×Int×Int×Int×Int×Int×Int×Int×List IOp×Unit}(hp1:∀(op x y a1 a2 a3 a4 a5 a6 a:Int) (ops:List IOp),ops.length<1000000->p1 (op,x,y,a1,a2,a3,a4,a5,a6,a,ops,())=true)(hf1:∀(op x y a1 a2 a3 a4 a5 a6 a:Int) (ops:List IOp),ops.length<1000000->f1 (op,x,y,a1,a2,a3,a4,a5,a6,a,ops,())=((ops.length:Int),a1,a2,a3,a4,a5,a6,a,ops++ [⟨3,x,y,op,0⟩],())){p2:Int×Int×Int×Int×Int×Int×Int×Int×List IOp×Unit->Bool}{f2:Int×Int×Int×Int×Int×Int×Int×Int×List IOp×Unit->Int×Int×Int×Int×Int×Int×Int×Int×List IOp×Unit}(hp2:∀(k a1 a2 a3 a4 a5 a6 a:Int) (ops:List IOp),ops.length<1000000->p2 (k,a1,a2,a3,a4,a5,a6,a,ops,())=true)(hf2:∀(k a1 a2 a3 a4 a5 a6 a:Int) (ops:List IOp),ops.length<1000000->f2 (k,a1,a2,a3,a4,a5,a6,a,ops,())=((ops.length:Int),a1,a2,a3,a4,a5,a6,a,ops++ [⟨2,0,0,k,0⟩],())){p3:Int×Ins×Int×Int×Int×Int×Int×Int×Int×List IOp×Unit->Bool}{f3:Int×Ins×Int×Int×Int×Int×Int×Int×Int×List IOp×Unit->Ins×Int×Int×Int×Int×Int×Int×Int×List IOp×Unit}(hp3:∀(v:Int) (i:Ins) (a1 a2 a3 a4 a5 a6 a:Int) (ops:List IOp),ops.length<1000000->p3 (v,i,a1,a2,a3,a4,a5,a6,a,ops,())=true)(hf3:∀(v:Int) (i:Ins) (a1 a2 a3 a4 a5 a6 a:Int) (ops:List IOp),ops.length<1000000->f3 (v,i,a1,a2,a3,a4,a5,a6,a,ops,())=(i,a1,a2,a3,a4,a5,a6,a,ops++ [⟨8,v,0,i.d,0⟩],()))(U4:Z6 p4 f4){p5:Int×Int×Int×Int×Int×Int×Int×Int×List IOp×Unit->Bool}{f5:Int×Int×Int×Int×Int×Int×Int×Int×List IOp×Unit->Int×Int×Int×Int×Int×Int×Int×Int×List IOp×Unit}(hp5:∀(k a1 a2 a3 a4 a5 a6 a:Int) (ops:List IOp),ops.length<1000000->p5 (k,a1,a2,a3,a4,a5,a6,a,ops,())=true)(hf5:∀(k a1 a2 a3 a4 a5 a6 a:Int) (ops:List IOp),ops.length<1000000->f5 (k,a1,a2,a3,a4,a5,a6,a,ops,())=((ops.length:Int),a1,a2,a3,a4,a5,a6,a,ops++ [⟨1,0,0,k,0⟩],()))(i:Ins)(B:Blk)(a:Int)(h:B.ops.length<900000)(h8:i.op=8->0<=i.k/\i.k<=15)(h0:0<=i.op/\i.op<=15):Yz.F (p1,f1,p2,f2,p3,f3,p4,f4,p5,f5,()) (i,B.pc,B.len,B.fin,B.x,B.y,B.k,a,B.ops,()) (λy=>y=((fF a B i).pc,(fF a B i).len,(fF a B i).fin,(fF a B i).x,(fF a B i).y,(fF a B i).k,a,(fF a B i).ops,())):=by
 have io:(∀i:Ins,bV .ins 0 i=i.op)/\(∀i:Ins,bV .ins 1 i=i.d)/\(∀i:Ins,bV .ins 2 i=i.a)/\(∀i:Ins,bV .ins 3 i=i.k):=⟨λ_=>rfl,λ_=>rfl,λ_=>rfl,λ_=>rfl⟩;have a2:∀n:Int,n+1+1=n+2:=λn=>by omega
 have a3:∀n:Int,n+2+1=n+3:=λn=>by omega
 have a4:∀n:Int,n-3+1=n-2:=λn=>by omega
 obtain⟨h00,h01⟩:=h0;have n1:∀(l:List IOp) (o:IOp),((l++ [o]).length:Int)=l.length+1:=λl o=>by rw [List.length_append];rfl
 have m1:∀(l:List IOp) (o:IOp),l.length<990000->(l++ [o]).length<1000000:=λl o h=>by rw [List.length_append];simp only [List.length_cons,List.length_nil];omega
 have m2:∀(l:List IOp) (o o2:IOp),l.length<990000->((l++ [o])++ [o2]).length<1000000:=λl o o2 h=>by simp only [List.length_append,List.length_cons,List.length_nil];omega
 have m3:∀(l:List IOp) (o o2 o3:IOp),l.length<990000->(((l++ [o])++ [o2])++ [o3]).length<1000000:=λl o o2 o3 h=>by simp only [List.length_append,List.length_cons,List.length_nil];omega
 have m4:∀(l:List IOp) (o o2 o3 o4:IOp),l.length<990000->((((l++ [o])++ [o2])++ [o3])++ [o4]).length<1000000:=λl o o2 o3 o4 h=>by simp only [List.length_append,List.length_cons,List.length_nil];omega
 dsimp only [Yz,gm];unfold fF gu;by_cases e1:i.op=1
 .simp (disch:=first | omega | (apply m1;omega) | (apply m2;omega) | (apply m3;omega) | (apply m4;omega)) only [RR,io,e1,hp1,hf1,hp2,hf2,hp3,hf3,U4.hp,U4.hf,hp5,hf5,n1,Int.reduceEq,Int.reduceAdd,Int.reduceSub,Int.reduceLE,or_self,true_and,and_true,and_self,false_and,and_false]
  try simp [a2,a3]
 by_cases e2:i.op=2
 .simp (disch:=first | omega | (apply m1;omega) | (apply m2;omega) | (apply m3;omega) | (apply m4;omega)) only [RR,io,e2,hp1,hf1,hp2,hf2,hp3,hf3,U4.hp,U4.hf,hp5,hf5,n1,Int.reduceEq,Int.reduceAdd,Int.reduceSub,Int.reduceLE,or_self,true_and,and_true,and_self,false_and,and_false]
  try simp [a2,a3]
 by_cases e8:i.op=8
 .simp (disch:=first | omega | (apply m1;omega) | (apply m2;omega) | (apply m3;omega) | (apply m4;omega)) only [RR,io,e8,hp1,hf1,hp2,hf2,hp3,hf3,U4.hp,U4.hf,hp5,hf5,n1,Int.reduceEq,Int.reduceAdd,Int.reduceSub,Int.reduceLE,or_self,true_and,and_true,and_self,false_and,and_false,ad8 (h8 e8).1 (h8 e8).2,(h8 e8).1]
  try simp [a2,a3]
 by_cases e9:i.op=9
 .simp (disch:=first | omega | (apply m1;omega) | (apply m2;omega) | (apply m3;omega) | (apply m4;omega)) only [RR,io,e9,hp1,hf1,hp2,hf2,hp3,hf3,U4.hp,U4.hf,hp5,hf5,n1,Int.reduceEq,Int.reduceAdd,Int.reduceSub,Int.reduceLE,or_self,true_and,and_true,and_self,false_and,and_false]
  try simp [a2,a3]
 by_cases e10:i.op=10
 .simp (disch:=first | omega | (apply m1;omega) | (apply m2;omega) | (apply m3;omega) | (apply m4;omega)) only [RR,io,e10,hp1,hf1,hp2,hf2,hp3,hf3,U4.hp,U4.hf,hp5,hf5,n1,Int.reduceEq,Int.reduceAdd,Int.reduceSub,Int.reduceLE,or_self,true_and,and_true,and_self,false_and,and_false]
  try simp [a2,a3]
 by_cases e14:i.op=14
 .simp (disch:=first | omega | (apply m1;omega) | (apply m2;omega) | (apply m3;omega) | (apply m4;omega)) only [RR,io,e14,hp1,hf1,hp2,hf2,hp3,hf3,U4.hp,U4.hf,hp5,hf5,n1,Int.reduceEq,Int.reduceAdd,Int.reduceSub,Int.reduceLE,or_self,true_and,and_true,and_self,false_and,and_false]
  try simp [a2,a3]
 by_cases e15:i.op=15
 .simp (disch:=first | omega | (apply m1;omega) | (apply m2;omega) | (apply m3;omega) | (apply m4;omega)) only [RR,io,e15,hp1,hf1,hp2,hf2,hp3,hf3,U4.hp,U4.hf,hp5,hf5,n1,Int.reduceEq,Int.reduceAdd,Int.reduceSub,Int.reduceLE,or_self,true_and,and_true,and_self,false_and,and_false]
  try simp [a2,a3]
 by_cases e11:i.op=11
 .simp (disch:=first | omega | (apply m1;omega) | (apply m2;omega) | (apply m3;omega) | (apply m4;omega)) only [RR,io,e11,hp1,hf1,hp2,hf2,hp3,hf3,U4.hp,U4.hf,hp5,hf5,n1,Int.reduceEq,Int.reduceAdd,Int.reduceSub,Int.reduceLE,or_self,true_and,and_true,and_self,false_and,and_false]
  try simp [a2,a3]
 by_cases e12:i.op=12
 .simp (disch:=first | omega | (apply m1;omega) | (apply m2;omega) | (apply m3;omega) | (apply m4;omega)) only [RR,io,e12,hp1,hf1,hp2,hf2,hp3,hf3,U4.hp,U4.hf,hp5,hf5,n1,Int.reduceEq,Int.reduceAdd,Int.reduceSub,Int.reduceLE,or_self,true_and,and_true,and_self,false_and,and_false]
  try simp [a2,a3]
 by_cases e13:i.op=13
 .simp (disch:=first | omega | (apply m1;omega) | (apply m2;omega) | (apply m3;omega) | (apply m4;omega)) only [RR,io,e13,hp1,hf1,hp2,hf2,hp3,hf3,U4.hp,U4.hf,hp5,hf5,n1,Int.reduceEq,Int.reduceAdd,Int.reduceSub,Int.reduceLE,or_self,true_and,and_true,and_self,false_and,and_false]
  try simp [a2,a3]
 simp (disch:=first | omega | (apply m1;omega) | (apply m2;omega) | (apply m3;omega) | (apply m4;omega)) only [RR,io,e1,e2,e8,e9,e10,e14,e15,e11,e12,e13,hp1,hf1,hp2,hf2,hp3,hf3,U4.hp,U4.hf,hp5,hf5,n1,Int.reduceEq,Int.reduceAdd,Int.reduceSub,Int.reduceLE,or_self,true_and,and_true,and_self,false_and,and_false]
 try simp [a2,a3,a4]
def Z7(n b:Int)(i:Ins):(gu n b i).length<=5:=by
 unfold gu;repeat' split
 all_goals simp only [List.length_cons,List.length_nil]
 all_goals omega
def Z8(n:Int)(b:Blk)(i:Ins):(fF n b i).ops.length<=b.ops.length+5:=by
 have:=Z7 n b.ops.length i;unfold fF;repeat' split
 all_goals (dsimp only;rw [List.length_append];omega)
def wG:∀(l:List Ins) (n:Int) (b:Blk) (i:Ins),nQ n b (l++ [i])=fF (n+l.length) (nQ n b l) i
 | [],n,b,i=>by simp [nQ]
 | j::l,n,b,i=>by
  show nQ (n+1) (fF n b j) (l++ [i])=fF _ (nQ (n+1) (fF n b j) l) i;rw [wG l (n+1) (fF n b j) i,List.length_cons,show n+1+(l.length:Int)=n+((l.length+1:Nat):Int) by omega]
def zI:∀(l:List Ins) (n:Int) (b:Blk),(nQ n b l).ops.length<=b.ops.length+5*l.length
 | [],_,_=>Nat.le_refl _
 | i::l,n,b=>by
  show(nQ (n+1) (fF n b i) l).ops.length<=_;have:=zI l (n+1) (fF n b i);have:=Z8 n b i;rw [List.length_cons];omega
structure apz(pp:Int×List Ins×Unit->Bool)(ff:Int×List Ins×Unit->Bool×Unit):Prop where
 hp:∀pc l,l.length<1000000000->pp (pc,l,())=true
 hf:∀pc l,l.length<1000000000->ff (pc,l,())=(bp (qC pc l),())
theorem ate{p1 f1 p2 f2}(U1:apz p1 f1)(U2:Y99 p2 f2){p3:Ins×Int×Int×Int×Int×Int×Int×Int×List IOp×Unit->Bool}{f3:Ins×Int×Int×Int×Int×Int×Int×Int×List IOp×Unit->Int×Int×Int×Int×Int×Int×Int×List IOp×Unit}(hp3:∀(i:Ins) (B:Blk) (a:Int),B.ops.length<900000->(i.op=8->0<=i.k/\i.k<=15)->(0<=i.op/\i.op<=15)->p3 (i,B.pc,B.len,B.fin,B.x,B.y,B.k,a,B.ops,())=true)(hf3:∀(i:Ins) (B:Blk) (a:Int),B.ops.length<900000->(i.op=8->0<=i.k/\i.k<=15)->(0<=i.op/\i.op<=15)->f3 (i,B.pc,B.len,B.fin,B.x,B.y,B.k,a,B.ops,())=((fF a B i).pc,(fF a B i).len,(fF a B i).fin,(fF a B i).x,(fF a B i).y,(fF a B i).k,a,(fF a B i).ops,()))(pc:Int)(l:List Ins)(hl:l.length<1000000000):ahN.F (p1,f1,p2,f2,p3,f3,()) (pc,l,()) (λy=>y=bk7 (lower pc l)):=by
 have mE:∀c:Blk,Co.mk .blk (c.pc,c.len,c.ops,c.fin,c.x,c.y,c.k,())=c:=λ_=>rfl
 dsimp only [ahN,gm,qX];simp (disch:=omega) only [RR,U1.hp pc l hl,U1.hf pc l hl,aN,fT];unfold lower;refine⟨λh=>by rw [aR h,if_neg (by decide)];rfl,λh=> ?_⟩;rw [aU h,if_pos rfl];have ln:=h.ln;have pp:=h.pc;refine ak (λ(y:List Ins×Int×Int×Int×Int×Int×Int×Int×Int×Int×Int×Int×Int×Int×Int×Int×List IOp×Unit)=>y.1=l/\y.2.1=l.length/\0<=y.2.2.1/\y.2.2.1<=l.length/\∃B:Blk,B=nQ 0 (uU pc l) (l.take y.2.2.1.toNat)/\y.2.2.2.2.2.2.2.2.2.1=B.pc/\y.2.2.2.2.2.2.2.2.2.2.1=B.len/\y.2.2.2.2.2.2.2.2.2.2.2.1=B.fin/\y.2.2.2.2.2.2.2.2.2.2.2.2.1=B.x/\y.2.2.2.2.2.2.2.2.2.2.2.2.2.1=B.y/\y.2.2.2.2.2.2.2.2.2.2.2.2.2.2.1=B.k/\y.2.2.2.2.2.2.2.2.2.2.2.2.2.2.2.2.1=B.ops) (λy=>(l.length-y.2.2.1).toNat) ⟨rfl,rfl,by simp,by simp,_,rfl,rfl,rfl,rfl,rfl,rfl,w64 ah ah,rfl⟩ ?_;rintro⟨(l':List Ins),(n:Int),(i:Int),z1,z2,z3,z4,z5,z6,q1,q2,q3,q4,q5,q6,q7,q8,⟨⟩⟩ hI;dsimp only at hI ⊢;obtain⟨rfl,rfl,h1,h2,B,eB,rfl,rfl,rfl,rfl,rfl,rfl,rfl⟩:=hI;have bl:B.ops.length<=40:=by
  have:=zI (l'.take i.toNat) 0 (uU pc l');rw [<-eB]at this;have t:=List.length_take_le i.toNat l';have:(uU pc l').ops.length=0:=rfl;omega
 by_cases c:i<l'.length
 .obtain⟨o1,o2,o3⟩:=h.ok i.toNat ah;have H8:(((l').getD (i).toNat default)).op=8->0<=(((l').getD (i).toNat default)).k/\(((l').getD (i).toNat default)).k<=15:=λe=>⟨o1.2.2.2.1,o1.2.2.2.2.2.2.2.2.1 e⟩
  have H0:=o1.1;simp (disch:=omega) only [RR,c,hp3 (((l').getD (i).toNat default)) B i ah H8 H0,hf3 (((l').getD (i).toNat default)) B i ah H8 H0];refine⟨h1,⟨ah,ah,fF i B (((l').getD (i).toNat default)),?_,rfl,rfl,rfl,rfl,rfl,rfl,rfl⟩,ah⟩;rw [<-bK (d:=default) h1 c rfl,wG,<-eB,List.length_take,show(0:Int)+((min i.toNat l'.length:Nat):Int)=i by omega]
 .rw [List.take_of_length_le ah]at eB;simp (disch:=omega) only [RR,c,mE,U2.hp B ah,U2.hf B ah,<-eB]
def OKS(ops:List IOp)(len:Int):Prop:=∀j:Int,0<=j->j<ops.length->nP ops len j ((ops).getD (j).toNat default)
theorem apA{ops w:List IOp}{x:Int}(h0:0<=x)(h:x<ops.length):((ops++w).getD (x).toNat default)=((ops).getD (x).toNat default):=by
 rw [List.getD_eq_getElem?_getD,List.getElem?_append_left ah,<-List.getD_eq_getElem?_getD]
theorem apB{ops w:List IOp}{t:Nat}:((ops++w).getD ((ops.length:Int)+t).toNat default)=w.getD t default:=by
 rw [List.getD_eq_getElem?_getD,List.getElem?_append_right ah,<-List.getD_eq_getElem?_getD,show((ops.length:Int)+t).toNat-ops.length=t by omega]
theorem Vl.mono{ops w:List IOp}{x n n':Int}(h:Vl ops x n)(h1:n<=ops.length)(h2:n<=n'):Vl (ops++w) x n':=by
 obtain⟨a,b,c⟩:=h;exact⟨a,ah,by rw [apA a ah];exact c⟩
theorem nP.mono{ops w:List IOp}{len i:Int}{o:IOp}(h:nP ops len i o)(h1:i<=ops.length):nP (ops++w) len i o:=
 {h with x1:=λg=>(h.x1 g).mono h1 (Int.le_refl _),y1:=λg=>(h.y1 g).mono h1 (Int.le_refl _)}
theorem OKS.app{ops w:List IOp}{len:Int}(h:OKS ops len)(hw:∀t:Nat,t<w.length->nP (ops++w) len ((ops.length:Int)+t) (w.getD t default)):OKS (ops++w) len:=λj j0 j1=>by
 rw [List.length_append]at j1;by_cases c:j<ops.length
 .rw [apA j0 c];exact(h j j0 c).mono ah
 .obtain⟨t,rfl⟩:∃t:Nat,j=(ops.length:Int)+t:=⟨(j-ops.length).toNat,ah⟩;rw [apB];exact hw t ah
theorem SB(ops w:List IOp)(s t:Nat)(h:s<t)(m:mkV (w.getD s default)):Vl (ops++w) ((ops.length:Int)+s) ((ops.length:Int)+t):=⟨ah,ah,by rw [apB];exact m⟩
section
variable {ops:List IOp} {len i x y k n:Int}
theorem ok1(h:0<=k/\k<=65535):nP ops len i ⟨1,0,0,k,0⟩:=by constructor<;>simp [hX,hY,evO]<;>omega
theorem ok2(h:0<=k/\k<=3):nP ops len i ⟨2,0,0,k,0⟩:=by constructor<;>simp [hX,hY,evO]<;>omega
theorem ok3(h:1<=k/\k<=5)(hx:Vl ops x i)(hy:Vl ops y i):nP ops len i ⟨3,x,y,k,0⟩:=by constructor<;>simp [hX,hY,evO,hx,hy]<;>omega
theorem ok4(h:0<=n/\n<len)(hx:Vl ops x i):nP ops len i ⟨4,x,0,0,n⟩:=by constructor<;>simp [hX,hY,evO,hx]<;>omega
theorem ok5(h:0<=n/\n<len)(hx:Vl ops x i)(hy:Vl ops y i):nP ops len i ⟨5,x,y,0,n⟩:=by constructor<;>simp [hX,hY,evO,hx,hy]<;>omega
theorem ok6(h:0<=n/\n<len):nP ops len i ⟨6,0,0,0,n⟩:=by constructor<;>simp [hX,hY,evO]<;>omega
theorem ok7(h:0<=n/\n<len)(hx:Vl ops x i):nP ops len i ⟨7,x,0,0,n⟩:=by constructor<;>simp [hX,hY,evO,hx]<;>omega
theorem ok8(h:0<=k/\k<=3)(hx:Vl ops x i):nP ops len i ⟨8,x,0,k,0⟩:=by constructor<;>simp [hX,hY,evO,hx]<;>omega
end
theorem SE{ops:List IOp}{len n:Int}{i:Ins}(h:OKS ops len)(hi:dO i)(h0:i.op≠0)(hn:0<=n/\n<len):OKS (ops++gu n ops.length i) len/\
  (i.op=11\/i.op=12->Vl (ops++gu n ops.length i) ops.length ((ops++gu n ops.length i).length)/\Vl (ops++gu n ops.length i) (ops.length+1) ((ops++gu n ops.length i).length))/\
  (i.op=13->Vl (ops++gu n ops.length i) ops.length ((ops++gu n ops.length i).length)):=by
 obtain⟨⟨o0,o1⟩,⟨d0,d1⟩,⟨a0,a1⟩,k0,_,r1,r2,r3,r8,r9,r13,r14⟩:=hi;have v0:=λ(w:List IOp) (t:Nat) (h:0<t) (m:mkV (w.getD 0 default))=>show Vl (ops++w) (ops.length:Int) ((ops.length:Int)+t)from by have:=SB ops w 0 t h m;rwa [Int.natCast_zero,Int.add_zero]at this
 have v1:=λ(w:List IOp) (t:Nat) (h:1<t) (m:mkV (w.getD 1 default))=>SB ops w 1 t h m
 have v2:=λ(w:List IOp) (t:Nat) (h:2<t) (m:mkV (w.getD 2 default))=>SB ops w 2 t h m
 have v3:=λ(w:List IOp) (t:Nat) (h:3<t) (m:mkV (w.getD 3 default))=>SB ops w 3 t h m
 have m1:∀a b c d:Int,mkV ⟨1,a,b,c,d⟩:=λ_ _ _ _=>by unfold mkV;dsimp only;omega
 have m2:∀a b c d:Int,mkV ⟨2,a,b,c,d⟩:=λ_ _ _ _=>by unfold mkV;dsimp only;omega
 have m3:∀a b c d:Int,mkV ⟨3,a,b,c,d⟩:=λ_ _ _ _=>by unfold mkV;dsimp only;omega
 have m4:∀a b c d:Int,mkV ⟨4,a,b,c,d⟩:=λ_ _ _ _=>by unfold mkV;dsimp only;omega
 have m6:∀a b c d:Int,mkV ⟨6,a,b,c,d⟩:=λ_ _ _ _=>Or.inr rfl
 rcases(by omega:i.op=1\/i.op=2\/(3<=i.op/\i.op<=7)\/i.op=8\/i.op=9\/i.op=10\/(i.op=11\/i.op=12)\/i.op=13\/i.op=14\/i.op=15)with c | c | c | c | c | c | c | c | c | c
 .have e:gu n ops.length i=[⟨1,0,0,i.k,0⟩,⟨8,ops.length,0,i.d,0⟩]:=by unfold gu;rw [if_pos c]
  rw [e];refine⟨h.app λt ht=> ?_,λg=>by omega,λg=>by omega⟩;rcases t with _ | _ | t
  .exact ok1 (by have:=r1 c;omega)
  .exact ok8 ⟨d0,d1⟩ (v0 _ 1 (by decide) (m1 _ _ _ _))
  .simp only [List.length_cons,List.length_nil]at ht;omega
 .have e:gu n ops.length i=[⟨2,0,0,i.a,0⟩,⟨8,ops.length,0,i.d,0⟩]:=by unfold gu;rw [if_neg ah,if_pos c]
  rw [e];refine⟨h.app λt ht=> ?_,λg=>by omega,λg=>by omega⟩;rcases t with _ | _ | t
  .exact ok2 ⟨a0,a1⟩
  .exact ok8 ⟨d0,d1⟩ (v0 _ 1 (by decide) (m2 _ _ _ _))
  .simp only [List.length_cons,List.length_nil]at ht;omega
 .have e:gu n ops.length i=[⟨2,0,0,i.a,0⟩,⟨2,0,0,i.k,0⟩,⟨3,ops.length,ops.length+1,i.op-2,0⟩,⟨8,ops.length+2,0,i.d,0⟩]:=by
   unfold gu
   iterate 9 rw [if_neg ah]
  rw [e];refine⟨h.app λt ht=> ?_,λg=>by omega,λg=>by omega⟩;rcases t with _ | _ | _ | _ | t
  .exact ok2 ⟨a0,a1⟩
  .exact ok2 ⟨k0,r3 c⟩
  .exact ok3 ah (v0 _ 2 (by decide) (m2 _ _ _ _)) (v1 _ 2 (by decide) (m2 _ _ _ _))
  .exact ok8 ⟨d0,d1⟩ (v2 _ 3 (by decide) (m3 _ _ _ _))
  .simp only [List.length_cons,List.length_nil]at ht;omega
 .have e:gu n ops.length i=[⟨2,0,0,i.a,0⟩,⟨1,0,0,2^i.k.toNat,0⟩,⟨3,ops.length,ops.length+1,3,0⟩,⟨8,ops.length+2,0,i.d,0⟩]:=by
   unfold gu;rw [if_neg ah,if_neg ah,if_pos c]
  rw [e];refine⟨h.app λt ht=> ?_,λg=>by omega,λg=>by omega⟩;rcases t with _ | _ | _ | _ | t
  .exact ok2 ⟨a0,a1⟩
  .exact ok1 (Qk k0 (r8 c))
  .exact ok3 (by decide) (v0 _ 2 (by decide) (m2 _ _ _ _)) (v1 _ 2 (by decide) (m1 _ _ _ _))
  .exact ok8 ⟨d0,d1⟩ (v2 _ 3 (by decide) (m3 _ _ _ _))
  .simp only [List.length_cons,List.length_nil]at ht;omega
 .have e:gu n ops.length i=[⟨2,0,0,i.a,0⟩,⟨1,0,0,i.k,0⟩,⟨3,ops.length,ops.length+1,1,0⟩,⟨4,ops.length+2,0,0,n⟩,⟨8,ops.length+3,0,i.d,0⟩]:=by
   unfold gu;rw [if_neg ah,if_neg ah,if_neg ah,if_pos c]
  have r:=r9 ah;rw [e];refine⟨h.app λt ht=> ?_,λg=>by omega,λg=>by omega⟩;rcases t with _ | _ | _ | _ | _ | t
  .exact ok2 ⟨a0,a1⟩
  .exact ok1 ah
  .exact ok3 (by decide) (v0 _ 2 (by decide) (m2 _ _ _ _)) (v1 _ 2 (by decide) (m1 _ _ _ _))
  .exact ok4 hn (v2 _ 3 (by decide) (m3 _ _ _ _))
  .exact ok8 ⟨d0,d1⟩ (v3 _ 4 (by decide) (m4 _ _ _ _))
  .simp only [List.length_cons,List.length_nil]at ht;omega
 .have e:gu n ops.length i=[⟨2,0,0,i.a,0⟩,⟨1,0,0,i.k,0⟩,⟨3,ops.length,ops.length+1,1,0⟩,⟨2,0,0,i.d,0⟩,⟨5,ops.length+2,ops.length+3,0,n⟩]:=by
   unfold gu;rw [if_neg ah,if_neg ah,if_neg ah,if_neg ah,if_pos c]
  have r:=r9 ah;rw [e];refine⟨h.app λt ht=> ?_,λg=>by omega,λg=>by omega⟩;rcases t with _ | _ | _ | _ | _ | t
  .exact ok2 ⟨a0,a1⟩
  .exact ok1 ah
  .exact ok3 (by decide) (v0 _ 2 (by decide) (m2 _ _ _ _)) (v1 _ 2 (by decide) (m1 _ _ _ _))
  .exact ok2 ⟨d0,d1⟩
  .exact ok5 hn (v2 _ 4 (by decide) (m3 _ _ _ _)) (v3 _ 4 (by decide) (m2 _ _ _ _))
  .simp only [List.length_cons,List.length_nil]at ht;omega
 .have e:gu n ops.length i=[⟨2,0,0,i.d,0⟩,⟨2,0,0,i.a,0⟩]:=by
   unfold gu
   iterate 7 rw [if_neg ah]
   rw [if_pos c]
  have el:∀a b:IOp,(((ops++ [a,b]).length:Nat):Int)=(ops.length:Int)+((2:Nat):Int):=λa b=>by rw [List.length_append];rfl
  rw [e];refine⟨h.app λt ht=> ?_,λg=> ?_,λg=>by omega⟩
  .rcases t with _ | _ | t
   .exact ok2 ⟨d0,d1⟩
   .exact ok2 ⟨a0,a1⟩
   .simp only [List.length_cons,List.length_nil]at ht;omega
  .rw [el];exact⟨v0 _ 2 (by decide) (m2 _ _ _ _),v1 _ 2 (by decide) (m2 _ _ _ _)⟩
 .have e:gu n ops.length i=[⟨2,0,0,i.a,0⟩]:=by
   unfold gu
   iterate 8 rw [if_neg ah]
   rw [if_pos c]
  have el:∀a:IOp,(((ops++ [a]).length:Nat):Int)=(ops.length:Int)+((1:Nat):Int):=λa=>by rw [List.length_append];rfl
  rw [e];refine⟨h.app λt ht=> ?_,λg=>by omega,λg=> ?_⟩
  .rcases t with _ | t
   .exact ok2 ⟨a0,a1⟩
   .simp only [List.length_cons,List.length_nil]at ht;omega
  .rw [el];exact v0 _ 1 (by decide) (m2 _ _ _ _)
 .have e:gu n ops.length i=[⟨2,0,0,i.d,0⟩,⟨7,ops.length,0,0,n⟩]:=by
   unfold gu
   iterate 5 rw [if_neg ah]
   rw [if_pos c]
  rw [e];refine⟨h.app λt ht=> ?_,λg=>by omega,λg=>by omega⟩;rcases t with _ | _ | t
  .exact ok2 ⟨d0,d1⟩
  .exact ok7 hn (v0 _ 1 (by decide) (m2 _ _ _ _))
  .simp only [List.length_cons,List.length_nil]at ht;omega
 .have e:gu n ops.length i=[⟨6,0,0,0,n⟩,⟨8,ops.length,0,i.d,0⟩]:=by
   unfold gu
   iterate 6 rw [if_neg ah]
   rw [if_pos c]
  rw [e];refine⟨h.app λt ht=> ?_,λg=>by omega,λg=>by omega⟩;rcases t with _ | _ | t
  .exact ok6 hn
  .exact ok8 ⟨d0,d1⟩ (v0 _ 1 (by decide) (m6 _ _ _ _))
  .simp only [List.length_cons,List.length_nil]at ht;omega
end Go.TX.F
namespace Go.TX.F
open Go Go.AE Go.TX
def Mid(i:Ins):Prop:=dO i/\i.op≠0/\¬(11<=i.op/\i.op<=13)
def Z9{n:Int}{b:Blk}{i:Ins}(h:Mid i):fF n b i={b with ops:=b.ops++gu n b.ops.length i}:=by
 obtain⟨_,_,h3⟩:=h;unfold fF;rw [if_neg ah,if_neg ah]
def Lg:∀(r:List Ins) (n:Int) (b:Blk),(∀i∈r,Mid i)->OKS b.ops b.len->0<=n->n+r.length<=b.len->OKS (nQ n b r).ops b.len/\nQ n b r={b with ops:=(nQ n b r).ops}
 | [],n,b,_,h,_,_=>⟨h,rfl⟩
 | i::r,n,b,hr,h,h0,h1=>by
  have hi:=hr i (List.mem_cons_self ..);simp only [List.length_cons]at h1;have k:=SE (n:=n) h hi.1 hi.2.1 ⟨h0,ah⟩;have e:=Z9 (n:=n) (b:=b) hi;show OKS (nQ (n+1) (fF n b i) r).ops b.len/\nQ (n+1) (fF n b i) r={b with ops:=(nQ (n+1) (fF n b i) r).ops};have ih:=Lg r (n+1) (fF n b i) (λj hj=>hr j (List.mem_cons_of_mem _ hj)) (by rw [e];exact k.1) ah (by rw [e];dsimp only;omega);rw [e]at ih ⊢;exact ih
def aac(n:Int)(b:Blk)(i:Ins):(fF n b i).ops=b.ops++gu n b.ops.length i:=by
 unfold fF;split
 .rfl
 split<;>rfl
def Uy{pc:Int}{l:List Ins}(h:qC pc l):∃r i,l=r++ [i]/\(∀j∈r,Mid j)/\dO i/\i.op≠0:=by
 have ln:=h.ln;rcases List.eq_nil_or_concat l with e | ⟨r,i,e⟩
 .subst e;simp at ln
 rw [List.concat_eq_append]at e;subst e;refine⟨r,i,rfl,λj hj=> ?_,?_,?_⟩
 .obtain⟨t,ht,rfl⟩:=List.getElem_of_mem hj;have:=h.ok t (by rw [List.length_append];omega);rw [List.getD_eq_getElem?_getD,List.getElem?_append_left ht,List.getElem?_eq_getElem ht]at this;obtain⟨a,b,c⟩:=this;refine⟨a,b,λg=> ?_⟩;have:=c g;rw [List.length_append,List.length_singleton]at this;omega
 .have:=h.ok r.length (by rw [List.length_append,List.length_singleton];omega);rw [List.getD_eq_getElem?_getD,List.getElem?_append_right (Nat.le_refl _),Nat.sub_self]at this;exact this.1
 .have:=h.ok r.length (by rw [List.length_append,List.length_singleton];omega);rw [List.getD_eq_getElem?_getD,List.getElem?_append_right (Nat.le_refl _),Nat.sub_self]at this;exact this.2.1
theorem Ql{pc:Int}{l:List Ins}(h:qC pc l):iK (lower pc l):=by
 have ln:=h.ln;have hp:=h.pc;have e0:lower pc l=nQ 0 (uU pc l) l:=by unfold lower;rw [aU h,if_pos rfl]
 have sz:=zI l 0 (uU pc l);obtain⟨r,i,e,hr,hi,h0⟩:=Uy h;have rl:l.length=r.length+1:=by rw [e,List.length_append,List.length_singleton]
 have k0:OKS (uU pc l).ops (uU pc l).len:=λj j0 j1=>absurd j1 (by show¬j< ((0:Nat):Int);omega)
 obtain⟨a1,a2⟩:=Lg r 0 (uU pc l) hr k0 ah (by show 0+(r.length:Int)<=(l.length:Int);omega);have e1:lower pc l=fF r.length (nQ 0 (uU pc l) r) i:=by
  rw [e0]
  conv=>lhs;rw [e]
  rw [wG,<-e];simp
 obtain⟨b1,b2,b3⟩:=SE (n:=r.length) a1 hi h0 ⟨ah,by show(r.length:Int)< (l.length:Int);omega⟩;have eo:=aac r.length (nQ 0 (uU pc l) r) i;rw [<-e0]at sz;generalize hB:(nQ 0 (uU pc l) r).ops=ops at*;have z0:(uU pc l).ops.length=0:=rfl;have F:(lower pc l).pc=pc/\(lower pc l).len=l.length:=by
  rw [e1,a2];unfold fF;split
  .exact⟨rfl,rfl⟩
  split<;>exact⟨rfl,rfl⟩
 have O:(lower pc l).ops=ops++gu r.length ops.length i:=by rw [e1];exact eo
 refine⟨by rw [F.2];omega,by rw [F.1,F.2];omega,ah,?_,?_⟩
 .rw [O,F.2];exact λj j0 j1=>b1 j j0 j1
 .by_cases c:i.op=11\/i.op=12
  .obtain⟨v1,v2⟩:=b2 c;have E:lower pc l=⟨pc,l.length,ops++gu r.length ops.length i,i.op-8,ops.length,ops.length+1,i.k⟩:=by rw [e1,a2];unfold fF;rw [if_pos c];rfl
   have kk:=hi.2.2.2.2.2.2.2.2.2.1;rw [E];refine⟨by dsimp only;omega,λ_=>v1,λg=>by dsimp only at g;omega,λ_=>v2,λg=>by dsimp only at g;omega,λ_=> ?_,λg=>by dsimp only at g;omega⟩;have:=hi.2.2.2.1;have:=kk ah;dsimp only;omega
  by_cases d:i.op=13
  .have v1:=b3 d;have E:lower pc l=⟨pc,l.length,ops++gu r.length ops.length i,2,ops.length,0,0⟩:=by rw [e1,a2];unfold fF;rw [if_neg c,if_pos d];rfl
   rw [E];exact⟨by dsimp only;omega,λ_=>v1,λg=>by dsimp only at g;omega,λg=>by dsimp only at g;omega,λ_=>rfl,λg=>absurd rfl g,λ_=>rfl⟩
  .have E:lower pc l=⟨pc,l.length,ops++gu r.length ops.length i,1,0,0,pc+l.length⟩:=by rw [e1,a2];unfold fF;rw [if_neg c,if_neg d];rfl
   rw [E];exact⟨by dsimp only;omega,λg=>absurd rfl g,λ_=>rfl,λg=>by dsimp only at g;omega,λ_=>rfl,λ_=>by dsimp only;omega,λg=>by dsimp only at g;omega⟩
def ajn{m:bq}(h:MOK m){i:Ins}(hi:dO i):MOK (eff m i):=by
 obtain⟨⟨o0,o1⟩,⟨d0,d1⟩,⟨a0,a1⟩,k0,r0,r1,r2,r3,r8,r9,r13,r14⟩:=hi;have rs:∀(j:Nat) (v:Int),Wo v->MOK {m with regs:=m.regs.set j v}:=λj v w=> {h with r4:=by rw [List.length_set];exact h.r4,rw:=h.rw.set w j}
 unfold eff;split
 .exact rs _ _ ⟨k0,by have:=r1 ‹_›;omega⟩
 split
 .exact rs _ _ (h.rw.at _)
 split
 .exact rs _ _ (by unfold Wo;omega)
 split
 .exact rs _ _ (h.mw.at _)
 split
 .exact {h with m64:=by rw [List.length_set];exact h.m64,mw:=h.mw.set (h.rw.at _) _}
 split
 .exact {h with ow:=h.ow.snoc (h.rw.at _)}
 split
 .exact {rs i.d.toNat (m.ins.getD 0 default) h.iw.hd with iw:=h.iw.drop 1}
 split
 .split
  .exact {h with ha:=⟨show(0:Int)<=1 by decide,show(1:Int)<=4 by decide⟩}
  split
  .exact {h with}
  .exact {h with}
 split
 .exact h
 .exact rs _ _ (R7 _ _ _)
abbrev upd(m : bq)(u v : Int) : bq := { m with count := u, pc := v }
abbrev mD(y : Blk × Int × List Int × Int × Bool × Bool × Int × List Int × Int × List Int × List Int × Unit) : bq := ⟨y.2.2.2.2.2.2.2.2.2.1, y.2.1, y.2.2.1, y.2.2.2.1, y.2.2.2.2.1, y.2.2.2.2.2.1, y.2.2.2.2.2.2.1, y.2.2.2.2.2.2.2.1, y.2.2.2.2.2.2.2.2.2.2.1, y.2.2.2.2.2.2.2.2.1⟩
structure atf(pp:Int×List Ins×Unit->Bool)(ff:Int×List Ins×Unit->Int×Int×Int×Int×Int×Int×List IOp×Unit):Prop where
 hp:∀pc l,l.length<1000000000->pp (pc,l,())=true
 hf:∀pc l,l.length<1000000000->ff (pc,l,())=bk7 (lower pc l)
structure aur(pp:Blk×bq×Unit->Bool)(ff:Blk×bq×Unit->Int×Int×Bool×Bool×Int×Int×Bool×List Int×List Int×List Int×List Int×Unit):Prop where
 hp:∀b m,b.ops.length<1000000000->MSh m->m.outs.length<900000000->pp (b,m,())=true
 hf:∀b m,b.ops.length<1000000000->MSh m->m.outs.length<900000000->ff (b,m,())=mR (apl b m)
structure atg(pp:bq×bq×Unit->Bool)(ff:bq×bq×Unit->Bool×Unit):Prop where
 hp:∀a b,MSh a->pp (a,b,())=true
 hf:∀a b,MSh a->ff (a,b,())=(bp (a=b),())
structure aus(pp:List Int×Unit->Bool)(ff:List Int×Unit->Int×List Ins×Unit):Prop where
 hp:∀c,By c->c.length<1000000000->pp (c,())=true
 hf:∀c,By c->c.length<1000000000->(ff (c,())).2.1.length<1000
structure aut(pp:List Int×Unit->Bool)(ff:List Int×Unit->Blk×Int×List Int×Int×Bool×Bool×Int×List Int×Int×List Int×List Int×Unit):Prop where
 hp:∀c,By c->c.length<1000000000->pp (c,())=true
 hf:∀c,By c->c.length<1000000000->MSh (mD (ff (c,())))/\(mD (ff (c,()))).outs.length<800000000/\(ff (c,())).1.ops.length<1000000
def ajo{p1 f1}(U1:Y9 p1 f1)(l:List Int)(h:l.length<1000000000):PI.F (p1,f1,()) (l,()) (λy=>y=(bp (Wos l),())):=by
 dsimp only [PI,gm];simp (disch:=omega) only [RR];refine ak (λ(y:List Int×Int×Unit)=>y.1=l/\0<=y.2.1/\y.2.1<=l.length/\Wos (l.take y.2.1.toNat)) (λy=>(l.length-y.2.1).toNat) ⟨rfl,by simp,by simp,by intro n hn;cases hn⟩ ?_;rintro⟨(l:List Int),(i:Int),⟨⟩⟩ hI;dsimp only at hI ⊢;obtain⟨rfl,h1,h2,h3⟩:=hI;simp (disch:=omega) only [RR,U1.hp,U1.hf,bM,jq];refine⟨λg=>⟨h1,g,λe=> ?_,λe=>⟨⟨ah,ah,?_⟩,ah⟩⟩,λg=> ?_⟩
 .rw [aR];intro v;exact e (v _ (cO h1 g))
 .rw [show(i+1).toNat=i.toNat+1 by omega];intro n hn;rw [List.take_succ_eq_append_getElem ah,List.mem_append,List.mem_singleton]at hn;rcases hn with hn | rfl
  .exact h3 n hn
  .rw [getD_lt ah]at e;exact e
 .rw [List.take_of_length_le ah]at h3;rw [aU h3]
def ajp{p1 f1 p2 f2 p3 f3}(U1:Y9 p1 f1)(U2:Y1 p2 f2)(U3:apm p3 f3)(m:bq)(h:MSh m):PK.F (p1,f1,p2,f2,p3,f3,()) (m,()) (λy=>y=(bp (MOK m),())):=by
 obtain⟨a1,a2,a3,a4⟩:=h;dsimp only [PK,gm];simp (disch:=omega) only [RR,MRB,U1.hp,U1.hf,U2.hp,U2.hf,U3.hp _ a1,U3.hf _ a1,U3.hp _ a2,U3.hf _ a2,U3.hp _ a3,U3.hf _ a3,U3.hp _ a4,U3.hf _ a4,Bw,pJ];simp only [<-gY];refine Prod.ext (iU ⟨λh=> ?_,λh=> ?_⟩) rfl
 .obtain⟨⟨⟨⟨⟨⟨⟨⟨⟨h1,h2⟩,h3⟩,h4⟩,h5⟩,h6⟩,h7⟩,h8⟩,h9⟩,h10⟩:=h;exact⟨ah,h2,ah,h5,h3,h6,h8,h9,h7,h10⟩
 .exact⟨⟨⟨⟨⟨⟨⟨⟨⟨by have:=h.r4;omega,h.rw⟩,h.pc⟩,by have:=h.m64;omega⟩,h.mw⟩,h.sv⟩,h.ha⟩,h.iw⟩,h.ow⟩,h.ct⟩
structure auu(pp:Int×Int×Bool×Bool×Int×List Int×Int×Int×List Int×List Int×List Int×Unit->Bool)(ff:Int×Int×Bool×Bool×Int×List Int×Int×Int×List Int×List Int×List Int×Unit->Int×Int×Bool×Bool×Int×List Int×Int×List Int×List Int×List Int×Unit):Prop where
 hp:∀(m:bq) (n:Int),(0<=m.count/\m.count<=1000000)->pp (m.pc,m.save,m.kg,m.waits,m.halt,m.ins,m.count,n,m.regs,m.mem,m.outs,())=true
 hf:∀(m:bq) (n:Int),(0<=m.count/\m.count<=1000000)->ff (m.pc,m.save,m.kg,m.waits,m.halt,m.ins,m.count,n,m.regs,m.mem,m.outs,())=mB {m with pc:=n%65536,count:=m.count+1}
def IR:(∀i:Ins,bV .ins 0 i=i.op)/\(∀i:Ins,bV .ins 1 i=i.d)/\(∀i:Ins,bV .ins 2 i=i.a)/\(∀i:Ins,bV .ins 3 i=i.k):=⟨λ_=>rfl,λ_=>rfl,λ_=>rfl,λ_=>rfl⟩
def n9{m:bq}{i:Ins}(h:¬(i.op=9\/i.op=10)):¬((i.op=9\/i.op=10)/\64<=adr m i):=λq=>h q.1
structure auv(pp:Int×Int×Bool×Bool×Int×List Int×Int×Int×List Int×List Int×List Int×Unit->Bool)(ff:Int×Int×Bool×Bool×Int×List Int×Int×Int×List Int×List Int×List Int×Unit->Int×Int×Bool×Bool×Int×List Int×Int×List Int×List Int×List Int×Unit):Prop where
 hp:∀(m:bq) (h:Int),pp (m.pc,m.save,m.kg,m.waits,m.halt,m.ins,m.count,h,m.regs,m.mem,m.outs,())=true
 hf:∀(m:bq) (h:Int),ff (m.pc,m.save,m.kg,m.waits,m.halt,m.ins,m.count,h,m.regs,m.mem,m.outs,())=mB {m with halt:=h}
structure auw(pp:Int×Int×Bool×Bool×Int×List Int×Int×Int×Int×List Int×List Int×List Int×Unit->Bool)(ff:Int×Int×Bool×Bool×Int×List Int×Int×Int×Int×List Int×List Int×List Int×Unit->Int×Int×Bool×Bool×Int×List Int×Int×List Int×List Int×List Int×Unit):Prop where
 hp:∀(m:bq) (d v:Int),MOK m->0<=d->d<=3->pp (m.pc,m.save,m.kg,m.waits,m.halt,m.ins,m.count,d,v,m.regs,m.mem,m.outs,())=true
 hf:∀(m:bq) (d v:Int),MOK m->0<=d->d<=3->ff (m.pc,m.save,m.kg,m.waits,m.halt,m.ins,m.count,d,v,m.regs,m.mem,m.outs,())=mB {m with regs:=m.regs.set d.toNat v,pc:=(m.pc+1)%65536,count:=m.count+1}
def fm(i:Ins):Bool:=if i.op=0 then decide (i.d=0)&&decide (i.a=0)&&decide (i.k<=3)else if i.op=1 then decide (i.a=0)else if i.op=2 then decide (i.k=0)else if 3<=i.op/\i.op<=7 then decide (i.k<4)else if i.op=8 then decide (i.k<16)else if i.op=13 then decide (i.d=0)&&decide (i.k=0)else if i.op=14\/i.op=15 then decide (i.a=0)&&decide (i.k=0)else true
def ath(b:Bool):bp (b=true)=b:=by
 cases b with
 | true=>exact aU rfl
 | false=>exact aR (by decide)
def ajq(i:Ins):(inB i.op 0 15&&inB i.d 0 3&&inB i.a 0 3&&inB i.k 0 255&&fm i)=bp (dO i):=by
 have h:((0<=i.op/\i.op<=15)/\(0<=i.d/\i.d<=3)/\(0<=i.a/\i.a<=3)/\(0<=i.k/\i.k<=255)/\fm i=true)↔dO i:=by
  unfold dO fm;split
  .simp only [Bool.and_eq_true,decide_eq_true_eq];omega
  split
  .simp only [decide_eq_true_eq];omega
  split
  .simp only [decide_eq_true_eq];omega
  split
  .simp only [decide_eq_true_eq];omega
  split
  .simp only [decide_eq_true_eq];omega
  split
  .simp only [Bool.and_eq_true,decide_eq_true_eq];omega
  split
  .simp only [Bool.and_eq_true,decide_eq_true_eq];omega
  .simp only [eq_self,and_true];omega
 rw [<-iU h];simp only [Bw,gY,Bool.and_assoc,ath]
def uV(i:Ins):Nc.F () (i,()) (λy=>y=(fm i,())):=by
 dsimp only [Nc,gm];rcases(by omega:(i.op=0\/i.op=1\/i.op=2\/i.op=3\/i.op=4\/i.op=5\/i.op=6\/i.op=7\/i.op=8\/i.op=13\/i.op=14\/i.op=15)\/(¬(0<=i.op/\i.op<=8)/\¬(13<=i.op/\i.op<=15)))with(e | e | e | e | e | e | e | e | e | e | e | e) | ⟨n1,n2⟩
 case inr=>
  have n:∀z:Int,(0<=z/\z<=8)\/(13<=z/\z<=15)->¬i.op=z:=λz g q=>by omega
  have n3:¬(3<=i.op/\i.op<=7):=λq=>by omega
  simp (disch:=omega) only [RR,IR,n];unfold fm;simp (disch:=omega) only [n,n3,if_false,or_self]
 all_goals simp (disch:=omega) only [RR,IR,e,Int.reduceEq]
 all_goals unfold fm
 all_goals simp [e]
def FR{p1 f1}(U1:Y1 p1 f1){p2:Ins×Unit->Bool}{f2:Ins×Unit->Bool×Unit}(hp2:∀i,p2 (i,())=true)(hf2:∀i,f2 (i,())=(fm i,()))(i:Ins):Ng.F (p1,f1,p2,f2,()) (i,()) (λy=>y=(bp (dO i),())):=by
 dsimp only [Ng,gm];simp (disch:=omega) only [RR,IR,U1.hp,U1.hf,hp2,hf2];rw [ajq]
noncomputable def tkI (w:Int):Int×Int×Int×Int×Bool×Unit:=if bp (Wo w/\dO (jm w))=true then((jm w).op,(jm w).d,(jm w).a,(jm w).k,true,())else(0,0,0,0,false,())
theorem ajr{p1 f1 p2 f2}(U1:Z5 p1 f1)(U2:Y9 p2 f2)(w:Int):Nh.F (p1,f1,p2,f2,()) (w,()) (λy=>y=tkI w):=by
 dsimp only [Nh,gm];simp (disch:=omega) only [RR,U1.hp,U1.hf,U2.hp,U2.hf,Bw];by_cases h:Wo w
 .obtain⟨w0,w1⟩:=id h;have e:∀x y z u:Int,Co.mk .ins (x,y,z,u,())=⟨x,y,z,u⟩:=λ_ _ _ _=>rfl
  have q:∀n:Int,0<n->0<=w/n/\w/n<=65535:=λn hn=>⟨Int.ediv_nonneg w0 ah,Int.le_trans (Int.ediv_le_self _ w0) w1⟩
  have q1:=q 4096 (by decide);have q2:=q 1024 (by decide);have q3:=q 256 (by decide);rw [aU (show 0<=w/\w<=65535 from h)];simp (disch:=omega) only [RR,e,Int.tdiv_eq_ediv_of_nonneg,Int.tmod_eq_emod_of_nonneg];have ed:(⟨w/4096,w/1024%4,w/256%4,w%256⟩:Ins)=jm w:=rfl;unfold tkI;by_cases k:dO (jm w)
  .rw [ed,aU k,aU ⟨h,k⟩];simp;rfl
  .rw [ed,aR k,aR (λg=>k g.2)];simp
 .rw [aR (show¬(0<=w/\w<=65535)from h)];unfold tkI;rw [aR (λg=>h g.1)];simp
noncomputable def apC (i:Ins):Int:=if bp (dO i)=true then ajk i else 0
structure auy(pp:Ins×Unit->Bool)(ff:Ins×Unit->Int×Unit):Prop where
 hp:∀i,pp (i,())=true
 hf:∀i,ff (i,())=(apC i,())
noncomputable def Jk (w i:List Int):bq:=if bp (w.length<=64/\Wos w/\Wos i)=true then⟨[0,0,0,0],0,w++List.replicate (64-w.length) 0,0,false,false,0,i,[],0⟩else ad6
def ajs{m:bq}(h:MOK m){i:Ins}(hi:dO i):Wo (nxt m i):=by
 obtain⟨_,_,_,k0,_,_,_,_,_,r9,_⟩:=hi;unfold nxt;split
 .exact h.sv
 split
 .rename_i c;exact⟨k0,by have:=r9 ah;omega⟩
 split
 .exact h.rw.at _
 .unfold Wo;omega
def oF{m:bq}(h:MOK m){i:Ins}(hi:dO i)(c:m.count<1000000):MOK (exec m i):=by
 unfold exec;split
 .exact {h with ha:=⟨show(0:Int)<=3 by decide,show(3:Int)<=4 by decide⟩}
 .have:=h.ct;exact {ajn h hi with pc:=ajs h hi,ct:=⟨show 0<=m.count+1 by omega,show m.count+1<=1000000 by omega⟩}
noncomputable def stS (m:bq) (b:Bool):bq:=if bp (MOK m)=true then(if m.halt≠0\/m.count=1000000 then m else stepM m b)else ad6
structure apD(pp:Int×Unit->Bool)(ff:Int×Unit->Int×Int×Int×Int×Bool×Unit):Prop where
 hp:∀w,pp (w,())=true
 hf:∀w,ff (w,())=tkI w
noncomputable def ajt (q:List Int):Nat->bq->bq
 | 0,m=>m
 | k+1,m=>if m.halt=0/\m.count<1000000 then ajt q k (stepM m (bp (m.count∈q)))else m
noncomputable def HZ (q:List Int) (n:Int) (m:bq):bq:=if bp (MOK m/\n<=400)=true then ajt q n.toNat m else ad6
structure auz(pp:bq×Bool×Unit->Bool)(ff:bq×Bool×Unit->Int×Int×Bool×Bool×Int×List Int×Int×List Int×List Int×List Int×Unit):Prop where
 hp:∀m b,MSh m->m.outs.length<900000000->pp (m,b,())=true
 hf:∀m b,MSh m->m.outs.length<900000000->ff (m,b,())=mB (stS m b)
structure auA(pp:List Int×Int×Unit->Bool)(ff:List Int×Int×Unit->Bool×Unit):Prop where
 hp:∀l n,l.length<1000000000->pp (l,n,())=true
 hf:∀l n,l.length<1000000000->ff (l,n,())=(bp (n∈l),())
structure ImD(b:List Int)(p:Int)(y:List Int×Int×List Int×Unit):Prop where
 b:y.1=b
 lo:p<=y.2.1
 hi:y.2.1<=p+8000
 len:y.2.2.1.length<=64
 w:Wos y.2.2.1
structure auB(pp:List Ins×Unit->Bool)(ff:List Ins×Unit->List Int×Unit):Prop where
 hp:∀l,l.length<1000000->pp (l,())=true
 hf:∀l,l.length<1000000->ff (l,())=(l.map apC,())
abbrev YMc:=Int×Int×Bool×Bool×Int×List Int×Int×List Int×Int×List Int×List Int×List Int×Unit
abbrev mE(y : YMc) : bq := ⟨y.2.2.2.2.2.2.2.2.2.1, y.1, y.2.2.2.2.2.2.2.2.2.2.1, y.2.1, y.2.2.1, y.2.2.2.1, y.2.2.2.2.1, y.2.2.2.2.2.1, y.2.2.2.2.2.2.2.2.2.2.2.1, y.2.2.2.2.2.2.1⟩
structure McD(b:List Int)(p:Int)(y:YMc):Prop where
 b:y.2.2.2.2.2.2.2.1=b
 lo:p<=y.2.2.2.2.2.2.2.2.1
 hi:y.2.2.2.2.2.2.2.2.1<=p+9500
 ok:MOK (mE y)
 i:(mE y).ins.length<=10
 o:(mE y).outs.length<=100
structure auC(pp:List Int×List Int×Unit->Bool)(ff:List Int×List Int×Unit->Int×Int×Bool×Bool×Int×Int×List Int×List Int×List Int×Unit):Prop where
 hp:∀w i,w.length<1000000->i.length<1000000->pp (w,i,())=true
 hf:∀w i,w.length<1000000->i.length<1000000->ff (w,i,())=((Jk w i).pc,(Jk w i).save,(Jk w i).kg,(Jk w i).waits,(Jk w i).halt,(Jk w i).count,(Jk w i).regs,(Jk w i).mem,(Jk w i).ins,())
structure auD(pp:List Int×Int×Unit->Bool)(ff:List Int×Int×Unit->List Int×Int×List Int×Unit):Prop where
 hp:∀b p,Bt b->0<=p->p<600000000->pp (b,p,())=true
 hf:∀b p,Bt b->0<=p->p<600000000->ImD b p (ff (b,p,()))
structure auE(pp:List Int×Int×Unit->Bool)(ff:List Int×Int×Unit->List Int×Int×List Int×Unit):Prop where
 hp:∀b p,Bt b->0<=p->p<900000000->pp (b,p,())=true
 hf:∀b p,Bt b->0<=p->p<900000000->(ff (b,p,())).1=b/\p<=(ff (b,p,())).2.1/\(ff (b,p,())).2.1<=p+10/\(ff (b,p,())).2.2.1.length<=5
structure auF(pp:Int×List Int×Int×Unit->Bool)(ff:Int×List Int×Int×Unit->List Int×Int×List Int×Unit):Prop where
 hp:∀n b p,Bt b->(0<=n/\n<=100)->0<=p->p<800000000->pp (n,b,p,())=true
 hf:∀n b p,Bt b->(0<=n/\n<=100)->0<=p->p<800000000->(ff (n,b,p,())).1=b/\p<=(ff (n,b,p,())).2.1/\(ff (n,b,p,())).2.1<=p+300/\(ff (n,b,p,())).2.2.1.length=n/\wOK (ff (n,b,p,())).2.2.1
abbrev YMo:=Int×List Int×Int×Bool×Bool×Int×List Int×Int×List Int×Int×List Int×List Int×Unit
structure MoD(b:List Int)(p:Int)(y:YMo):Prop where
 b:y.2.2.2.2.2.2.2.2.1=b
 lo:p<=y.2.2.2.2.2.2.2.2.2.1
 hi:y.2.2.2.2.2.2.2.2.2.1<=p+9600
 r:y.2.2.2.2.2.2.2.2.2.2.1.length<=10
 m:y.2.1.length<=64
 i:y.2.2.2.2.2.2.1.length<=10
 o:y.2.2.2.2.2.2.2.2.2.2.2.1.length<=110
structure auG(pp:List Int×Int×Unit->Bool)(ff:List Int×Int×Unit->YMc):Prop where
 hp:∀b p,Bt b->0<=p->p<500000000->pp (b,p,())=true
 hf:∀b p,Bt b->0<=p->p<500000000->McD b p (ff (b,p,()))
structure MaD(b:List Int)(p:Int)(y:YMc):Prop where
 b:y.2.2.2.2.2.2.2.1=b
 lo:p<=y.2.2.2.2.2.2.2.2.1
 hi:y.2.2.2.2.2.2.2.2.1<=p+9700
 r:(mE y).regs.length=4
 m:(mE y).mem.length=64
 i:(mE y).ins.length<=10
 o:(mE y).outs.length<=100
def wR(a1 a2 a3 a4 a5 a6:Int)(o:IOp)(ops:List IOp)(h:ops.length<1000000):OA.F () (a1,a2,a3,a4,a5,a6,o,ops,()) (λy=>y=(a1,a2,a3,a4,a5,a6,(ops.length:Int),ops++ [o],())):=by
 dsimp only [OA,gm];simp (disch:=omega) only [RR,List.length_append,List.length_cons,List.length_nil];rw [show((ops.length+(0+1):Nat):Int)-1=ops.length by omega];exact⟨ah,rfl⟩
structure aad(pp:Int×Int×Int×Int×Int×Int×IOp×List IOp×Unit->Bool)(ff:Int×Int×Int×Int×Int×Int×IOp×List IOp×Unit->Int×Int×Int×Int×Int×Int×Int×List IOp×Unit):Prop where
 hp:∀(a1 a2 a3 a4 a5 a6:Int) (o:IOp) (ops:List IOp),ops.length<1000000->pp (a1,a2,a3,a4,a5,a6,o,ops,())=true
 hf:∀(a1 a2 a3 a4 a5 a6:Int) (o:IOp) (ops:List IOp),ops.length<1000000->ff (a1,a2,a3,a4,a5,a6,o,ops,())=(a1,a2,a3,a4,a5,a6,(ops.length:Int),ops++ [o],())
def wS{p1 f1}(U1:aad p1 f1)(a1 a2 a3 a4 a5 a6 k:Int)(ops:List IOp)(h:ops.length<1000000):OC.F (p1,f1,()) (a1,a2,a3,a4,a5,a6,k,ops,()) (λy=>y=(a1,a2,a3,a4,a5,a6,(ops.length:Int),ops++ [⟨2,0,0,k,0⟩],())):=by
 dsimp only [OC,gm];simp (disch:=omega) only [RR,U1.hp,U1.hf,h];rfl
def wT{p1 f1}(U1:aad p1 f1)(a1 a2 a3 a4 a5 a6 k x:Int)(ops:List IOp)(h:ops.length<1000000):OB.F (p1,f1,()) (a1,a2,a3,a4,a5,a6,k,x,ops,()) (λy=>y=(a1,a2,a3,a4,a5,a6,ops++ [⟨8,x,0,k,0⟩],())):=by
 dsimp only [OB,gm];simp (disch:=omega) only [RR,U1.hp,U1.hf,h];rfl
def n1a(l:List IOp)(o:IOp):((l++ [o]).length:Int)=l.length+1:=by rw [List.length_append];rfl
structure ad9(pp:Int×Int×Int×Int×Int×Int×Int×List IOp×Unit->Bool)(ff:Int×Int×Int×Int×Int×Int×Int×List IOp×Unit->Int×Int×Int×Int×Int×Int×Int×List IOp×Unit):Prop where
 hp:∀(a1 a2 a3 a4 a5 a6 k:Int) (ops:List IOp),ops.length<1000000->pp (a1,a2,a3,a4,a5,a6,k,ops,())=true
 hf:∀(a1 a2 a3 a4 a5 a6 k:Int) (ops:List IOp),ops.length<1000000->ff (a1,a2,a3,a4,a5,a6,k,ops,())=(a1,a2,a3,a4,a5,a6,(ops.length:Int),ops++ [⟨2,0,0,k,0⟩],())
def Bz{p1 f1 p2 f2}(U1:ad9 p1 f1)(U2:aad p2 f2)(a1 a2 a3 a4 a5 a6 k a:Int)(o:IOp)(ops:List IOp)(h:ops.length<990000):OD.F (p1,f1,p2,f2,()) (a1,a2,a3,a4,a5,a6,k,a,o,ops,()) (λy=>y=(a1,a2,a3,a4,a5,a6,(ops.length:Int)+2,ops++ [⟨2,0,0,a,0⟩,o,⟨3,ops.length,ops.length+1,k,0⟩],())):=by
 have m1:∀(l:List IOp) (o:IOp),l.length<990000->(l++ [o]).length<1000000:=λl o h=>by rw [List.length_append];simp only [List.length_cons,List.length_nil];omega
 have m2:∀(l:List IOp) (o o2:IOp),l.length<990000->((l++ [o])++ [o2]).length<1000000:=λl o o2 h=>by simp only [List.length_append,List.length_cons,List.length_nil];omega
 dsimp only [OD,gm];simp (disch:=first | omega | (apply m1;omega) | (apply m2;omega)) only [RR,U1.hp,U1.hf,U2.hp,U2.hf,n1a];simp;rfl
structure apE(pp:Int×Int×Int×Int×Int×Int×Int×Int×IOp×List IOp×Unit->Bool)(ff:Int×Int×Int×Int×Int×Int×Int×Int×IOp×List IOp×Unit->Int×Int×Int×Int×Int×Int×Int×List IOp×Unit):Prop where
 hp:∀(a1 a2 a3 a4 a5 a6 k a:Int) (o:IOp) (ops:List IOp),ops.length<990000->pp (a1,a2,a3,a4,a5,a6,k,a,o,ops,())=true
 hf:∀(a1 a2 a3 a4 a5 a6 k a:Int) (o:IOp) (ops:List IOp),ops.length<990000->ff (a1,a2,a3,a4,a5,a6,k,a,o,ops,())=(a1,a2,a3,a4,a5,a6,(ops.length:Int)+2,ops++ [⟨2,0,0,a,0⟩,o,⟨3,ops.length,ops.length+1,k,0⟩],())
structure apF(pp:Int×Int×Int×Int×Int×Int×Int×Int×List IOp×Unit->Bool)(ff:Int×Int×Int×Int×Int×Int×Int×Int×List IOp×Unit->Int×Int×Int×Int×Int×Int×List IOp×Unit):Prop where
 hp:∀(a1 a2 a3 a4 a5 a6 k x:Int) (ops:List IOp),ops.length<1000000->pp (a1,a2,a3,a4,a5,a6,k,x,ops,())=true
 hf:∀(a1 a2 a3 a4 a5 a6 k x:Int) (ops:List IOp),ops.length<1000000->ff (a1,a2,a3,a4,a5,a6,k,x,ops,())=(a1,a2,a3,a4,a5,a6,ops++ [⟨8,x,0,k,0⟩],())
def CW{p1 f1 p2 f2 p3 f3 p4 f4}(U1:ad9 p1 f1)(U2:aad p2 f2)(U3:apE p3 f3)(U4:apF p4 f4)(a1 a2 a3 a4 a5 a6:Int)(i:Ins)(n:Int)(ops:List IOp)(hi:i.op=9\/i.op=10)(h:ops.length<950000):OG.F (p1,f1,p2,f2,p3,f3,p4,f4,()) (a1,a2,a3,a4,a5,a6,i,n,ops,()) (λy=>y=(a1,a2,a3,a4,a5,a6,ops++gu n ops.length i,())):=by
 have m3:∀(l:List IOp) (o1 o2 o3:IOp),l.length<950000->(l++ [o1,o2,o3]).length<1000000:=λl o1 o2 o3 h=>by simp only [List.length_append,List.length_cons,List.length_nil];omega
 have m4:∀(l:List IOp) (o1 o2 o3 o4:IOp),l.length<950000->((l++ [o1,o2,o3])++ [o4]).length<1000000:=λl o1 o2 o3 o4 h=>by simp only [List.length_append,List.length_cons,List.length_nil];omega
 have n3:∀(l:List IOp) (o1 o2 o3:IOp),((l++ [o1,o2,o3]).length:Int)=l.length+3:=λl o1 o2 o3=>by rw [List.length_append];rfl
 dsimp only [OG,gm];simp (disch:=first | omega | (apply m3;omega) | (apply m4;omega)) only [RR,IR,U1.hp,U1.hf,U2.hp,U2.hf,U3.hp,U3.hf,U4.hp,U4.hf,n3];unfold gu;refine⟨λe=> ?_,λe=> ?_⟩
 .rw [if_neg ah,if_neg ah,if_neg ah,if_pos e];simp;rfl
 .rw [if_neg ah,if_neg ah,if_neg ah,if_neg ah,if_pos ah];simp;rfl
def sD(k:Int)(k0:0<=k)(k1:k<=15):OE.F () (k,()) (λy=>y=(2^k.toNat,())):=by
 dsimp only [OE,gm];simp (disch:=omega) only [RR];refine ak (λ(y:Int×Int×Int×Unit)=>y.1=k/\0<=y.2.2.1/\y.2.2.1<=k/\y.2.1=2^y.2.2.1.toNat) (λy=>(k-y.2.2.1).toNat) ⟨rfl,by simp,k0,rfl⟩ ?_;rintro⟨(z:Int),(a:Int),(i:Int),⟨⟩⟩ hI;dsimp only at hI ⊢;obtain⟨rfl,j1,j2,rfl⟩:=hI;have pw:=Qk j1 ah;unfold Wo at pw;simp (disch:=omega) only [RR];refine⟨λg=>⟨⟨ah,ah,?_⟩,ah⟩,λg=>by rw [show i=z by omega]⟩;rw [show(i+1).toNat=i.toNat+1 by omega,Int.pow_succ];omega
def Fq{p1 f1}(U1:ad9 p1 f1)(B:Blk)(i:Ins)(hi:11<=i.op/\i.op<=13)(h:B.ops.length<950000):OH.F (p1,f1,()) (B.pc,B.len,B.fin,B.x,B.y,B.k,i,B.ops,()) (λy=>y=bk7 (fF 0 B i)):=by
 have m1:∀(l:List IOp) (o:IOp),l.length<950000->(l++ [o]).length<1000000:=λl o h=>by rw [List.length_append];simp only [List.length_cons,List.length_nil];omega
 dsimp only [OH,gm];unfold fF gu;rcases(by omega:i.op=11\/i.op=12\/i.op=13)with e | e | e
 all_goals
  simp (disch:=first | omega | (apply m1;omega)) only [RR,IR,e,U1.hp,U1.hf,n1a,Int.reduceEq,or_self,true_or,or_true]
  try simp
def FT{p1 f1 p3 f3 p5 f5 p6 f6}(U1:ad9 p1 f1){p2:Int×Int×Int×Int×Int×Int×Ins×List IOp×Unit->Bool}{f2:Int×Int×Int×Int×Int×Int×Ins×List IOp×Unit->Int×Int×Int×Int×Int×Int×List IOp×Unit}(hp2:∀(B:Blk) (i:Ins),(11<=i.op/\i.op<=13)->B.ops.length<950000->p2 (B.pc,B.len,B.fin,B.x,B.y,B.k,i,B.ops,())=true)(hf2:∀(B:Blk) (i:Ins),(11<=i.op/\i.op<=13)->B.ops.length<950000->f2 (B.pc,B.len,B.fin,B.x,B.y,B.k,i,B.ops,())=bk7 (fF 0 B i))(U3:aad p3 f3){p4:Int×Int×Int×Int×Int×Int×Ins×Int×List IOp×Unit->Bool}{f4:Int×Int×Int×Int×Int×Int×Ins×Int×List IOp×Unit->Int×Int×Int×Int×Int×Int×List IOp×Unit}(hp4:∀(a1 a2 a3 a4 a5 a6:Int) (i:Ins) (n:Int) (ops:List IOp),(i.op=9\/i.op=10)->ops.length<950000->p4 (a1,a2,a3,a4,a5,a6,i,n,ops,())=true)(hf4:∀(a1 a2 a3 a4 a5 a6:Int) (i:Ins) (n:Int) (ops:List IOp),(i.op=9\/i.op=10)->ops.length<950000->f4 (a1,a2,a3,a4,a5,a6,i,n,ops,())=(a1,a2,a3,a4,a5,a6,ops++gu n ops.length i,()))(U5:apE p5 f5)(U6:apF p6 f6){p7:Int×Unit->Bool}{f7:Int×Unit->Int×Unit}(hp7:∀k,0<=k->k<=15->p7 (k,())=true)(hf7:∀k,0<=k->k<=15->f7 (k,())=(2^k.toNat,()))(B:Blk)(i:Ins)(n:Int)(hi:dO i)(h0:i.op≠0)(h:B.ops.length<900000):OI.F (p1,f1,p2,f2,p3,f3,p4,f4,p5,f5,p6,f6,p7,f7,()) (B.pc,B.len,B.fin,B.x,B.y,B.k,i,n,B.ops,()) (λy=>y=bk7 (fF n B i)):=by
 have m1:∀(l:List IOp) (o:IOp),l.length<950000->(l++ [o]).length<1000000:=λl o h=>by rw [List.length_append];simp only [List.length_cons,List.length_nil];omega
 have m3:∀(l:List IOp) (o1 o2 o3:IOp),l.length<950000->(l++ [o1,o2,o3]).length<1000000:=λl o1 o2 o3 h=>by simp only [List.length_append,List.length_cons,List.length_nil];omega
 obtain⟨⟨o0,o1⟩,_,_,k0,_,_,_,r3,r8,_⟩:=hi;have P2:=hp2 B i;have H2:=hf2 B i;dsimp only [OI,gm];rcases(by omega:i.op=1\/i.op=2\/i.op=8\/(i.op=9\/i.op=10)\/i.op=14\/i.op=15\/(i.op=11\/i.op=12\/i.op=13)\/(3<=i.op/\i.op<=7))with e | e | e | e | e | e | e | e
 case inr.inr.inr.inl=>
  have e':fF n B i={B with ops:=B.ops++gu n B.ops.length i}:=by unfold fF;rw [if_neg ah,if_neg ah]
  rw [e'];have P4:=hp4 B.pc B.len B.fin B.x B.y B.k i n B.ops e ah;have H4:=hf4 B.pc B.len B.fin B.x B.y B.k i n B.ops e ah;rcases e with e | e<;>simp (disch:=omega) only [RR,IR,e,Int.reduceEq,P4,H4,or_true,true_or]
 case inr.inr.inr.inr.inr.inr.inl=>
  have e':fF n B i=fF 0 B i:=by unfold fF gu;rcases e with e | e | e<;>simp [e]
  rw [e'];have P2:=P2 ah ah;have H2:=H2 ah ah;rcases e with e | e | e<;>simp (disch:=omega) only [RR,IR,e,Int.reduceEq,P2,H2,or_true,true_or]
 case inr.inr.inr.inr.inr.inr.inr=>
  have n0:∀z:Int,z<3\/7<z->¬i.op=z:=λz g q=>by omega
  have e':fF n B i={B with ops:=B.ops++ [⟨2,0,0,i.a,0⟩,⟨2,0,0,i.k,0⟩,⟨3,B.ops.length,B.ops.length+1,i.op-2,0⟩,⟨8,B.ops.length+2,0,i.d,0⟩]}:=by
   unfold fF gu;simp (disch:=omega) only [n0,if_false,or_self]
  rw [e'];simp (disch:=first | omega | (apply m3;omega)) only [RR,IR,n0,U5.hp,U5.hf,U6.hp,U6.hf,or_self];simp;rw [show i.op-3+1=i.op-2 by omega];rfl
 all_goals
  unfold fF gu;simp (disch:=first | omega | (apply m1;omega) | (apply m3;omega)) only [RR,IR,e,Int.reduceEq,U1.hp,U1.hf,U3.hp,U3.hf,U5.hp,U5.hf,U6.hp,U6.hf,hp7 i.k k0,hf7 i.k k0,r8,n1a,or_self,true_and,and_true]
  try simp
  try rfl
def sF(a:Int):Nj.F () (a,()) (λy=>y=(inB a 11 13,())):=by
 dsimp only [Nj,gm];refine Prod.ext ?_ rfl;dsimp only;rw [Bool.eq_iff_iff,bM];simp [YV];omega
def CX{p1 f1 p2 f2}(U1:ajm p1 f1)(U2:Z5 p2 f2)(i:Ins):Nk.F (p1,f1,p2,f2,()) (i,()) (λy=>y=(bp (dO i)&& !decide (i.op=0)&& !inB i.op 11 13,())):=by
 dsimp only [Nk,gm];simp (disch:=omega) only [RR,IR,U1.hp,U1.hf,U2.hp,U2.hf]
def FU{p1 f1 p2 f2 p3 f3}(U1:ajm p1 f1)(U2:Z5 p2 f2)(U3:Y1 p3 f3){p4:Ins×Unit->Bool}{f4:Ins×Unit->Bool×Unit}(hp4:∀i,p4 (i,())=true)(hf4:∀i,f4 (i,())=(bp (dO i)&& !decide (i.op=0)&& !inB i.op 11 13,()))(pc:Int)(l:List Ins)(hl:(l.length:Int)<1000000000):Nl.F (p1,f1,p2,f2,p3,f3,p4,f4,()) (pc,l,()) (λy=>y=(bp (qC pc l),())):=by
 dsimp only [Nl,gm];simp (disch:=omega) only [RR,IR,U1.hp,U1.hf,U2.hp,U2.hf,U3.hp,U3.hf,hp4,hf4,bM,jq];refine⟨λh=> ?_,λh=> ?_⟩
 .rw [aR];intro g;have a:=g.ln;have c:=g.pc;omega
 refine ak (λ(y:List Ins×Int×Unit)=>y.1=l/\0<=y.2.1/\y.2.1<=l.length/\∀j:Nat,j<y.2.1->dO (l.getD j default)/\(l.getD j default).op≠0/\(11<=(l.getD j default).op/\(l.getD j default).op<=13->j+1=l.length)) (λy=>(l.length-y.2.1).toNat) ⟨rfl,by simp,by simp,λj hj=>absurd hj (by dsimp only;omega)⟩ ?_;rintro⟨(l:List Ins),(i:Int),⟨⟩⟩ hI;dsimp only at hI ⊢;obtain⟨rfl,h1,h2,h3⟩:=hI;by_cases g:i<l.length
 .have nx:dO ((l).getD (i).toNat default)/\(((l).getD (i).toNat default)).op≠0/\(11<=(((l).getD (i).toNat default)).op/\(((l).getD (i).toNat default)).op<=13->i+1=l.length)->∀j:Nat,(j:Int)<i+1->dO (l.getD j default)/\(l.getD j default).op≠0/\(11<=(l.getD j default).op/\(l.getD j default).op<=13->j+1=l.length):=λq j hj=>by
   by_cases c:(j:Int)<i
   .exact h3 j c
   .obtain rfl:j=i.toNat:=by omega
    exact⟨q.1,q.2.1,λz=>by have:=q.2.2 z;omega⟩
  have bad:¬(dO ((l).getD (i).toNat default)/\(((l).getD (i).toNat default)).op≠0/\(11<=(((l).getD (i).toNat default)).op/\(((l).getD (i).toNat default)).op<=13->i+1=l.length))->bp (qC pc l)=false:=λq=>aR λv=>q (by
   have:=v.ok i.toNat ah;exact⟨this.1,this.2.1,λz=>by have:=this.2.2 z;omega⟩)
  have gi:(i< (l.length:Int)-1)↔¬(i+1=l.length):=by omega
  simp (disch:=omega) only [RR,IR,U1.hp,U1.hf,U2.hp,U2.hf,hp4,hf4,g];refine⟨h1,Or.inr h1,Or.inr h1,λe=> ?_,λe=>⟨⟨ah,ah,nx ?_⟩,ah⟩⟩
  .rw [bad];rintro⟨q1,q2,q3⟩;rw [aU q1,decide_eq_false q2]at e;have e1:=bM.1 (show inB (((l).getD (i).toNat default)).op 11 13=true by simpa using e.1);have:=q3 e1;rcases e.2 with(z | z) | z
   .omega
   .cases z
   .exact z e1
  .have a:dO ((l).getD (i).toNat default):=Classical.byContradiction λn=>by rw [aR n]at e;simp at e
   refine⟨a,λz=> ?_,λq=> ?_⟩
   .rw [z]at e;simp [inB]at e
   .rw [aU a,bM.2 q]at e;simp at e;omega
 .simp (disch:=omega) only [RR,g];rw [aU ⟨ah,ah,λj hj=>h3 j ah⟩]
structure apG(pp:Int×List Ins×Unit->Bool)(ff:Int×List Ins×Unit->Bool×Unit):Prop where
 hp:∀(pc:Int) (l:List Ins),(l.length:Int)<1000000000->pp (pc,l,())=true
 hf:∀(pc:Int) (l:List Ins),(l.length:Int)<1000000000->ff (pc,l,())=(bp (qC pc l),())
theorem BA{p1 f1}(U1:apG p1 f1){p2:Int×Int×Int×Int×Int×Int×Ins×Int×List IOp×Unit->Bool}{f2:Int×Int×Int×Int×Int×Int×Ins×Int×List IOp×Unit->Int×Int×Int×Int×Int×Int×List IOp×Unit}(hp2:∀(B:Blk) (i:Ins) (n:Int),dO i->i.op≠0->B.ops.length<900000->p2 (B.pc,B.len,B.fin,B.x,B.y,B.k,i,n,B.ops,())=true)(hf2:∀(B:Blk) (i:Ins) (n:Int),dO i->i.op≠0->B.ops.length<900000->f2 (B.pc,B.len,B.fin,B.x,B.y,B.k,i,n,B.ops,())=bk7 (fF n B i))(pc:Int)(l:List Ins)(hl:(l.length:Int)<1000000000):OJ.F (p1,f1,p2,f2,()) (pc,l,()) (λy=>y=bk7 (lower pc l)):=by
 dsimp only [OJ,gm];simp (disch:=omega) only [RR,U1.hp pc l hl,U1.hf pc l hl,aN,fT];unfold lower;refine⟨λh=>by rw [aR h,if_neg (by decide)];rfl,λh=> ?_⟩;rw [aU h,if_pos rfl];have ln:=h.ln;have pp:=h.pc;refine ak (λ(y:List Ins×Int×Int×Int×Int×Int×Int×Int×Int×Int×Int×Int×Int×Int×List IOp×Unit)=>y.1=l/\0<=y.2.1/\y.2.1<=l.length/\y.2.2.2.2.2.2.2.2=bk7 (nQ 0 (uU pc l) (l.take y.2.1.toNat))) (λy=>(l.length-y.2.1).toNat) ⟨rfl,by simp,by simp,by rw [w64 ah ah];rfl⟩ ?_;rintro⟨(l':List Ins),(i:Int),z1,z2,z3,z4,z5,z6,q1,q2,q3,q4,q5,q6,q7,⟨⟩⟩ hI;dsimp only at hI ⊢;obtain⟨rfl,h1,h2,h3⟩:=hI;generalize eB:nQ 0 (uU pc l') (l'.take i.toNat)=B at h3;simp only [bk7,Prod.mk.injEq,and_true]at h3;obtain⟨rfl,rfl,rfl,rfl,rfl,rfl,rfl⟩:=h3;have bl:B.ops.length<=40:=by
  have:=zI (l'.take i.toNat) 0 (uU pc l');rw [eB]at this;have t:=List.length_take_le i.toNat l';have:(uU pc l').ops.length=0:=rfl;omega
 by_cases c:i<l'.length
 .obtain⟨o1,o2,o3⟩:=h.ok i.toNat ah;simp (disch:=omega) only [RR,c,hp2 B (((l').getD (i).toNat default)) i o1 o2 ah,hf2 B (((l').getD (i).toNat default)) i o1 o2 ah];refine⟨h1,⟨ah,ah,?_⟩,ah⟩;rw [<-bK (d:=default) h1 c rfl,wG,eB,List.length_take,show(0:Int)+((min i.toNat l'.length:Nat):Int)=i by omega]
 .rw [List.take_of_length_le ah]at eB;simp (disch:=omega) only [RR,c,eB]
def Lh(pc:Int)(l:List Ins):((lower pc l).ops.length:Int)<=5000:=by
 by_cases h:qC pc l
 .have:=(Ql h).sz;omega
 .have e:lower pc l=Us:=by unfold lower;rw [aR h,if_neg (by decide)]
  rw [e];decide
def aea{pc:Int}{l:List Ins}{y:Int×Int×Int×Int×Int×Int×List IOp×Unit}(h:y=bk7 (lower pc l)):(y.2.2.2.2.2.2.1.length:Int)<=5000:=by rw [h];exact Lh pc l
abbrev YOw:=Int×Int×Int×Int×Int×Int×Int×Int×Bool×Bool×Int×List Int×Int×List Int×Int×List IOp×List Int×List Int×List Int×Unit
structure OwD(b:List Int)(p:Int)(y:YOw):Prop where
 b:y.2.2.2.2.2.2.2.2.2.2.2.2.2.1=b
 lo:p<=y.2.2.2.2.2.2.2.2.2.2.2.2.2.2.1
 hi:y.2.2.2.2.2.2.2.2.2.2.2.2.2.2.1<=p+12000
 r:y.2.2.2.2.2.2.2.2.2.2.2.2.2.2.2.2.1.length=4
 m:y.2.2.2.2.2.2.2.2.2.2.2.2.2.2.2.2.2.1.length=64
 i:y.2.2.2.2.2.2.2.2.2.2.2.1.length<=10
 o:y.2.2.2.2.2.2.2.2.2.2.2.2.2.2.2.2.2.2.1.length<=100
 k:y.2.2.2.2.2.2.2.2.2.2.2.2.2.2.2.1.length<1000000
structure ati(pp:Int×List Ins×Unit->Bool)(ff:Int×List Ins×Unit->Int×Int×Int×Int×Int×Int×List IOp×Unit):Prop where
 hp:∀(pc:Int) (l:List Ins),(l.length:Int)<1000000000->pp (pc,l,())=true
 hf:∀(pc:Int) (l:List Ins),(l.length:Int)<1000000000->ff (pc,l,())=bk7 (lower pc l)
structure auH(pp:Blk×List Int×Int×Unit->Bool)(ff:Blk×List Int×Int×Unit->YMc):Prop where
 hp:∀c b p,Bt b->0<=p->p<400000000->pp (c,b,p,())=true
 hf:∀c b p,Bt b->0<=p->p<400000000->MaD b p (ff (c,b,p,()))
structure auI(pp:Int×List Int×Int×Unit->Bool)(ff:Int×List Int×Int×Unit->YMo):Prop where
 hp:∀n b p,Bt b->0<=p->p<400000000->pp (n,b,p,())=true
 hf:∀n b p,Bt b->0<=p->p<400000000->MoD b p (ff (n,b,p,()))
def afn(x:Int)(n:Nat)(hn:n<=16)(m:Int)(hm:m=2^n-1):kQ .and .i64 x m=x%2^n:=by
 have h2:((2^IntKind.i64.bits:Nat):Int)=18446744073709551616:=by decide
 have p:2^n<=2^16:=Nat.pow_le_pow_right (by decide) hn;have p0:0<2^n:=Nat.pow_pos (by decide);have p16:(2:Nat)^16=65536:=by decide
 have c:((2:Int)^n)=((2^n:Nat):Int):=by simp
 have d:18446744073709551616=2^n*2^ (64-n):=by rw [<-Nat.pow_add,show n+(64-n)=64 by omega]
 rw [c]at hm ⊢;unfold kQ;dsimp only;rw [BitVec.toNat_and,BitVec.toNat_ofInt,BitVec.toNat_ofInt,h2,show(m%18446744073709551616).toNat=2^n-1 by omega,Nat.and_two_pow_sub_one_eq_mod];have l:=Nat.mod_lt (x%18446744073709551616).toNat p0;rw [w64 ah ah];have e:(((x%18446744073709551616).toNat%2^n:Nat):Int)=x%18446744073709551616% ((2^n:Nat):Int):=by
  rw [Int.natCast_emod];congr 1;omega
 rw [e,Int.emod_emod_of_dvd];exact⟨((2^ (64-n):Nat):Int),by rw [<-Int.natCast_mul,<-d];rfl⟩
def Qm(x:Int)(n:Nat)(hn:n<=64)(h:0<=x):gX .shr .i64 x (n:Int)=x/2^n:=by
 show x.fdiv (2^ (min (n:Int).toNat 64))=_;rw [show(n:Int).toNat=n from rfl,Nat.min_eq_left hn,Int.fdiv_eq_ediv_of_nonneg];exact Int.le_of_lt (Int.pow_pos (by decide))
theorem apH{p1 f1 p2 f2}(U1:Z5 p1 f1)(U2:Y9 p2 f2)(w:Int):Xw.F (p1,f1,p2,f2,()) (w,()) (λy=>y=tkI w):=by
 dsimp only [Xw,gm];simp (disch:=omega) only [RR,U1.hp,U1.hf,U2.hp,U2.hf,Bw];by_cases h:Wo w
 .obtain⟨w0,w1⟩:=id h;have e:∀x y z u:Int,Co.mk .ins (x,y,z,u,())=⟨x,y,z,u⟩:=λ_ _ _ _=>rfl
  have s12:gX .shr .i64 w 12=w/4096:=Qm w 12 (by decide) w0;have s10:gX .shr .i64 w 10=w/1024:=Qm w 10 (by decide) w0;have s8:gX .shr .i64 w 8=w/256:=Qm w 8 (by decide) w0;have m3:∀x,kQ .and .i64 x 3=x%4:=λx=>afn x 2 (by decide) 3 (by decide)
  have m8:∀x,kQ .and .i64 x 255=x%256:=λx=>afn x 8 (by decide) 255 (by decide)
  rw [aU (show 0<=w/\w<=65535 from h)];simp only [IX,s12,s10,s8,m3,m8,e];have ed:(⟨w/4096,w/1024%4,w/256%4,w%256⟩:Ins)=jm w:=rfl;unfold tkI;by_cases k:dO (jm w)
  .rw [ed,aU k,aU ⟨h,k⟩];simp;rfl
  .rw [ed,aR k,aR (λg=>k g.2)];simp
 .rw [aR (show¬(0<=w/\w<=65535)from h)];unfold tkI;rw [aR (λg=>h g.1)];simp
structure PS where
 m:bq
 L:List Int
 I:List Int
 left:Bool
section
variable (T:List Atom) (r0:List Int) (pc len:Int)
def pv(s:PS):List Int:=tv r0 s.L s.I T
end
theorem aae{α β:Type}[Inhabited α][Inhabited β]{f:α->β}(h:f default=default)(l:List α)(i:Int):(l.map f).getD i.toNat default=f (l.getD i.toNat default):=by
 rw [List.getD_eq_getElem?_getD,List.getElem?_map,List.getD_eq_getElem?_getD];cases l[i.toNat]? with
 | none=>exact h.symm
 | some x=>rfl
structure PJ(T:List Atom)(r0:List Int)(M:MS)(S:SS)(P:PS):Prop where
 lf:P.left=false
 m:P.m={M.m with regs:=r0}
 ld:(P.L.length:Int)=S.ld
 inn:(P.I.length:Int)=S.inn
 wl:wOK P.L
 wi:wOK P.I
 v:∀L I,P.L<+:L->P.I<+:I->wOK L->wOK I->S.vals.map (evF (tv r0 L I T))=M.vals
 r:∀L I,P.L<+:L->P.I<+:I->wOK L->wOK I->S.regs.map (evF (tv r0 L I T))=M.m.regs
structure MJ(b:Blk)(i:Nat)(M:MS):Prop where
 lf:M.left=false
 ln:M.vals.length=i
 wv:Wos M.vals
 ok:MOK M.m
 pc:M.m.pc=b.pc
 ha:M.m.halt=0
theorem PJ.x{T:List Atom}{r0:List Int}{M:MS}{S:SS}{P:PS}(h:PJ T r0 M S P){L I:List Int}(h1:P.L<+:L)(h2:P.I<+:I)(h3:wOK L)(h4:wOK I)(o:IOp):evF (tv r0 L I T) (xOf S o)=vx M o/\evF (tv r0 L I T) (yOf S o)=vy M o:=by
 have e:=h.v L I h1 h2 h3 h4;unfold xOf yOf vx vy;rw [<-e];constructor
 .split
  .exact(aae (f:=evF (tv r0 L I T)) rfl S.vals o.x).symm
  .rfl
 .split
  .exact(aae (f:=evF (tv r0 L I T)) rfl S.vals o.y).symm
  .rfl
theorem aeb{s:MS}(o:IOp):(mM s o).pc=s.m.pc/\(mM s o).halt=s.m.halt/\(mM s o).count=s.m.count:=by
 unfold mM
 repeat' split
 all_goals exact⟨rfl,rfl,rfl⟩
end Go.TX.F
namespace Go.TX.F
open Go Go.AE Go.TX
noncomputable def GN:List Int->List Ins
 | []=> []
 | w::r=>if bp (Wo w/\dO (jm w))=true then jm w::GN r else []
def apI(e:Cac)(mem:List Int):Prop:=0<=e.blk.pc/\∀t:Nat,t<e.words.length->e.blk.pc+t<mem.length/\((mem).getD (e.blk.pc+t).toNat default)=e.words.getD t default
structure aaf(e:Cac):Prop where
 len:(GN e.words).length=e.words.length
 ok:qC e.blk.pc (GN e.words)
 chk:chk (lower e.blk.pc (GN e.words)) e.blk=true
structure apJ(l:List Cac)(mem:List Int):Prop where
 n:l.length<=4
 r:∀e∈l,aaf e/\apI e mem
 u:l.Pairwise λa b=>a.blk.pc≠b.blk.pc
structure atV(e:Eng):Prop where
 m:MOK e.aM
 c:apJ e.cache e.aM.mem
 p:Fe e.dS
structure auJ(pp:List Int×Int×Unit->Bool)(ff:List Int×Int×Unit->Int×Unit):Prop where
 hp:∀l k,pp (l,k,())=true
 hf:∀l k,ff (l,k,())=(if k<0 then 0 else Zw l k,())
structure atj(e:Ev):Prop where
 kd:4<=e.kind/\e.kind<=7
 at_:0<=e.at_/\e.at_<8
 x:aI e.x
 y:aI e.y
 r:∀p∈e.regs,aI p
 rl:e.regs.length<=4
structure auK(T:List Atom)(S:Sym)(b:Blk)(m:bq):Prop where
 t:aF T
 e:∀e∈S.events,atj e
 el:S.events.length<=48
 r:∀p∈S.regs,aI p
 rl:S.regs.length<=4
 x:aI S.x
 y:aI S.y
 mo:MOK m
 pc:0<=b.pc/\b.pc<=64
 ln:0<=b.len/\b.len<=8
 ins:m.ins.length<1000000000
 out:m.outs.length<800000000
end Go.TX.F
