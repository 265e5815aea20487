/- Part 4 of a proof: what the last part needs. No condition. -/
import Derived.Test.YthhkbfpkkbhibaaGreatDoorZc
import Derived.Lib.Bytes
set_option maxHeartbeats 1000000
set_option linter.all false
set_option linter.unusedSectionVars false
set_option linter.unusedVariables false
set_option linter.unusedSimpArgs false
namespace Go.TX.F
open Go Go.AE Go.TX
def DZ{m:aj}(n:Int)(h:aok m.atoms):mulM m ⟨n,[]⟩=⟨m.bA*n%65536,m.atoms⟩:=by
 unfold mulM;rw [<-mO (a:=m.atoms++ []) (o:=m.atoms) h.1 (by simp)]
def Ak(a:List aj)(n:aj):prods a [n]=a.map (λm=>mulM m n):=by
 induction a with
 | nil=>rfl
 | cons x a ih=>simp only [prods,List.flatMap_cons,List.map_cons,List.map_nil]at ih ⊢;rw [ih];rfl
def J2{t:List Int}:∀ {l:List aj},(∀m∈l,m.bA=0)->cf l t=0
 | [],_=>rfl
 | m::l,h=>by rw [aR,J2 (λm hm=>h m (by simp [hm])),h m (by simp)];split<;>rfl
def dM:aJ []:=dW.2 ⟨⟨List.Pairwise.nil,λm hm=>absurd hm (by simp)⟩,by simp,λm hm=>absurd hm (by simp)⟩
def jG(n:Int):aJ (bR n):=by
 unfold bR;split
 .refine dW.2 ⟨⟨List.pairwise_singleton _ _,λm hm=> ?_⟩,by simp,λm hm=> ?_⟩
  .rw [List.mem_singleton]at hm;subst hm;assumption
  .rw [List.mem_singleton]at hm;subst hm;exact⟨by simp,List.Pairwise.nil,λk hk=>absurd hk (by simp)⟩
 .exact dM
def jm(n:Int):aJ (dx n):=by
 unfold dx;split
 .refine dW.2 ⟨⟨List.pairwise_singleton _ _,λm hm=> ?_⟩,by simp,λm hm=> ?_⟩
  .rw [List.mem_singleton]at hm;subst hm;dsimp only;omega
  .rw [List.mem_singleton]at hm;subst hm;exact⟨by simp,List.pairwise_singleton _ _,λk hk=>by rw [List.mem_singleton]at hk;omega⟩
 .exact dM
def agw{p1 f1 p0 f0 p4 f4 p3 f3}(U1:Y11 p1 f1)(U0:Y10 p0 f0)(U4:Y13 p4 f4)(U3:Y9 p3 f3)(a:List aj)(n:Int)(ha:Sh a):MZ.F (p1,f1,p0,f0,p4,f4,p3,f3,()) (a,n,()) (λy=>y=(gF a n,())):=by
 dsimp only [MZ,gm];simp (disch:=omega) only [RR,U1.hp a ha,U1.hf a ha,U3.hp,U3.hf,aO,gB,bM,jU];unfold gF;refine⟨λh=> ?_,λ⟨h1,h2⟩=> ?_⟩
 .rw [if_neg];rw [Bool.and_eq_true,aO,bM];rintro⟨g1,g2⟩;rcases h with h | h
  .exact h g1
  .exact h g2
 rw [if_pos (by rw [aW h1,Bool.true_and,bM];exact h2)];have l1:=h1.len;have hss:=h1.nf.ss
 refine ak (λ(y:Int×Int×List aj×List aj×Unit)=>y.1=n/\y.2.2.1=a/\0<=y.2.1/\y.2.1<=a.length/\Nf y.2.2.2.1/\(y.2.2.2.1.length:Int)<=y.2.1/\(∀t,cf y.2.2.2.1 t=cf ((a.take y.2.1.toNat).map (λm=>⟨m.bA*n%65536,m.atoms⟩)) t%65536)
   /\(∀x∈y.2.2.2.1,x.atoms.length<=4/\(y.2.1<a.length->lt x ((a).getD (y.2.1).toNat default)))) (λy=>(a.length-y.2.1).toNat)
  ⟨rfl,rfl,by simp,by simp,⟨List.Pairwise.nil,λm hm=>absurd hm (by simp)⟩,by simp,λt=>by simp [cf],λx hx=>absurd hx (by simp)⟩ ?_
 rintro⟨(n':Int),(i:Int),(a':List aj),(o:List aj),⟨⟩⟩ hI;dsimp only at hI ⊢;obtain⟨rfl,rfl,h3,h4,h5,h6,h7,h8⟩:=hI;have so:Sh o:=⟨ah,λm hm=>by have:=(h8 m hm).1;omega⟩;by_cases h9:i<a'.length
 .have ma:((a').getD (i).toNat default)∈a':=dQ h3 h9;have ca:=h1.nf.co _ ma;have qa:=h1.aok ma;have hm:=Hw (show 0<=((a').getD (i).toNat default).bA by omega) ah h2.1 h2.2;have nx:i+1<a'.length->lt ((a').getD (i).toNat default) ((a').getD (i+1).toNat default):=λh=>by
   have:=(cO (d:=default) (R:=lt) dV).1 hss (i+1) ah h;rw [show i+1-1=i by omega]at this;exact this
  have tk:(a'.take (i+1).toNat).map (λm:aj=>(⟨m.bA*n'%65536,m.atoms⟩:aj))=(a'.take i.toNat).map (λm:aj=>(⟨m.bA*n'%65536,m.atoms⟩:aj))++ [⟨((a').getD (i).toNat default).bA*n'%65536,((a').getD (i).toNat default).atoms⟩]:=by
   rw [<-bI (d:=default) h3 h9 rfl,List.map_append];rfl
  simp (disch:=omega) only [RR,U0.hp,U0.hf];refine⟨λ_=>⟨ah,ah,λg=>⟨ah,ah,by simp only [List.length_cons,List.length_nil];omega,⟨ah,ah,?_,?_,λt=> ?_,λx hx=> ?_⟩,ah⟩,λg=>⟨⟨ah,ah,h5,ah,λt=> ?_,λx hx=>⟨(h8 x hx).1,λg2=>dV ((h8 x hx).2 h9) (nx g2)⟩⟩,ah⟩⟩,λh=>absurd h9 h⟩
  .refine⟨?_,λx hx=> ?_⟩
   .rw [List.pairwise_append];exact⟨h5.ss,List.pairwise_singleton _ _,λx hx z hz=>by rw [List.mem_singleton]at hz;subst hz;exact(h8 x hx).2 h9⟩
   .rw [List.mem_append,List.mem_singleton]at hx;rcases hx with hx | rfl
    .exact h5.co x hx
    .dsimp only;omega
  .rw [List.length_append];simp only [List.length_cons,List.length_nil];omega
  .rw [tk,cu,cu,h7 t,aR,iF];dsimp only;by_cases et:((a').getD (i).toNat default).atoms=t
   .rw [if_pos et];have z:cf o t=0:=fZ λx hx e=>((h8 x hx).2 h9).ne (e.trans et.symm)
    rw [h7 t]at z;omega
   .rw [if_neg et];omega
  .rw [List.mem_append,List.mem_singleton]at hx;rcases hx with hx | rfl
   .exact⟨(h8 x hx).1,λg2=>dV ((h8 x hx).2 h9) (nx g2)⟩
   .exact⟨qa.1,λg2=>nx g2⟩
  .rw [tk,cu,h7 t,aR,iF];dsimp only;have:((a').getD (i).toNat default).bA*n'%65536=0:=by omega
   rw [this];split<;>omega
 .simp (disch:=omega) only [RR,U4.hp o so,U4.hf o so];refine⟨λh=>absurd h h9,λ_=> ?_⟩;have eq:∀t,cf o t=cf (prods a' (bR n')) t%65536:=λt=>by
   rw [h7 t,List.take_of_length_le ah];unfold bR;by_cases hn:1<=n'/\n'<=65535
   .rw [if_pos hn,Ak]
    congr 2
    exact List.map_congr_left λm hm=>(DZ n' (h1.aok hm).2).symm
   .rw [if_neg hn];have hz:n'=0:=by omega
    have hz2:cf (a'.map (λm=>(⟨m.bA*n'%65536,m.atoms⟩:aj))) t=0:=J2 λm hm=>by
     rw [List.mem_map]at hm;obtain⟨x,_,rfl⟩:=hm;dsimp only;rw [hz];simp
    rw [hz2,show prods a' []=[] by simp [prods]];rfl
  have fb:Hz o:=⟨ah,λm hm=>(h8 m hm).1⟩;have:=HV h5 eq (λm hm=>by
   unfold bR at hm;split at hm
   .rw [Ak,List.mem_map]at hm;obtain⟨x,hx,rfl⟩:=hm;rw [DZ n' (h1.aok hx).2];exact(h1.aok hx).2
   .rw [show prods a' []=[] by simp [prods]]at hm;exact absurd hm (by simp))
  unfold jV;rw [if_pos (by rw [aW h1,aW (jG n')];rfl),<-congrArg Prod.snd this];dsimp only;rw [aW fb];rfl
def XO(l:List aj):(Nf (nf l)/\∀k,cf (nf l) k=cf l k%65536)\/nf l=[]:=by
 by_cases he:∃o,Nf o/\∀k,cf o k=cf l k%65536
 .obtain⟨o,h1,h2⟩:=he;rw [DW h1 h2];exact Or.inl ⟨h1,h2⟩
 .right;unfold nf;rw [dif_neg he]
def XP{l:List aj}{n:Int}(h:aU l n):aU (nf l) n:=by
 rcases XO l with⟨h1,h2⟩ | h1
 .refine bN.2 λm hm k hk=> ?_
  obtain⟨m',g1,g2⟩:=h1.from h2 hm;exact bN.1 h m' g1 k (g2▸hk)
 .rw [h1];exact bN.2 λm hm=>absurd hm (by simp)
def iR(n:Int):aU [] n:=bN.2 λm hm=>absurd hm (by simp)
def QM(l:List aj):aJ (jM l).2:=by
 unfold jM;by_cases h:aJ (nf l)
 .rw [aW h];exact h
 .rw [aY h];exact dM
def D5{l:List aj}{n:Int}(h:aU l n):aU (jM l).2 n:=by
 unfold jM;dsimp only;split
 .exact XP h
 .exact iR n
def Sy{a b:List aj}{n:Int}(h1:aU a n)(h2:aU b n):aU (a++b) n:=bN.2 λm hm k hk=>by
 rw [List.mem_append]at hm;rcases hm with hm | hm
 .exact bN.1 h1 m hm k hk
 .exact bN.1 h2 m hm k hk
def J3{a b:List aj}{n:Int}(h1:aU a n)(h2:aU b n):aU (prods a b) n:=bN.2 λm hm k hk=>by
 unfold prods at hm;rw [List.mem_flatMap]at hm;obtain⟨x,hx,hm⟩:=hm;rw [List.mem_map]at hm;obtain⟨y,hy,rfl⟩:=hm;have:k∈x.atoms++y.atoms:=List.mem_mergeSort.1 hk;rw [List.mem_append]at this;rcases this with hk | hk
 .exact bN.1 h1 x hx k hk
 .exact bN.1 h2 y hy k hk
def QN(a b:List aj):aJ (kN a b).2:=by unfold kN;split;exact QM _;exact dM
def abR(a b:List aj):aJ (jV a b).2:=by unfold jV;split;exact QM _;exact dM
def D6{a b:List aj}{n:Int}(h1:aU a n)(h2:aU b n):aU (kN a b).2 n:=by unfold kN;split;exact D5 (Sy h1 h2);exact iR n
def D7{a b:List aj}{n:Int}(h1:aU a n)(h2:aU b n):aU (jV a b).2 n:=by unfold jV;split;exact D5 (J3 h1 h2);exact iR n
def tO(c n:Int):aU (bR c) n:=bN.2 λm hm k hk=>by
 unfold bR at hm;split at hm
 .rw [List.mem_singleton]at hm;subst hm;exact absurd hk (by simp)
 .exact absurd hm (by simp)
def qJ{k n:Int}(h:k<n):aU (dx k) n:=bN.2 λm hm j hj=>by
 unfold dx at hm;split at hm
 .rw [List.mem_singleton]at hm;subst hm;rw [List.mem_singleton]at hj;omega
 .exact absurd hm (by simp)
def aF.sh{t:List Atom}(h:aF t):ShT t:=⟨by have:=h.2;omega,λa ha=>by
 obtain⟨i,hi,rfl⟩:=List.getElem_of_mem ha;have:=(h.1 i ah ah).1;rw [show(i:Int).toNat=i from rfl,getD_lt hi]at this;unfold fT at this;split at this
 .exact⟨this.2.1.sh,this.2.2.1.sh⟩
 .rw [ShA,this.1.1,this.1.2];exact⟨mK,mK⟩⟩
def yJ{t:List Atom}{a:Atom}(h:aF t)(h2:t.length<200):aF (aQ t a).1/\t.length<=(aQ t a).1.length/\(aQ t a).1.length<=t.length+1/\(fT a t.length->0<=(aQ t a).2):=by
 have hsp:=iL t a;unfold aQ;split
 .rename_i h3;exact⟨h,Nat.le_refl _,Nat.le_succ _,λ_=>h3⟩
 .rename_i h3;split
  .rename_i h4;exact⟨h,Nat.le_refl _,Nat.le_succ _,λh5=>by rcases h4 with h4 | h4;exact absurd h5 h4;omega⟩
  .rename_i h4;have h5:fT a t.length:=Classical.byContradiction λh5=>h4 (Or.inl h5)
   refine⟨iE.2 ⟨?_,by rw [List.length_append];simp only [List.length_cons,List.length_nil];omega⟩,by rw [List.length_append];exact Nat.le_add_right _ _,by rw [List.length_append];exact Nat.le_refl _,λ_=>by dsimp only;omega⟩;have hl:((t++ [a]).length:Int)=t.length+1:=by rw [List.length_append];rfl
   have g1:∀i:Int,0<=i->i<t.length->(t++ [a]).getD i.toNat default=t.getD i.toNat default:=λi i1 i2=>by
    rw [getD_lt (show i.toNat< (t++ [a]).length by omega),getD_lt (show i.toNat<t.length by omega),List.getElem_append_left]
   have g2:(t++ [a]).getD ((t.length:Int)).toNat default=a:=by
    rw [getD_lt (show((t.length:Int)).toNat< (t++ [a]).length by omega)];simp
   rw [hl];intro i i1 i2;dsimp only;by_cases i3:i<t.length
   .rw [g1 i i1 i3];have:=(iE.1 h).1 i i1 i3;exact⟨this.1,λj j1 j2=>by dsimp only;rw [g1 j j1 ah];exact this.2 j j1 j2⟩
   .have:i=t.length:=by omega
    subst this;rw [g2];refine⟨h5,λj j1 j2=> ?_⟩;dsimp only;rw [g1 j j1 j2];rcases hsp with⟨_,g⟩ | ⟨g,_⟩
    .exact g j j1 j2
    .exact absurd g h3
def By(b:List Int):Prop:=∀z∈b,0<=z/\z<=255
structure Bt(b:List Int):Prop where
 len:b.length<=2000
 rng:By b
def By.at{b:List Int}(h:By b)(n:Nat):0<=b.getD n default/\b.getD n default<=255:=by
 by_cases h1:n<b.length
 .rw [getD_lt h1];exact h _ (List.getElem_mem _)
 .simp only [List.getD,List.getElem?_eq_none (by omega:b.length<=n)];decide
def Pk(n:Int)(b:List Int)(p:Int)(y:Int×List Int×Int×Unit):Prop:=y.2.1=b/\y.2.2.1=p+1/\0<=y.1/\(y.1<n\/y.1=0)
structure Y38(pp:Int×List Int×Int×Unit->Bool)(ff:Int×List Int×Int×Unit->Int×List Int×Int×Unit):Prop where
 hp:∀n b p,Bt b->0<=p->p<1000000000->pp (n,b,p,())=true
 hf:∀n b p,Bt b->0<=p->p<1000000000->Pk n b p (ff (n,b,p,()))
def Wd(b:List Int)(p:Int)(y:Int×List Int×Int×Unit):Prop:=y.2.1=b/\p<=y.2.2.1/\y.2.2.1<=p+3/\(0<=y.1/\y.1<=65535)
structure Y39(pp:Int×List Int×Int×Unit->Bool)(ff:Int×List Int×Int×Unit->Bool×List Int×Int×Unit):Prop where
 hp:∀n b p,Bt b->0<=p->p<1000000000->pp (n,b,p,())=true
 hf:∀n b p,Bt b->0<=p->p<1000000000->(ff (n,b,p,())).2.1=b/\(ff (n,b,p,())).2.2.1=p+1
structure Y40(pp:List Int×Int×Unit->Bool)(ff:List Int×Int×Unit->Int×List Int×Int×Unit):Prop where
 hp:∀b p,Bt b->0<=p->p<900000000->pp (b,p,())=true
 hf:∀b p,Bt b->0<=p->p<900000000->Wd b p (ff (b,p,()))
structure Y41(pp:List Int×Unit->Bool)(ff:List Int×Unit->List Int×Int×Unit):Prop where
 hp:∀b,By b->b.length<1000000000->pp (b,())=true
 hf:∀b,By b->b.length<1000000000->Bt (ff (b,())).1/\(ff (b,())).2.1=0
structure alS(n:Int)(b:List Int)(p:Int)(y:List Int×Int×List aj×Unit):Prop where
 b:y.1=b
 lo:p<=y.2.1
 hi:y.2.1<=p+200
 ok:aJ y.2.2.1
 un:aU y.2.2.1 n
def OA(n:Int)(t:List Atom):Prop:=(t.length:Int)=n/\All n (λi=>((t).getD (i).toNat default)=⟨1,i,[],[]⟩)
def agx{p2 f2}(U2:Y28 p2 f2):Mv.F (p2,f2,()) () (λy=>OA 4 y.1/\y.2.1.length=4/\∀p∈y.2.1,Sh p):=by
 dsimp only [Mv,gm];simp (disch:=omega) only [RR,U2.hp,U2.hf];refine ak (λ(y:Int×List (List aj)×List Atom×Unit)=>0<=y.1/\y.1<=4/\(y.2.1.length:Int)=y.1/\(∀p∈y.2.1,Sh p)/\OA y.1 y.2.2.1) (λy=>(4-y.1).toNat) ⟨by simp,by simp,by simp,by simp,by simp,All.zero⟩ ?_;rintro⟨(i:Int),(q:List (List aj)),(t:List Atom),⟨⟩⟩ hI;dsimp only at hI ⊢;obtain⟨h1,h2,h3,h0,h4,h5⟩:=hI;simp (disch:=omega) only [RR,U2.hp,U2.hf,List.length_cons,List.length_nil];refine⟨λh6=>⟨ah,ah,⟨ah,ah,by rw [List.length_append];simp only [List.length_cons,List.length_nil];omega,λp hp=>(List.mem_append.1 hp).elim (h0 p) (λg=>by rw [List.mem_singleton.1 g];exact(jm _).sh),by rw [List.length_append];simp only [List.length_cons,List.length_nil];omega,λj j1 j2=> ?_⟩,ah⟩,λh6=> ?_⟩
 .dsimp only;have hl:((t++ [(⟨1,i,[],[]⟩:Atom)]).length:Int)=t.length+1:=by rw [List.length_append];rfl
  by_cases c:j<i
  .have:=h5 j j1 c;dsimp only at this;rw [getD_lt (show j.toNat<t.length by omega)]at this;rw [getD_lt (show j.toNat< (t++ [(⟨1,i,[],[]⟩:Atom)]).length by omega),List.getElem_append_left (show j.toNat<t.length by omega)];exact this
  .have:j=i:=by omega
   subst this;rw [getD_lt (show j.toNat< (t++ [(⟨1,j,[],[]⟩:Atom)]).length by omega),List.getElem_append_right ah];simp
 .rw [show i=4 by omega]at h4 h5;exact⟨⟨h4,h5⟩,ah,h0⟩
structure aqp(b:List Int)(p n:Int)(y:List Int×Int×List Atom×Unit):Prop where
 b:y.1=b
 lo:p<=y.2.1
 hi:y.2.1<=p+10000
 sh:ShT y.2.2.1
 ne:0<y.2.2.1.length
 le:(y.2.2.1.length:Int)<=n
structure Y42(pp:List Atom×Int×List aj×List aj×Unit->Bool)(ff:List Atom×Int×List aj×List aj×Unit->List Atom×List aj×Unit):Prop where
 hp:∀t op x y,ShT t->Sh x->Sh y->pp (t,op,x,y,())=true
 hf:∀t op x y,ShT t->Sh x->Sh y->ff (t,op,x,y,())=((ade t op x y).1,(ade t op x y).2,())
structure Y43(pp:Int×List Int×Int×Unit->Bool)(ff:Int×List Int×Int×Unit->List Int×Int×List aj×Unit):Prop where
 hp:∀n b p,Bt b->0<=n->0<=p->p<500000000->pp (n,b,p,())=true
 hf:∀n b p,Bt b->0<=n->0<=p->p<500000000->alS n b p (ff (n,b,p,()))
structure Y44(pp:Unit->Bool)(ff:Unit->List Atom×List (List aj)×Unit):Prop where
 hp:pp ()=true
 hf:OA 4 (ff ()).1/\(ff ()).2.1.length=4/\∀p∈(ff ()).2.1,Sh p
structure Y45(pp:Int×List Int×Int×Unit->Bool)(ff:Int×List Int×Int×Unit->List Int×Int×List Atom×Unit):Prop where
 hp:∀n b p,Bt b->0<=p->p<300000000->pp (n,b,p,())=true
 hf:∀n b p,Bt b->0<=p->p<300000000->(ff (n,b,p,())).1=b/\p<=(ff (n,b,p,())).2.1/\(ff (n,b,p,())).2.1<=p+20000/\ShT (ff (n,b,p,())).2.2.1/\0< (ff (n,b,p,())).2.2.1.length
def QO{l o:List aj}(h:aJ o)(h2:∀k,cf o k=cf l k%65536):jM l=(true,o):=by
 unfold jM;rw [DW h.nf h2,aW h,if_pos rfl]
def OB{x:List aj}(h:aJ x):aJ (gF x 65535)/\∀k,cf (gF x 65535) k=(65535*cf x k)%65536:=by
 have hc:∀(l:List aj) k,cf (l.map λm=>(⟨m.bA*65535%65536,m.atoms⟩:aj)) k%65536=(65535*cf l k)%65536:=λl k=>by
  induction l with
  | nil=>rfl
  | cons m l ih=>rw [List.map_cons,aR,aR];dsimp only;split<;>omega
 have no:Nf (x.map λm=>(⟨m.bA*65535%65536,m.atoms⟩:aj)):=⟨by
  rw [List.pairwise_map];exact h.nf.ss,λm hm=>by
  rw [List.mem_map]at hm;obtain⟨n,hn,rfl⟩:=hm;have:=h.nf.co n hn;dsimp only;omega⟩
 have ok:aJ (x.map λm=>(⟨m.bA*65535%65536,m.atoms⟩:aj)):=dW.2 ⟨no,by rw [List.length_map];exact h.len,λm hm=>by
  rw [List.mem_map]at hm;obtain⟨n,hn,rfl⟩:=hm;exact show n.atoms.length<=4/\aok n.atoms from h.aok hn⟩
 have pe:prods x (bR 65535)=x.map λm=>(⟨m.bA*65535%65536,m.atoms⟩:aj):=by
  unfold bR;rw [if_pos ah,Ak];exact List.map_congr_left λm hm=>DZ 65535 (h.aok hm).2
 have e:gF x 65535=x.map λm=>(⟨m.bA*65535%65536,m.atoms⟩:aj):=by
  unfold gF jV;rw [if_pos (by rw [aW h];rfl),if_pos (by rw [aW h,aW (jG _)];rfl),pe,QO ok (λk=>by have:=no.bnd k;omega)]
 rw [e];exact⟨ok,λk=>by rw [<-hc];have:=no.bnd k;omega⟩
def sub_self{x:List aj}(h:aJ x):eP 2 x x=([],true):=by
 obtain⟨h1,h2⟩:=OB h;unfold eP kN;rw [if_neg ah,if_pos rfl,if_pos (by rw [aW h,aW h1];rfl),QO dM (λk=>by rw [cu,h2,iF];omega)]
def qK{x:List aj}(h:(bW x).2=true):aJ x/\x=bR (bW x).1/\0<=(bW x).1/\(bW x).1<=65535:=by
 unfold bW at h ⊢;by_cases c:aJ x
 .rw [aW c,if_pos rfl]at h ⊢;refine⟨c,?_⟩;by_cases c1:x.length=0
  .rw [if_pos c1];exact⟨by rw [List.eq_nil_of_length_eq_zero c1];rfl,ah,ah⟩
  .rw [if_neg c1]at h ⊢;by_cases c2:x.length=1/\(x.getD 0 default).atoms.length=0
   .rw [if_pos c2]
    match x,c,c2 with
    | [m],c,c2=>
     have hc:=c.nf.co m (by simp);have ha:m.atoms=[]:=List.eq_nil_of_length_eq_zero c2.2;refine⟨?_,by show 0<=m.bA;omega,by show m.bA<=65535;omega⟩;show [m]=bR m.bA;unfold bR;rw [if_pos hc,<-ha]
   .rw [if_neg c2]at h;exact absurd h (by simp)
 .rw [aY c]at h;exact absurd h (by simp)
structure Y46(pp:List Int×Unit->Bool)(ff:List Int×Unit->Int×List aj×List aj×List Atom×Unit):Prop where
 hp:∀c,By c->c.length<1000000000->pp (c,())=true
 hf:∀c,By c->c.length<1000000000->Sh (ff (c,())).2.1/\Sh (ff (c,())).2.2.1/\ShT (ff (c,())).2.2.2.1/\0< (ff (c,())).2.2.2.1.length
structure Y47(pp:Unit->Bool)(ff:Unit->Bool×Unit):Prop where
 hp:pp ()=true
 hf:ff ()=(true,())
structure Y48(pp:List Atom×List Atom×Unit->Bool)(ff:List Atom×List Atom×Unit->Bool×Unit):Prop where
 hp:∀a b,ShT a->pp (a,b,())=true
 hf:∀a b,ShT a->ff (a,b,())=(bp (a=b),())
def QS{d:List Int}{i j x:Int}(h1:0<=i)(h2:i<d.length)(h3:0<=j):((d.set i.toNat x).getD (j).toNat default)=if j=i then x else((d).getD (j).toNat default):=by
 simp only [List.getD];by_cases h:j=i
 .subst h;rw [if_pos rfl,List.getElem?_set_self ah];rfl
 .rw [if_neg h,List.getElem?_set_ne ah]
def Sz{d:List Int}{i j:Int}(h1:0<=i)(h2:i<d.length)(h3:0<=j)(h4:j<d.length)(h5:i≠j):((d.set i.toNat ((d).getD (j).toNat default)).set j.toNat ((d).getD (i).toNat default)).Perm d:=by
 rw [List.perm_iff_count];intro x;rw [getD_lt (show i.toNat<d.length by omega),getD_lt (show j.toNat<d.length by omega),List.count_set (by simp;omega),List.count_set ah,List.getElem_set_ne ah];have h6:(if d[i.toNat]==x then 1 else 0)<=List.count x d:=by
  split
  .rename_i h;exact List.count_pos_iff.2 (by rw [<-eq_of_beq h];exact List.getElem_mem _)
  .omega
 split<;>split<;>simp_all<;>omega
def agy{p f}(U:Y5 p f)(a b:Int)(d:List Int)(hd:d.length<1000000000)(h1:a=0)(h2:b=d.length):
  Oq.F (p,f,()) (a,b,d,()) (λy=>y.1=bU d):=by
 subst h1;dsimp only [Oq,gm];simp (disch:=omega) only [RR];have fin:∀e:List Int,e.Perm d->(∀q:Int,1<=q->q<e.length->((e).getD (q-1).toNat default)<=((e).getD (q).toNat default))->e=bU d:=λe g1 g2=>
  mO ((cO (d:=default) (R:=λa b:Int=>a<=b) (λh1 h2=>Int.le_trans h1 h2)).2 g2) g1
 refine ak (λ(y:Int×Int×Int×List Int×Unit)=>y.1=0/\y.2.1=b/\1<=y.2.2.1/\(y.2.2.1<=b\/y.2.2.1=1)/\y.2.2.2.1.Perm d/\∀q,1<=q->q<y.2.2.1->((y.2.2.2.1).getD (q-1).toNat default)<=((y.2.2.2.1).getD (q).toNat default)) (λy=>(b-y.2.2.1).toNat)
  ⟨rfl,rfl,by simp,Or.inr rfl,List.Perm.refl d,λq g1 g2=>by dsimp only at g2;omega⟩ ?_
 rintro⟨(a':Int),(b':Int),(i:Int),(e:List Int),⟨⟩⟩ hI;dsimp only at hI ⊢;obtain⟨rfl,rfl,h4,h5,h6,h7⟩:=hI;have hle:=h6.length_eq;simp (disch:=omega) only [RR];refine⟨λh9=> ?_,λh9=>fin e h6 λq g1 g2=>h7 q g1 ah⟩
 refine ak (λ(y:Int×Int×Int×Int×List Int×Unit)=>y.1=0/\y.2.1=b'/\y.2.2.1=i/\0<=y.2.2.2.1/\y.2.2.2.1<=i/\y.2.2.2.2.1.Perm d
   /\(∀q,1<=q->q<=i->q≠y.2.2.2.1->((y.2.2.2.2.1).getD (q-1).toNat default)<=((y.2.2.2.2.1).getD (q).toNat default))/\(1<=y.2.2.2.1->y.2.2.2.1+1<=i->((y.2.2.2.2.1).getD (y.2.2.2.1-1).toNat default)<=((y.2.2.2.2.1).getD (y.2.2.2.1+1).toNat default))) (λy=>y.2.2.2.1.toNat)
  ⟨rfl,rfl,rfl,by simp;omega,by simp,h6,λq g1 g2 g3=>h7 q g1 (by dsimp only at g3;omega),λg1 g2=>by dsimp only at g2;omega⟩ ?_
 rintro⟨(a'':Int),(b'':Int),(i':Int),(j:Int),(e':List Int),⟨⟩⟩ hI;dsimp only at hI ⊢;obtain⟨rfl,rfl,rfl,h10,h11,h12,h13,h14⟩:=hI;have hle':=h12.length_eq;simp (disch:=omega) only [RR,List.length_set,U.hp,U.hf]
 repeat' (refine And.intro ?_ ?_)
 all_goals try omega
 .intro ⟨g1,g2⟩;have at2:∀k,0<=k->(((e'.set j.toNat ((e').getD (j-1).toNat default)).set (j-1).toNat ((e').getD (j).toNat default)).getD (k).toNat default)=if k=j-1 then((e').getD (j).toNat default)else if k=j then((e').getD (j-1).toNat default)else((e').getD (k).toNat default):=λk hk=>by
   rw [QS ah (by simp;omega) hk,QS ah ah hk]
  repeat' (refine And.intro ?_ ?_)
  all_goals try omega
  .exact(Sz ah ah ah ah ah).trans h12
  .intro q k1 k2 k3;rw [at2 _ ah,at2 _ ah];by_cases c1:q=j
   .subst c1;rw [if_pos rfl,if_neg ah,if_pos rfl];omega
   .rw [if_neg ah];by_cases c2:q=j+1
    .subst c2;rw [if_pos ah,if_neg ah,if_neg ah];exact h14 ah ah
    .rw [if_neg ah,if_neg ah,if_neg ah];exact h13 q k1 k2 c1
  .intro k1 k2;rw [at2 _ ah,at2 _ ah,if_neg ah,if_neg ah,if_neg ah,if_pos ah];have:=h13 (j-1) ah ah ah;exact this
 .intro g;refine⟨⟨ah,ah,h12,λq k1 k2=> ?_⟩,ah⟩;by_cases c:q=j
  .subst c;rw [Bool.and_eq_false_iff,decide_eq_false_iff_not,decide_eq_false_iff_not]at g;omega
  .exact h13 q k1 ah c
def agz{p:Int×Int×Unit->Bool}{f:Int×Int×Unit->Bool×Unit}
  {p1:Int×Int×List Int×Unit->Bool} {f1:Int×Int×List Int×Unit->List Int×Unit} (hp1:∀(a b:Int) (d:List Int),d.length<1000000000->a=0->b=d.length->p1 (a,b,d,())=true) (hf1:∀(a b:Int) (d:List Int),d.length<1000000000->a=0->b=d.length->(f1 (a,b,d,())).1=bU d)
  (p2 p3 f2 f3 p4 f4 p5 f5 p6 f6 p7 f7 p8 f8 p9 f9) (a b k:Int) (d:List Int) (hd:d.length<=12) (h1:a=0) (h2:b=d.length):
  Ou.F (p,f,p1,f1,p2,f2,p3,f3,p4,f4,p5,f5,p6,f6,p7,f7,p8,f8,p9,f9,()) (a,b,k,d,()) (λy=>y.1=bU d):=by
 subst h1;dsimp only [Ou,gm];simp (disch:=omega) only [RR];refine ak (λ(y:Int×Int×Int×Bool×Bool×List Int×Unit)=>y.1=0/\y.2.1=b/\y.2.2.2.2.2.1=d) (λy=>0) ⟨rfl,rfl,rfl⟩ ?_;rintro⟨(a':Int),(b':Int),(k':Int),(u:Bool),(v:Bool),(e:List Int),⟨⟩⟩ hI;dsimp only at hI ⊢;obtain⟨rfl,rfl,rfl⟩:=hI;simp (disch:=omega) only [RR];exact⟨λ_=>⟨hp1 0 b' e ah rfl h2,hf1 0 b' e ah rfl h2⟩,λh=>absurd h ah⟩
def agA{p1:Int×Int×Int×List Int×Unit->Bool}{f1:Int×Int×Int×List Int×Unit->List Int×Unit}(hp1:∀(a b k:Int) (d:List Int),d.length<=12->a=0->b=d.length->p1 (a,b,k,d,())=true)(hf1:∀(a b k:Int) (d:List Int),d.length<=12->a=0->b=d.length->(f1 (a,b,k,d,())).1=bU d)
  {p2:Int×Unit->Bool} {f2:Int×Unit->Int×Unit} (hp2:∀n,0<=n->n<=18446744073709551615->p2 (n,())=true) (a:List Int) (ha:a.length<=8):
  Ov.F (p1,f1,p2,f2,()) (a,()) (λy=>y=(bU a,())):=by
 dsimp only [Ov,gm];have e:IntKind.u64.wrap (a.length:Int)=(a.length:Int):=IntWalk.u64_in _ ah;refine⟨?_,hp1 _ _ _ _ ah rfl rfl,by rw [hf1 _ _ _ _ ah rfl rfl]⟩;rw [e];exact hp2 _ ah ah
def wOK(l:List Int):Prop:=∀z∈l,0<=z/\z<=65535
def wOK.at{l:List Int}(h:wOK l)(n:Nat):0<=l.getD n default/\l.getD n default<=65535:=by
 by_cases hn:n<l.length
 .rw [getD_lt hn];exact h _ (List.getElem_mem _)
 .rw [List.getD,List.getElem?_eq_none ah];decide
def XQ(v:List Int)(k:Int):Int:=if k<v.length then((v).getD (k).toNat default)else 0
def evM(v:List Int)(c:Int)(l:List Int):Int:=l.foldl (λc k=>c*XQ v k%65536) c
def evF(v:List Int)(p:List aj):Int:=p.foldl (λs m=>(s+evM v m.bA m.atoms)%65536) 0
structure Y49(pp:List Int×Unit->Bool)(ff:List Int×Unit->Bool×Unit):Prop where
 hp:∀a,a.length<1000000000->pp (a,())=true
 hf:∀a,a.length<1000000000->ff (a,())=(bp (wOK a),())
structure Y50(pp:List aj×List Int×Unit->Bool)(ff:List aj×List Int×Unit->Int×Unit):Prop where
 hp:∀a v,aJ a->wOK v->v.length<1000000000->pp (a,v,())=true
 hf:∀a v,aJ a->wOK v->v.length<1000000000->ff (a,v,())=(evF v a,())
def aVal(regs loads ins out:List Int)(a:Atom):Int:=
 if a.kind=1 then XQ regs a.k else if a.kind=2 then XQ loads a.k else if a.kind=3 then XQ ins a.k else wdo a.k (evF out a.x) (evF out a.y)
def tv(regs loads ins:List Int)(t:List Atom):List Int:=t.foldl (λo a=>o++ [aVal regs loads ins o a]) []
def wOK.snoc{l:List Int}(h:wOK l){x:Int}(hx:0<=x/\x<=65535):wOK (l++ [x]):=λz hz=>by
 rw [List.mem_append,List.mem_singleton]at hz;rcases hz with hz | rfl
 .exact h z hz
 .exact hx
def ins(c:Int)(at_:List Int):List aj->List aj
 | []=>if c%65536=0 then []else [⟨c%65536,at_⟩]
 | m::o=>if bZ at_ m.atoms<0 then(if c%65536=0 then m::o else⟨c%65536,at_⟩::m::o)
  else if at_=m.atoms then(if(c+m.bA)%65536=0 then o else⟨(c+m.bA)%65536,at_⟩::o)else m::ins c at_ o
def XR{c:Int}{a:List Int}{x:aj}(hx:bZ x.atoms a<0):∀ {o:List aj},(∀y∈o,lt x y)->∀y∈ins c a o,lt x y
 | [],_,y,hy=>by
  unfold ins at hy;split at hy
  .cases hy
  .rw [List.mem_singleton]at hy;subst hy;exact hx
 | m::o,h,y,hy=>by
  unfold ins at hy;split at hy
  .split at hy
   .exact h y hy
   .rcases List.mem_cons.1 hy with rfl | hy
    .exact hx
    .exact h y hy
  .split at hy
   .split at hy
    .exact h y (List.mem_cons_of_mem _ hy)
    .rcases List.mem_cons.1 hy with rfl | hy
     .exact hx
     .exact h y (List.mem_cons_of_mem _ hy)
   .rcases List.mem_cons.1 hy with rfl | hy
    .exact h _ (List.mem_cons_self ..)
    .exact XR hx (λz hz=>h z (List.mem_cons_of_mem _ hz)) y hy
def XU(c:Int)(a:List Int):∀ {o:List aj},Nf o->Nf (ins c a o)/\∀k,cf (ins c a o) k=((if a=k then c else 0)+cf o k)%65536
 | [],h=>by
  unfold ins;by_cases h1:c%65536=0
  .rw [if_pos h1];exact⟨h,λk=>by rw [iF];split<;>omega⟩
  .rw [if_neg h1];refine⟨⟨List.pairwise_singleton _ _,λm hm=>by rw [List.mem_singleton]at hm;subst hm;dsimp only;omega⟩,λk=> ?_⟩;rw [aR,iF];dsimp only;split<;>omega
 | m::o,h=>by
  have hb:=h.bnd;have ho:Nf o:=⟨h.ss.tail,λx hx=>h.co x (List.mem_cons_of_mem _ hx)⟩;have hm:=h.co m (List.mem_cons_self ..);unfold ins;by_cases h1:bZ a m.atoms<0
  .rw [if_pos h1];by_cases h2:c%65536=0
   .rw [if_pos h2];exact⟨h,λk=>by have:=hb k;split<;>omega⟩
   .rw [if_neg h2];have g:Nf (⟨c%65536,a⟩::m::o):=⟨List.pairwise_cons.2 ⟨λy hy=>by
     rcases List.mem_cons.1 hy with rfl | hy
     .exact h1
     .exact dV (b:=m) h1 (List.rel_of_pairwise_cons h.ss hy),h.ss⟩,λx hx=>by
     rcases List.mem_cons.1 hx with rfl | hx
     .dsimp only;omega
     .exact h.co x hx⟩
    refine⟨g,λk=> ?_⟩;have hk:=hb k;have gk:=g.bnd k;rw [aR]at gk ⊢;dsimp only at gk ⊢;split<;>split at gk<;>omega
  .rw [if_neg h1];by_cases h2:a=m.atoms
   .rw [if_pos h2];by_cases h3:(c+m.bA)%65536=0
    .rw [if_pos h3];refine⟨ho,λk=> ?_⟩;have ok:=ho.bnd k;have hk:=hb k;rw [aR]at hk ⊢;rw [h2];by_cases h4:m.atoms=k
     .rw [if_pos h4,if_pos h4];have:cf o k=0:=fZ λx hx e=>(List.rel_of_pairwise_cons h.ss hx:lt m x).ne (h4.trans e.symm)
      omega
     .rw [if_neg h4,if_neg h4];omega
    .rw [if_neg h3];have g:Nf (⟨(c+m.bA)%65536,a⟩::o):=⟨List.pairwise_cons.2 ⟨λy hy=>by
      have:lt m y:=List.rel_of_pairwise_cons h.ss hy;unfold lt at this ⊢;rw [h2];exact this,ho.ss⟩,λx hx=>by
      rcases List.mem_cons.1 hx with rfl | hx
      .dsimp only;omega
      .exact ho.co x hx⟩
     refine⟨g,λk=> ?_⟩;have ok:=ho.bnd k;rw [aR,aR];dsimp only;rw [h2];by_cases h4:m.atoms=k
     .rw [if_pos h4,if_pos h4,if_pos h4];have:cf o k=0:=fZ λx hx e=>(List.rel_of_pairwise_cons h.ss hx:lt m x).ne (h4.trans e.symm)
      omega
     .rw [if_neg h4,if_neg h4,if_neg h4];omega
   .rw [if_neg h2];obtain⟨i1,i2⟩:=XU c a ho;have hlt:bZ m.atoms a<0:=by
     have:=jE m.atoms a;by_cases z:bZ m.atoms a=0
     .exact absurd (gQ.1 z).symm h2
     .omega
    refine⟨⟨List.pairwise_cons.2 ⟨XR hlt (λy hy=>List.rel_of_pairwise_cons h.ss hy),i1.ss⟩,λx hx=>by
     rcases List.mem_cons.1 hx with rfl | hx
     .exact hm
     .exact i1.co x hx⟩,λk=> ?_⟩
    rw [aR,aR,i2 k];by_cases h4:m.atoms=k
    .have:cf o k=0:=fZ λx hx e=>(List.rel_of_pairwise_cons h.ss hx:lt m x).ne (h4.trans e.symm)
     rw [if_pos h4,if_neg (by rw [<-h4];exact h2),this];omega
    .rw [if_neg h4];omega
def adf:∀l:List aj,∃o,Nf o/\∀k,cf o k=cf l k%65536
 | []=>⟨[],⟨List.Pairwise.nil,λm hm=>by cases hm⟩,λk=>rfl⟩
 | m::l=>by
  obtain⟨o,h1,h2⟩:=adf l;obtain⟨g1,g2⟩:=XU m.bA m.atoms h1;refine⟨_,g1,λk=> ?_⟩;rw [g2,aR,h2];split<;>omega
def HY(l:List aj):Nf (nf l)/\∀k,cf (nf l) k=cf l k%65536:=by
 obtain⟨o,h1,h2⟩:=adf l;rw [DW h1 h2];exact⟨h1,h2⟩
def XV{op:Int}(hop:1<=op/\op<=5){x y:List aj}(hx:aJ x)(hy:aJ y):aJ (eP op x y).1:=by
 unfold eP;split
 .exact QN _ _
 .split
  .exact QN _ _
  .split
   .exact abR _ _
   .unfold tN
    repeat' split
    all_goals first | exact jG _ | exact dM | assumption
structure Y51(pp:List aj×List Int×Unit->Bool)(ff:List aj×List Int×Unit->Int×Unit):Prop where
 hp:∀a v,Sh a->v.length<1000000000->pp (a,v,())=true
 hf:∀a v,Sh a->v.length<1000000000->ff (a,v,())=(if bp (aJ a/\wOK v)then evF v a else 0,())
abbrev hX(o : IOp) : Prop := o.kind ≠ 1 /\ o.kind ≠ 2 /\ o.kind ≠ 6
abbrev hY(o : IOp) : Prop := o.kind = 3 \/ o.kind = 5
abbrev mkV(o : IOp) : Prop := (1 <= o.kind /\ o.kind <= 4) \/ o.kind = 6
abbrev evO(o : IOp) : Prop := 4 <= o.kind /\ o.kind <= 7
def Vl(ops:List IOp)(x n:Int):Prop:=0<=x/\x<n/\mkV ((ops).getD (x).toNat default)
structure nC(ops:List IOp)(len i:Int)(o:IOp):Prop where
 kd:1<=o.kind/\o.kind<=8
 x1:hX o->Vl ops o.x i
 x0:¬hX o->o.x=0
 y1:hY o->Vl ops o.y i
 y0:¬hY o->o.y=0
 k1:o.kind=1->0<=o.k/\o.k<=65535
 k2:o.kind=2\/o.kind=8->0<=o.k/\o.k<=3
 k3:o.kind=3->1<=o.k/\o.k<=5
 k0:4<=o.kind->o.kind<=7->o.k=0
 a1:evO o->0<=o.at_/\o.at_<len
 a0:¬evO o->o.at_=0
structure yK(b:Blk):Prop where
 f:1<=b.fin/\b.fin<=4
 x1:b.fin≠1->Vl b.ops b.x b.ops.length
 x0:b.fin=1->b.x=0
 y1:3<=b.fin->Vl b.ops b.y b.ops.length
 y0:b.fin<=2->b.y=0
 k1:b.fin≠2->0<=b.k/\b.k<=65535
 k0:b.fin=2->b.k=0
structure iD(b:Blk):Prop where
 ln:1<=b.len/\b.len<=8
 pc:0<=b.pc/\b.pc<=64-b.len
 sz:b.ops.length<=48
 op:∀i:Int,0<=i->i<b.ops.length->nC b.ops b.len i ((b.ops).getD (i).toNat default)
 en:yK b
structure SS where
 t:List Atom
 regs:List (List aj)
 vals:List (List aj)
 ld:Int
 inn:Int
 evs:List Ev
def xOf(s:SS)(o:IOp):List aj:=if hX o then((s.vals).getD (o.x).toNat default)else []
def yOf(s:SS)(o:IOp):List aj:=if hY o then((s.vals).getD (o.y).toNat default)else []
def aOf(s:SS)(o:IOp):Atom:=if o.kind=4 then⟨2,s.ld,[],[]⟩else⟨3,s.inn,[],[]⟩
noncomputable def nT (s:SS) (o:IOp):List Atom:=if o.kind=3 then(tDo s.t o.k (xOf s o) (yOf s o)).1 else if o.kind=4\/o.kind=6 then(aQ s.t (aOf s o)).1 else s.t
noncomputable def nV (s:SS) (o:IOp):List aj:=if o.kind=1 then bR o.k else if o.kind=2 then((s.regs).getD (o.k).toNat default)else if o.kind=3 then(tDo s.t o.k (xOf s o) (yOf s o)).2 else if o.kind=4\/o.kind=6 then dx (aQ s.t (aOf s o)).2 else []
def nR(s:SS)(o:IOp):List (List aj):=if o.kind=8 then s.regs.set o.k.toNat (xOf s o)else s.regs
def nE(s:SS)(o:IOp):List Ev:=if evO o then s.evs++ [⟨o.kind,o.at_,xOf s o,yOf s o,if o.kind=4\/o.kind=5 then s.regs else []⟩]else s.evs
noncomputable def stp (s:SS) (o:IOp):SS:=⟨nT s o,nR s o,s.vals++ [nV s o],if o.kind=4 then s.ld+1 else s.ld,if o.kind=6 then s.inn+1 else s.inn,nE s o⟩
noncomputable def rN (t:List Atom):Nat->List Atom×List (List aj)
 | 0=>(t,[])
 | n+1=>((aQ (rN t n).1 ⟨1,n,[],[]⟩).1,(rN t n).2++ [dx (aQ (rN t n).1 ⟨1,n,[],[]⟩).2])
noncomputable def s0 (t:List Atom):SS:=⟨(rN t 4).1,(rN t 4).2,[],0,0,[]⟩
noncomputable def gJ (t:List Atom) (b:Blk):SS:=b.ops.foldl stp (s0 t)
def yL(b:Blk)(s:SS):Sym:=⟨s.evs,s.regs,b.fin,if b.fin=1 then []else((s.vals).getD (b.x).toNat default),if 3<=b.fin then((s.vals).getD (b.y).toNat default)else [],b.k⟩
def SA:Sym:=⟨[],[],0,[],[],0⟩
noncomputable def symEnd (s:Sym) (behind:Int):Sym:=
 if bp (aJ s.x/\aJ s.y)=false then SA
 else if s.fin=2/\(bW s.x).2=true then⟨s.events,s.regs,1,[],[],(bW s.x).1⟩
 else if s.fin≠3/\s.fin≠4 then s
 else if s.x=s.y\/(bW s.x).2=true/\(bW s.y).2=true then
  ⟨s.events,s.regs,1,[],[],if s.x=s.y/\s.fin=3\/((bW s.x).2=true/\(bW s.y).2=true)/\(s.fin=3/\(bW s.x).1=(bW s.y).1\/s.fin=4/\(bW s.x).1< (bW s.y).1)then s.k else behind⟩
 else if s.fin=3/\0<eH s.x s.y then⟨s.events,s.regs,s.fin,s.y,s.x,s.k⟩else s
noncomputable def bO (t:List Atom) (b:Blk):List Atom×Sym:=if bp (aF t/\t.length<=100/\iD b)=true then((gJ t b).t,symEnd (yL b (gJ t b)) (b.pc+b.len))else([],SA)
def tQ(t:List Atom)(a:Atom):t<+:(aQ t a).1:=by
 unfold aQ;split
 .exact List.prefix_refl _
 .split
  .exact List.prefix_refl _
  .exact List.prefix_append _ _
def nZ{α:Type}{a b:List α}(h:a<+:b):a.length<=b.length:=h.length_le
def agB{α:Type}{d:α}{a b:List α}(h:a<+:b){i:Int}(h1:i.toNat<a.length):b.getD i.toNat d=a.getD i.toNat d:=by
 obtain⟨c,rfl⟩:=h;rw [getD_lt h1,getD_lt (by rw [List.length_append];omega),List.getElem_append_left h1]
def qL{t:List Atom}{a:Atom}(h:0<=(aQ t a).2):(aQ t a).2< (aQ t a).1.length/\(((aQ t a).1).getD ((aQ t a).2).toNat default)=a:=by
 have hsp:=iL t a
 revert h
 unfold aQ;split
 .intro h;rcases hsp with⟨h1,_⟩ | ⟨_,h2,h3,_⟩
  .exact absurd h (by dsimp only;omega)
  .exact⟨h2,h3.symm⟩
 .split
  .intro h;exact absurd h (by dsimp only;omega)
  .intro _;dsimp only;refine⟨by rw [List.length_append];simp only [List.length_cons,List.length_nil];omega,?_⟩;rw [getD_lt (by rw [List.length_append];simp only [List.length_cons,List.length_nil];omega)];simp
def OC{u:List Atom}{a:Atom}(hu:aF u){k:Int}(h0:0<=k)(h1:k<u.length)(h2:((u).getD (k).toNat default)=a):aQ u a=(u,k):=by
 have hf:nX u a=k:=by
  refine(iL u a).uniq (Or.inr ⟨h0,h1,h2.symm,λj j1 j2=> ?_⟩);have:=(iE.1 hu).1 k h0 h1;have g:=this.2 j j1 j2;dsimp only at g ⊢;rw [h2]at g;exact g
 unfold aQ;rw [hf,if_pos h0]
def yM{t u:List Atom}{a:Atom}(hu:aF u)(h:0<=(aQ t a).2)(hp:(aQ t a).1<+:u):aQ u a=(u,(aQ t a).2):=by
 obtain⟨g1,g2⟩:=qL h;have:=nZ hp;exact OC hu h ah (by rw [agB hp ah,g2])
def J4{op n:Int}{x y:List aj}(ux:aU x n)(uy:aU y n):aU (eP op x y).1 n:=by
 unfold eP;split
 .exact D6 ux uy
 .split
  .refine D6 ux ?_;unfold gF;split
   .exact D7 uy (tO _ _)
   .exact iR _
  .split
   .exact D7 ux uy
   .unfold tN
    repeat' split
    all_goals first | exact ux | exact uy | exact iR _ | exact tO _ _
structure agC(t:List Atom)(op:Int)(x y:List aj):Prop where
 tok:aF (tDo t op x y).1
 pre:t<+:(tDo t op x y).1
 len:(tDo t op x y).1.length<=t.length+1
 pok:aJ (tDo t op x y).2
 und:aU (tDo t op x y).2 (tDo t op x y).1.length
 ok:tOk t op x y=true
def abS{t:List Atom}{op:Int}{x y:List aj}(h:aF t)(h2:t.length<200)(h3:1<=op/\op<=5)(hx:aJ x)(hy:aJ y)(ux:aU x t.length)(uy:aU y t.length):agC t op x y:=by
 by_cases c:(eP op x y).2=true
 .have e:tDo t op x y=(t,(eP op x y).1):=by unfold tDo;rw [if_pos c]
  refine⟨?_,?_,?_,?_,?_,by unfold tOk;rw [c];rfl⟩<;>rw [e]
  .exact h
  .exact List.prefix_refl _
  .exact Nat.le_succ _
  .exact XV h3 hx hy
  .exact J4 ux uy
 .have key:∀x' y',aJ x'->aJ y'->aU x' t.length->aU y' t.length->0<=(aQ t ⟨4,op,x',y'⟩).2/\aF (aQ t ⟨4,op,x',y'⟩).1/\(aQ t ⟨4,op,x',y'⟩).1.length<=t.length+1:=λx' y' a1 a2 a3 a4=>by
   have p1:=yJ (a:=⟨4,op,x',y'⟩) h h2;have q1:=p1.2.2.2 (by unfold fT;rw [if_pos rfl];exact⟨h3,a1,a2,a3,a4⟩);exact⟨q1,p1.1,p1.2.2.1⟩
  by_cases c2:op≠2/\0<eH x y
  .obtain⟨k1,k2,k3⟩:=key y x hy hx uy ux;have e:tDo t op x y=((aQ t ⟨4,op,y,x⟩).1,dx (aQ t ⟨4,op,y,x⟩).2):=by unfold tDo;rw [if_neg c,if_pos c2,if_neg ah]
   refine⟨?_,?_,?_,?_,?_,by unfold tOk;rw [if_pos c2,decide_eq_false ah,Bool.not_false,Bool.or_true]⟩<;>rw [e]
   .exact k2
   .exact tQ _ _
   .exact k3
   .exact jm _
   .exact qJ (qL k1).1
  .obtain⟨k1,k2,k3⟩:=key x y hx hy ux uy;have e:tDo t op x y=((aQ t ⟨4,op,x,y⟩).1,dx (aQ t ⟨4,op,x,y⟩).2):=by unfold tDo;rw [if_neg c,if_neg c2,if_neg ah]
   refine⟨?_,?_,?_,?_,?_,by unfold tOk;rw [if_neg c2,decide_eq_false ah,Bool.not_false,Bool.or_true]⟩<;>rw [e]
   .exact k2
   .exact tQ _ _
   .exact k3
   .exact jm _
   .exact qJ (qL k1).1
def XW{t u:List Atom}{op:Int}{x y:List aj}(hu:aF u)(h:tOk t op x y=true)(hp:(tDo t op x y).1<+:u):tDo u op x y=(u,(tDo t op x y).2):=by
 by_cases c:(eP op x y).2=true
 .unfold tDo;rw [if_pos c,if_pos c]
 .by_cases c2:op≠2/\0<eH x y
  .have k1:0<=(aQ t ⟨4,op,y,x⟩).2:=by
    unfold tOk at h;rw [if_pos c2,Bool.or_eq_true,Bool.not_eq_true',decide_eq_false_iff_not]at h;have:=h.resolve_left c;omega
   have e:tDo t op x y=((aQ t ⟨4,op,y,x⟩).1,dx (aQ t ⟨4,op,y,x⟩).2):=by unfold tDo;rw [if_neg c,if_pos c2,if_neg ah]
   rw [e]at hp ⊢;have:=yM hu k1 hp;unfold tDo;rw [if_neg c,if_pos c2,this,if_neg (by dsimp only;omega)]
  .have k1:0<=(aQ t ⟨4,op,x,y⟩).2:=by
    unfold tOk at h;rw [if_neg c2,Bool.or_eq_true,Bool.not_eq_true',decide_eq_false_iff_not]at h;have:=h.resolve_left c;omega
   have e:tDo t op x y=((aQ t ⟨4,op,x,y⟩).1,dx (aQ t ⟨4,op,x,y⟩).2):=by unfold tDo;rw [if_neg c,if_neg c2,if_neg ah]
   rw [e]at hp ⊢;have:=yM hu k1 hp;unfold tDo;rw [if_neg c,if_neg c2,this,if_neg (by dsimp only;omega)]
structure SI(n:Int)(i:Nat)(s:SS):Prop where
 tok:aF s.t
 tl:(s.t.length:Int)<=n+i
 r4:s.regs.length=4
 rok:∀p∈s.regs,aJ p/\aU p s.t.length
 vl:s.vals.length=i
 vok:∀p∈s.vals,aJ p/\aU p s.t.length
 ld:0<=s.ld/\s.ld<=i
 inn:0<=s.inn/\s.inn<=i
def xC{l:List (List aj)}{n:Int}(h:∀p∈l,aJ p/\aU p n)(i:Int):aJ ((l).getD (i).toNat default)/\aU ((l).getD (i).toNat default) n:=by
 by_cases c:i.toNat<l.length
 .rw [getD_lt c];exact h _ (List.getElem_mem _)
 .rw [List.getD_eq_getElem?_getD,List.getElem?_eq_none ah];exact⟨dM,iR _⟩
def SI.x{n:Int}{i:Nat}{s:SS}(h:SI n i s)(o:IOp):aJ (xOf s o)/\aU (xOf s o) s.t.length:=by
 unfold xOf;split
 .exact xC h.vok _
 .exact⟨dM,iR _⟩
def SI.y{n:Int}{i:Nat}{s:SS}(h:SI n i s)(o:IOp):aJ (yOf s o)/\aU (yOf s o) s.t.length:=by
 unfold yOf;split
 .exact xC h.vok _
 .exact⟨dM,iR _⟩
def QT{n:Int}{i:Nat}{s:SS}(h:SI n i s)(hi:i<200)(o:IOp)(m:Int):fT (aOf s o) m:=by
 have h1:=h.ld;have h2:=h.inn;unfold aOf;split
 .unfold fT;rw [if_neg (by simp)];exact⟨⟨rfl,rfl⟩,Or.inr ⟨Or.inl rfl,by dsimp only;omega,by dsimp only;omega⟩⟩
 .unfold fT;rw [if_neg (by simp)];exact⟨⟨rfl,rfl⟩,Or.inr ⟨Or.inr rfl,by dsimp only;omega,by dsimp only;omega⟩⟩
structure SOK(s:SS)(o:IOp):Prop where
 pre:s.t<+:(stp s o).t
 d:o.kind=3->agC s.t o.k (xOf s o) (yOf s o)
 p:o.kind=4\/o.kind=6->0<=(aQ s.t (aOf s o)).2
def tT{n:Int}{i:Nat}{s:SS}{o:IOp}(h:SI n i s)(hk:o.kind=3->1<=o.k/\o.k<=5)(hn:n+i<200)(hi:i<200):SI n (i+1) (stp s o)/\SOK s o:=by
 have hl:=h.tl;have tl:s.t.length<200:=by omega
 have hd:o.kind=3->agC s.t o.k (xOf s o) (yOf s o):=λe=>abS h.tok tl (hk e) (h.x o).1 (h.y o).1 (h.x o).2 (h.y o).2
 have hput:=yJ (a:=aOf s o) h.tok tl;have hp:=hput.2.2.2 (QT h hi o _);have T:aF (nT s o)/\(nT s o).length<=s.t.length+1/\s.t<+:nT s o:=by
  unfold nT;split
  .rename_i e;have:=hd e;exact⟨this.tok,this.len,this.pre⟩
  .split
   .exact⟨hput.1,hput.2.2.1,tQ _ _⟩
   .exact⟨h.tok,Nat.le_succ _,List.prefix_refl _⟩
 have up:∀ {p:List aj},aJ p/\aU p s.t.length->aJ p/\aU p (nT s o).length:=λhp=>⟨hp.1,vB hp.2 (by have:=nZ T.2.2;omega)⟩
 have V:aJ (nV s o)/\aU (nV s o) (nT s o).length:=by
  unfold nV;split
  .exact⟨jG _,tO _ _⟩
  .split
   .exact up (xC h.rok _)
   .split
    .rename_i e;have:=hd e;refine⟨this.pok,?_⟩;have e2:nT s o=(tDo s.t o.k (xOf s o) (yOf s o)).1:=by unfold nT;rw [if_pos e]
     rw [e2];exact this.und
    .split
     .rename_i e1 e2;have e3:nT s o=(aQ s.t (aOf s o)).1:=by unfold nT;rw [if_neg ah,if_pos e2]
      rw [e3];exact⟨jm _,qJ (qL hp).1⟩
     .exact⟨dM,iR _⟩
 have g1:=h.ld;have g2:=h.inn;refine⟨⟨T.1,?_,?_,?_,?_,?_,?_,?_⟩,⟨T.2.2,hd,λ_=>hp⟩⟩
 .have:=T.2.1;show((nT s o).length:Int)<=_;omega
 .show(nR s o).length=4;unfold nR;split
  .rw [List.length_set];exact h.r4
  .exact h.r4
 .show∀p∈nR s o,_;intro p hp;unfold nR at hp;split at hp
  .rcases List.mem_or_eq_of_mem_set hp with hp | rfl
   .exact up (h.rok p hp)
   .exact up (h.x o)
  .exact up (h.rok p hp)
 .show(s.vals++ [nV s o]).length=i+1;rw [List.length_append,h.vl];rfl
 .show∀p∈s.vals++ [nV s o],_;intro p hp;rw [List.mem_append,List.mem_singleton]at hp;rcases hp with hp | rfl
  .exact up (h.vok p hp)
  .exact V
 .show 0<=(if o.kind=4 then s.ld+1 else s.ld)/\(if o.kind=4 then s.ld+1 else s.ld)<=_;split<;>omega
 .show 0<=(if o.kind=6 then s.inn+1 else s.inn)/\(if o.kind=6 then s.inn+1 else s.inn)<=_;split<;>omega
def tV{n:Int}:∀(ops:List IOp) (i:Nat) (s:SS),SI n i s->(∀o∈ops,o.kind=3->1<=o.k/\o.k<=5)->n+i+ops.length<=200->i+ops.length<=200->SI n (i+ops.length) (ops.foldl stp s)/\s.t<+:(ops.foldl stp s).t
 | [],i,s,h,_,_,_=>⟨h,List.prefix_refl _⟩
 | o::r,i,s,h,hk,h1,h2=>by
  rw [List.length_cons]at h1 h2;obtain⟨a1,a2⟩:=tT h (hk o List.mem_cons_self) ah ah;obtain⟨b1,b2⟩:=tV r (i+1) (stp s o) a1 (λo ho=>hk o (List.mem_cons_of_mem _ ho)) ah ah;rw [List.foldl_cons,List.length_cons,show i+(r.length+1)=i+1+r.length by omega];exact⟨b1,a2.pre.trans b2⟩
structure RI(t:List Atom)(n:Nat)(r:List Atom×List (List aj)):Prop where
 tok:aF r.1
 tl:r.1.length<=t.length+n
 pre:t<+:r.1
 r4:r.2.length=n
 rok:∀p∈r.2,aJ p/\aU p r.1.length
def Ba{t:List Atom}(h:aF t)(hl:t.length<=196):∀n:Nat,n<=4->RI t n (rN t n)
 | 0,_=>⟨h,Nat.le_refl _,List.prefix_refl _,rfl,λp hp=>absurd hp (by simp [rN])⟩
 | n+1,hn=>by
  have ih:=Ba h hl n ah;have l:=ih.tl;have hp:=yJ (a:=⟨1,n,[],[]⟩) ih.tok ah;have h0:=hp.2.2.2 (by unfold fT;rw [if_neg (by simp)];exact⟨⟨rfl,rfl⟩,Or.inl ⟨rfl,by dsimp only;omega,by dsimp only;omega⟩⟩);have pr:=tQ (rN t n).1 ⟨1,n,[],[]⟩;unfold rN;refine⟨hp.1,?_,ih.pre.trans pr,?_,λp h=> ?_⟩
  .have:=hp.2.2.1;dsimp only;omega
  .dsimp only;rw [List.length_append,ih.r4];rfl
  .dsimp only at h ⊢;rw [List.mem_append,List.mem_singleton]at h;rcases h with h | rfl
   .have:=ih.rok p h;exact⟨this.1,vB this.2 (by have:=nZ pr;omega)⟩
   .exact⟨jm _,qJ (qL h0).1⟩
def HZ{t:List Atom}(h:aF t)(hl:t.length<=196){n:Nat}(hn:n<4):0<=(aQ (rN t n).1 ⟨1,n,[],[]⟩).2:=by
 have ih:=Ba h hl n ah;have l:=ih.tl;exact(yJ (a:=⟨1,n,[],[]⟩) ih.tok ah).2.2.2 (by unfold fT;rw [if_neg (by simp)];exact⟨⟨rfl,rfl⟩,Or.inl ⟨rfl,by dsimp only;omega,by dsimp only;omega⟩⟩)
def FD{t:List Atom}(h:aF t)(hl:t.length<=196):SI (t.length+4) 0 (s0 t):=by
 have:=Ba h hl 4 ah;have l:=this.tl;exact⟨this.tok,by show((rN t 4).1.length:Int)<=_;omega,this.r4,this.rok,rfl,λp hp=>absurd hp (by simp [s0]),by simp [s0],by simp [s0]⟩
def iD.k3{b:Blk}(h:iD b):∀o∈b.ops,o.kind=3->1<=o.k/\o.k<=5:=λo ho=>by
 obtain⟨i,hi,rfl⟩:=List.getElem_of_mem ho;have:=(h.op i ah ah).k3;rw [show(i:Int).toNat=i from rfl,getD_lt hi]at this;exact this
def QU{t:List Atom}{b:Blk}(h:aF t)(hl:t.length<=100)(hb:iD b):SI (t.length+4) b.ops.length (gJ t b)/\t<+:(gJ t b).t:=by
 have sz:=hb.sz;obtain⟨h1,h2⟩:=tV b.ops 0 (s0 t) (FD h ah) hb.k3 ah ah;rw [Nat.zero_add]at h1;exact⟨h1,(Ba h ah 4 ah).pre.trans h2⟩
def SS.on(s:SS)(u:List Atom):SS:=⟨u,s.regs,s.vals,s.ld,s.inn,s.evs⟩
theorem agD{s:SS}{o:IOp}{u:List Atom}(hu:aF u)(h:SOK s o)(hp:(stp s o).t<+:u):stp (s.on u) o=(stp s o).on u:=by
 have hp:nT s o<+:u:=hp;have ex:xOf (s.on u) o=xOf s o:=rfl;have ey:yOf (s.on u) o=yOf s o:=rfl;have ea:aOf (s.on u) o=aOf s o:=rfl;have eT:nT (s.on u) o=u:=by
  unfold nT;split
  .rename_i e;rw [ex,ey];have h3:=(h.d e).ok;unfold nT at hp;rw [if_pos e]at hp;rw [show(s.on u).t=u from rfl,XW hu h3 hp]
  .split
   .rename_i e1 e2;unfold nT at hp;rw [if_neg e1,if_pos e2]at hp;rw [ea,show(s.on u).t=u from rfl,yM hu (h.p e2) hp]
   .rfl
 have eV:nV (s.on u) o=nV s o:=by
  unfold nV;split
  .rfl
  .split
   .rfl
   .split
    .rename_i e;rw [ex,ey];have h3:=(h.d e).ok;unfold nT at hp;rw [if_pos e]at hp;rw [show(s.on u).t=u from rfl,XW hu h3 hp]
    .split
     .rename_i e1 e2;unfold nT at hp;rw [if_neg e1,if_pos e2]at hp;rw [ea,show(s.on u).t=u from rfl,yM hu (h.p e2) hp]
     .rfl
 show SS.mk (nT (s.on u) o) (nR (s.on u) o) ((s.on u).vals++ [nV (s.on u) o]) _ _ (nE (s.on u) o)=SS.mk u (nR s o) (s.vals++ [nV s o]) _ _ (nE s o);rw [eT,eV];rfl
def XY{n:Int}{u:List Atom}(hu:aF u):∀(ops:List IOp) (i:Nat) (s:SS),SI n i s->(∀o∈ops,o.kind=3->1<=o.k/\o.k<=5)->n+i+ops.length<=200->i+ops.length<=200->(ops.foldl stp s).t<+:u->ops.foldl stp (s.on u)=(ops.foldl stp s).on u
 | [],i,s,h,_,_,_,_=>rfl
 | o::r,i,s,h,hk,h1,h2,hp=>by
  rw [List.length_cons]at h1 h2;obtain⟨a1,a2⟩:=tT h (hk o List.mem_cons_self) ah ah;rw [List.foldl_cons]at hp;obtain⟨_,b2⟩:=tV r (i+1) (stp s o) a1 (λo ho=>hk o (List.mem_cons_of_mem _ ho)) ah ah;rw [List.foldl_cons,List.foldl_cons,agD hu a2 (b2.trans hp)];exact XY hu r (i+1) (stp s o) a1 (λo ho=>hk o (List.mem_cons_of_mem _ ho)) ah ah hp
def adg{t u:List Atom}(h:aF t)(hl:t.length<=196)(hu:aF u):∀n:Nat,n<=4->(rN t n).1<+:u->rN u n=(u,(rN t n).2)
 | 0,_,_=>rfl
 | n+1,hn,hp=>by
  have h0:=HZ h hl (n:=n) ah;have pr:=tQ (rN t n).1 ⟨1,n,[],[]⟩;have hp':(aQ (rN t n).1 ⟨1,n,[],[]⟩).1<+:u:=hp;have ih:=adg h hl hu n ah (pr.trans hp');show((aQ (rN u n).1 ⟨1,n,[],[]⟩).1,(rN u n).2++ [dx (aQ (rN u n).1 ⟨1,n,[],[]⟩).2])=(u,(rN t n).2++ [dx (aQ (rN t n).1 ⟨1,n,[],[]⟩).2]);rw [ih];dsimp only;rw [yM hu h0 hp']
def abT{t u:List Atom}{b:Blk}(h:aF t)(hl:t.length<=100)(hb:iD b)(hu:aF u)(hp:(gJ t b).t<+:u):gJ u b=(gJ t b).on u:=by
 have sz:=hb.sz;have i0:=FD h ah;obtain⟨_,h2⟩:=tV b.ops 0 (s0 t) i0 hb.k3 ah ah;have e:s0 u=(s0 t).on u:=by
  unfold s0 SS.on;rw [adg h ah hu 4 ah (h2.trans hp)]
 unfold gJ at hp ⊢;rw [e];exact XY hu b.ops 0 (s0 t) i0 hb.k3 ah ah hp
def qM{t:List Atom}{b:Blk}(h:aF t)(hl:t.length<=100)(hb:iD b):bO t b=((gJ t b).t,symEnd (yL b (gJ t b)) (b.pc+b.len)):=by
 unfold bO;rw [if_pos (aW ⟨h,hl,hb⟩)]
def SB{t u:List Atom}{b:Blk}(h:aF t)(hl:t.length<=100)(hb:iD b)(hu:aF u)(hlu:u.length<=100)(hp:(bO t b).1<+:u):bO u b=(u,(bO t b).2):=by
 rw [qM h hl hb]at hp ⊢;rw [qM hu hlu hb,abT h hl hb hu hp];rfl
def FH{t:List Atom}{b:Blk}(h:aF t)(hl:t.length<=100)(hb:iD b):aF (bO t b).1/\t<+:(bO t b).1/\(bO t b).1.length<=t.length+b.ops.length+4:=by
 unfold bO;rw [if_pos (aW ⟨h,hl,hb⟩)];obtain⟨h1,h2⟩:=QU h hl hb;have:=h1.tl;exact⟨h1.tok,h2,by dsimp only;omega⟩
def ShP(l:List (List aj)):Prop:=l.length<1000000000/\∀p∈l,Sh p
def ShE(e:Ev):Prop:=Sh e.x/\Sh e.y/\ShP e.regs
def SE(l:List Ev):Prop:=l.length<1000000000/\∀e∈l,ShE e
structure ShY(s:Sym):Prop where
 e:SE s.events
 r:ShP s.regs
 x:Sh s.x
 y:Sh s.y
def ShP.at{l:List (List aj)}(h:ShP l)(n:Nat):Sh (l.getD n default):=by
 by_cases c:n<l.length
 .rw [getD_lt c];exact h.2 _ (List.getElem_mem _)
 .rw [List.getD_eq_getElem?_getD,List.getElem?_eq_none ah];exact mK
def H7:ShP []:=⟨by simp,λp h=>absurd h (by simp)⟩
def SE.at{l:List Ev}(h:SE l)(n:Nat):ShE (l.getD n default):=by
 by_cases c:n<l.length
 .rw [getD_lt c];exact h.2 _ (List.getElem_mem _)
 .rw [List.getD_eq_getElem?_getD,List.getElem?_eq_none ah];exact⟨mK,mK,H7⟩
def abU:ShY SA:=⟨⟨by simp [SA],λe h=>absurd h (by simp [SA])⟩,H7,mK,mK⟩
def SI.regs{n:Int}{i:Nat}{s:SS}(h:SI n i s):ShP s.regs:=⟨by have:=h.r4;omega,λp hp=>(h.rok p hp).1.sh⟩
def abV{n:Int}{i:Nat}{s:SS}{o:IOp}(h:SI n i s)(h2:s.evs.length<=i/\∀e∈s.evs,ShE e):(stp s o).evs.length<=i+1/\∀e∈(stp s o).evs,ShE e:=by
 show(nE s o).length<=i+1/\∀e∈nE s o,ShE e;unfold nE;split
 .refine⟨by rw [List.length_append];have:=h2.1;simp only [List.length_cons,List.length_nil];omega,λe he=> ?_⟩;rw [List.mem_append,List.mem_singleton]at he;rcases he with he | rfl
  .exact h2.2 e he
  .refine⟨(h.x o).1.sh,(h.y o).1.sh,?_⟩;dsimp only;split
   .exact h.regs
   .exact H7
 .exact⟨by have:=h2.1;omega,h2.2⟩
def H9{n:Int}:∀(ops:List IOp) (i:Nat) (s:SS),SI n i s->(∀o∈ops,o.kind=3->1<=o.k/\o.k<=5)->n+i+ops.length<=200->i+ops.length<=200->(s.evs.length<=i/\∀e∈s.evs,ShE e)->(ops.foldl stp s).evs.length<=i+ops.length/\∀e∈(ops.foldl stp s).evs,ShE e
 | [],i,s,h,_,_,_,h3=>h3
 | o::r,i,s,h,hk,h1,h2,h3=>by
  rw [List.length_cons]at h1 h2;obtain⟨a1,a2⟩:=tT h (hk o List.mem_cons_self) ah ah;have:=H9 r (i+1) (stp s o) a1 (λo ho=>hk o (List.mem_cons_of_mem _ ho)) ah ah (abV h h3);rw [List.foldl_cons,List.length_cons,show i+(r.length+1)=i+1+r.length by omega];exact this
def evT(e:Ev):Int×Int×Nat:=(e.kind,e.at_,e.regs.length)
def opT(o:IOp):Int×Int×Nat:=(o.kind,o.at_,if o.kind=4\/o.kind=5 then 4 else 0)
def J5(ops:List IOp):List IOp:=ops.filter λo=>decide (evO o)
def QV:∀(ops:List IOp) (s:SS),s.regs.length=4->(ops.foldl stp s).evs.map evT=s.evs.map evT++(J5 ops).map opT
 | [],s,_=>by simp [J5]
 | o::r,s,h=>by
  have h':(stp s o).regs.length=4:=by
   show(nR s o).length=4;unfold nR;split
   .rw [List.length_set];exact h
   .exact h
  rw [List.foldl_cons,QV r (stp s o) h'];show(nE s o).map evT++_=_;unfold nE J5;by_cases c:evO o
  .have e:evT ⟨o.kind,o.at_,xOf s o,yOf s o,if o.kind=4\/o.kind=5 then s.regs else []⟩=opT o:=by
    unfold evT opT;dsimp only;split
    .rw [h]
    .rfl
   rw [if_pos c,List.filter_cons_of_pos (by simpa using c),List.map_append,List.append_assoc];refine congrArg (s.evs.map evT++ ·) ?_;show evT _::_=opT o::_;rw [e];rfl
  .rw [if_neg c,List.filter_cons_of_neg (by simpa using c)]
def Ia{n:Int}{i:Nat}{s:SS}{b:Blk}(h:SI n i s):aJ (yL b s).x/\aJ (yL b s).y:=by
 unfold yL;dsimp only;constructor
 .split
  .exact dM
  .exact(xC h.vok _).1
 .split
  .exact(xC h.vok _).1
  .exact dM
def Ib{s:Sym}{n:Int}(h:aJ s.x/\aJ s.y):(symEnd s n).events=s.events/\(symEnd s n).regs=s.regs/\aJ (symEnd s n).x/\aJ (symEnd s n).y:=by
 unfold symEnd;rw [if_neg (by rw [aW h];simp)]
 repeat' split
 all_goals first | exact⟨rfl,rfl,h⟩ | exact⟨rfl,rfl,dM,dM⟩ | exact⟨rfl,rfl,h.2,h.1⟩
structure alT(t:List Atom)(b:Blk):Prop where
 evs:(bO t b).2.events.map evT=(J5 b.ops).map opT
 r4:(bO t b).2.regs.length=4
 sh:ShY (bO t b).2
 ne:0< (bO t b).1.length
theorem J6{t:List Atom}{b:Blk}(h:aF t)(hl:t.length<=100)(hb:iD b):alT t b:=by
 have sz:=hb.sz;have i0:=FD h ah;obtain⟨h1,h2⟩:=QU h hl hb;have hs:=H9 b.ops 0 (s0 t) i0 hb.k3 ah ah ⟨by simp [s0],λe he=>absurd he (by simp [s0])⟩;have he:=QV b.ops (s0 t) i0.r4;have hk:=Ib (n:=b.pc+b.len) (Ia (b:=b) h1);have e:bO t b=((gJ t b).t,symEnd (yL b (gJ t b)) (b.pc+b.len)):=by unfold bO;rw [if_pos (aW ⟨h,hl,hb⟩)]
 rw [Nat.zero_add]at hs;refine⟨?_,?_,?_,?_⟩
 .rw [e];dsimp only;rw [hk.1];show(gJ t b).evs.map evT=_;unfold gJ;rw [he];rfl
 .rw [e];dsimp only;rw [hk.2.1];exact h1.r4
 .rw [e];refine⟨?_,?_,hk.2.2.1.sh,hk.2.2.2.sh⟩
  .rw [hk.1];exact⟨by have:=hs.1;show(b.ops.foldl stp (s0 t)).evs.length<_;omega,hs.2⟩
  .rw [hk.2.1];exact h1.regs
 .rw [e];have r:=tV b.ops 0 (s0 t) i0 hb.k3 ah ah;have:=nZ r.2;have p:=qL (HZ h ah (n:=3) ah);have p0:=HZ h ah (n:=3) ah;show 0< (gJ t b).t.length;have:(s0 t).t.length=(aQ (rN t 3).1 ⟨1,(3:Nat),[],[]⟩).1.length:=rfl;unfold gJ;omega
def yN(t:List Atom)(b:Blk):ShY (bO t b).2/\ShT (bO t b).1:=by
 by_cases c:aF t/\t.length<=100/\iD b
 .exact⟨(J6 c.1 c.2.1 c.2.2).sh,(FH c.1 c.2.1 c.2.2).1.sh⟩
 .unfold bO;rw [aY c,if_neg (by simp)];exact⟨abU,abO⟩
noncomputable def t4:List Atom:=(rN [] 4).1
def pY:aF []:=iE.2 ⟨All.zero,by simp⟩
def QW:aF t4/\t4.length<=4:=by
 have:=Ba pY (by simp) 4 ah;exact⟨this.tok,Nat.le_trans this.tl (by simp)⟩
noncomputable def chk (b c:Blk):Bool:=bp (iD b/\iD c/\b.pc=c.pc/\b.len=c.len/\(b=c\/(bO t4 b).2=(bO (bO t4 b).1 c).2))
structure Lk(b c:Blk):Prop where
 ob:iD b
 oc:iD c
 pc:b.pc=c.pc
 len:b.len=c.len
 run:∀u,aF u->u.length<=100->(bO u b).1=u->bO u c=bO u b
def Lk.refl{b:Blk}(h:iD b):Lk b b:=⟨h,h,rfl,rfl,λ_ _ _ _=>rfl⟩
def Lk.trans{b c d:Blk}(h:Lk b c)(g:Lk c d):Lk b d:=⟨h.ob,g.oc,h.pc.trans g.pc,h.len.trans g.len,λu h1 h2 h3=>by
 have e:=h.run u h1 h2 h3;rw [g.run u h1 h2 (by rw [e];exact h3),e]⟩
def abW{b:Blk}(hb:iD b):aF (bO t4 b).1/\(bO t4 b).1.length<=100/\bO (bO t4 b).1 b=bO t4 b:=by
 have h4:=QW;have hr:=FH h4.1 ah hb;have sz:=hb.sz;refine⟨hr.1,ah,?_⟩;have:=SB h4.1 ah hb hr.1 ah (List.prefix_refl _);rw [this]
def Lk.chk{b c:Blk}(h:Lk b c):chk b c=true:=by
 obtain⟨h1,h2,h3⟩:=abW h.ob;refine aW ⟨h.ob,h.oc,h.pc,h.len,Or.inr ?_⟩;rw [h.run _ h1 h2 (by rw [h3]),h3]
def SF:Blk:=⟨0,0,[],0,0,0,0⟩
def OD(f:SS->IOp->SS)(s:SS){l:List IOp}{i:Nat}(h:i<l.length):(l.take (i+1)).foldl f s=f ((l.take i).foldl f s) l[i]:=by
 rw [List.take_succ_eq_append_getElem h,List.foldl_append];rfl
def ren(nm:List Int)(o:IOp):IOp:=⟨o.kind,if hX o then((nm).getD (o.x).toNat default)else o.x,if hY o then((nm).getD (o.y).toNat default)else o.y,o.k,o.at_⟩
def alU(nm:List Int)(b:Blk)(ops:List IOp):Blk:=⟨b.pc,b.len,ops.map (ren nm),b.fin,if b.fin=1 then b.x else((nm).getD (b.x).toNat default),if 3<=b.fin then((nm).getD (b.y).toNat default)else b.y,b.k⟩
def cpN(s:List Int×List Int)(i:Int)(o:IOp):Int:=if o.kind=2/\0<=((s.2).getD (o.k).toNat default)then((s.2).getD (o.k).toNat default)else i
def cpL(s:List Int×List Int)(i:Int)(o:IOp):List Int:=if o.kind=2 then(if 0<=((s.2).getD (o.k).toNat default)then s.2 else s.2.set o.k.toNat i)else if o.kind=8 then s.2.set o.k.toNat ((s.1).getD (o.x).toNat default)else s.2
def cpS(ops:List IOp):Nat->List Int×List Int
 | 0=>([],[-1, -1, -1, -1])
 | i+1=>((cpS ops i).1++ [cpN (cpS ops i) i (ops.getD i default)],cpL (cpS ops i) i (ops.getD i default))
noncomputable def Ic (b:Blk):Blk:=if bp (iD b)=true then alU (cpS b.ops b.ops.length).1 b b.ops else SF
structure CI(ops:List IOp)(i:Nat)(s:SS):Prop where
 nm:∀j:Int,0<=j->j<i->(0<=(((cpS ops i).1).getD (j).toNat default)/\(((cpS ops i).1).getD (j).toNat default)<=j)/\((s.vals).getD ((((cpS ops i).1).getD (j).toNat default)).toNat default)=((s.vals).getD (j).toNat default)/\(mkV ((ops).getD (j).toNat default)->mkV ((ops).getD ((((cpS ops i).1).getD (j).toNat default)).toNat default))
 la:∀r:Int,0<=r->r<=3->0<=(((cpS ops i).2).getD (r).toNat default)->(((cpS ops i).2).getD (r).toNat default)<i/\((s.vals).getD ((((cpS ops i).2).getD (r).toNat default)).toNat default)=((s.regs).getD (r).toNat default)/\mkV ((ops).getD ((((cpS ops i).2).getD (r).toNat default)).toNat default)
def fcO(f:List IOp)(o:IOp):IOp:=if o.kind=3/\(((f).getD (o.x).toNat default)).kind=1/\(((f).getD (o.y).toNat default)).kind=1 then⟨1,0,0,wdo o.k (((f).getD (o.x).toNat default)).k (((f).getD (o.y).toNat default)).k,0⟩else o
def fc(ops:List IOp):Nat->List IOp
 | 0=> []
 | i+1=>fc ops i++ [fcO (fc ops i) (ops.getD i default)]
def fcB(b:Blk)(f:List IOp):Blk:=
 if b.fin=2/\(((f).getD (b.x).toNat default)).kind=1 then⟨b.pc,b.len,f,1,0,b.y,(((f).getD (b.x).toNat default)).k⟩
 else if 3<=b.fin/\(((f).getD (b.x).toNat default)).kind=1/\(((f).getD (b.y).toNat default)).kind=1 then⟨b.pc,b.len,f,1,0,0,if b.fin=3/\(((f).getD (b.x).toNat default)).k=(((f).getD (b.y).toNat default)).k\/b.fin=4/\(((f).getD (b.x).toNat default)).k< (((f).getD (b.y).toNat default)).k then b.k else b.pc+b.len⟩
 else⟨b.pc,b.len,f,b.fin,b.x,b.y,b.k⟩
noncomputable def J7 (b:Blk):Blk:=if bp (iD b)=true then fcB b (fc b.ops b.ops.length)else SF
structure FI(ops:List IOp)(i:Nat)(s:SS):Prop where
 c:∀j:Int,0<=j->j<i->((((fc ops i)).getD (j).toNat default)).kind=1->(0<=((((fc ops i)).getD (j).toNat default)).k/\((((fc ops i)).getD (j).toNat default)).k<=65535)/\((s.vals).getD (j).toNat default)=bR ((((fc ops i)).getD (j).toNat default)).k
 m:∀j:Int,0<=j->j<i->mkV ((ops).getD (j).toNat default)->mkV (((fc ops i)).getD (j).toNat default)
def kpS(ops:List IOp)(kp:List Bool):Nat->List Int×List IOp
 | 0=>([],[])
 | i+1=>((kpS ops kp i).1++ [((kpS ops kp i).2.length:Int)],if kp.getD i default=true then(kpS ops kp i).2++ [ops.getD i default]else(kpS ops kp i).2)
def XZ(b:Blk)(kp:List Bool):Blk:=alU (kpS b.ops kp b.ops.length).1 b (kpS b.ops kp b.ops.length).2
def QX:List IOp->Int->Bool
 | [],_=>false
 | o::l,r=>if o.kind=4\/o.kind=5\/o.kind=2/\o.k=r then false else if o.kind=8/\o.k=r then true else QX l r
structure KP(b:Blk)(kp:List Bool):Prop where
 x:∀i:Int,0<=i->i<b.ops.length->((kp).getD (i).toNat default)=true->hX ((b.ops).getD (i).toNat default)->((kp).getD ((((b.ops).getD (i).toNat default)).x).toNat default)=true
 y:∀i:Int,0<=i->i<b.ops.length->((kp).getD (i).toNat default)=true->hY ((b.ops).getD (i).toNat default)->((kp).getD ((((b.ops).getD (i).toNat default)).y).toNat default)=true
 ex:b.fin≠1->((kp).getD (b.x).toNat default)=true
 ey:3<=b.fin->((kp).getD (b.y).toNat default)=true
 no:∀i:Int,0<=i->i<b.ops.length->((kp).getD (i).toNat default)=false->(((b.ops).getD (i).toNat default)).kind<=3\/(((b.ops).getD (i).toNat default)).kind=8/\QX (b.ops.drop (i.toNat+1)) (((b.ops).getD (i).toNat default)).k=true
structure KI(b:Blk)(kp:List Bool)(i:Nat)(s s':SS):Prop where
 t:s'.t=s.t
 ld:s'.ld=s.ld
 inn:s'.inn=s.inn
 evs:s'.evs=s.evs
 vl:s'.vals.length=(kpS b.ops kp i).2.length
 v:∀j:Nat,j<i->kp.getD j default=true->s'.vals.getD (kpS b.ops kp j).2.length default=s.vals.getD j default
 r4:s'.regs.length=4/\s.regs.length=4
 rg:∀r:Int,0<=r->r<=3->QX (b.ops.drop i) r=false->((s'.regs).getD (r).toNat default)=((s.regs).getD (r).toNat default)
def agE(ops:List IOp):List Bool:=(List.range ops.length).map λi=> !(decide ((ops.getD i default).kind=8)&&QX (ops.drop (i+1)) (ops.getD i default).k)
noncomputable def Ie (b:Blk):Blk:=if bp (iD b)=true then XZ b (agE b.ops)else SF
def us0(b:Blk):List Bool:=(λm:List Bool=>if 3<=b.fin then m.set b.y.toNat true else m) (if b.fin=1 then List.replicate b.ops.length false else(List.replicate b.ops.length false).set b.x.toNat true)
def usO(o:IOp)(i:Nat)(m:List Bool):List Bool:=
 if(m.getD i default || decide (4<=o.kind))=true then(λm:List Bool=>if hY o then m.set o.y.toNat true else m) ((λm:List Bool=>if hX o then m.set o.x.toNat true else m) (m.set i true))else m
def us(b:Blk):Nat->List Bool
 | 0=>us0 b
 | k+1=>usO (b.ops.getD (b.ops.length-1-k) default) (b.ops.length-1-k) (us b k)
noncomputable def abX (b:Blk):List Bool:=if bp (iD b)=true then us b b.ops.length else []
noncomputable def BN (b:Blk):Blk:=if bp (iD b)=true then XZ b (us b b.ops.length)else SF
structure UI(b:Blk)(p:Nat)(m:List Bool):Prop where
 k:∀i:Nat,p<=i->i<b.ops.length->4<=(b.ops.getD i default).kind->m.getD i default=true
 x:∀i:Nat,p<=i->i<b.ops.length->m.getD i default=true->hX (b.ops.getD i default)->((m).getD ((b.ops.getD i default).x).toNat default)=true
 y:∀i:Nat,p<=i->i<b.ops.length->m.getD i default=true->hY (b.ops.getD i default)->((m).getD ((b.ops.getD i default).y).toNat default)=true
 ex:b.fin≠1->((m).getD (b.x).toNat default)=true
 ey:3<=b.fin->((m).getD (b.y).toNat default)=true
 wh:∀t:Nat,t<b.ops.length->m.getD t default=true->4<=(b.ops.getD t default).kind\/b.fin≠1/\t=b.x.toNat\/3<=b.fin/\t=b.y.toNat\/∃j:Nat,p<=j/\j<b.ops.length/\t<j/\m.getD j default=true/\(hX (b.ops.getD j default)/\t=(b.ops.getD j default).x.toNat\/hY (b.ops.getD j default)/\t=(b.ops.getD j default).y.toNat)
noncomputable def X0 (b:Blk):Blk:=BN (Ie (BN (J7 (Ic b))))
def RB:(∀o:IOp,fJ .iop 0 o=o.kind)/\(∀o:IOp,fJ .iop 1 o=o.x)/\(∀o:IOp,fJ .iop 2 o=o.y)/\(∀o:IOp,fJ .iop 3 o=o.k)/\(∀o:IOp,fJ .iop 4 o=o.at_)/\
  (∀b:Blk,fJ .blk 0 b=b.pc)/\(∀b:Blk,fJ .blk 1 b=b.len)/\(∀b:Blk,mg .blk 2 .iop b=b.ops)/\(∀b:Blk,fJ .blk 3 b=b.fin)/\(∀b:Blk,fJ .blk 4 b=b.x)/\(∀b:Blk,fJ .blk 5 b=b.y)/\(∀b:Blk,fJ .blk 6 b=b.k)/\
  (∀x,Co.mk .iop x=⟨x.1,x.2.1,x.2.2.1,x.2.2.2.1,x.2.2.2.2.1⟩)/\(∀x,Co.mk .blk x=⟨x.1,x.2.1,x.2.2.1,x.2.2.2.1,x.2.2.2.2.1,x.2.2.2.2.2.1,x.2.2.2.2.2.2.1⟩)/\
  (∀i:Ins,fJ .ins 0 i=i.op)/\(∀i:Ins,fJ .ins 1 i=i.d)/\(∀i:Ins,fJ .ins 2 i=i.a)/\(∀i:Ins,fJ .ins 3 i=i.k)/\(∀x,Co.mk .ins x=⟨x.1,x.2.1,x.2.2.1,x.2.2.2.1⟩)/\
  (∀e:Ev,fJ .ev 0 e=e.kind)/\(∀e:Ev,fJ .ev 1 e=e.at_)/\(∀e:Ev,mg .ev 2 .mono e=e.x)/\(∀e:Ev,mg .ev 3 .mono e=e.y)/\(∀e:Ev,mg .ev 4 .poly e=e.regs)/\(∀x,Co.mk .ev x=⟨x.1,x.2.1,x.2.2.1,x.2.2.2.1,x.2.2.2.2.1⟩)/\
  (∀s:Sym,mg .sym 0 .ev s=s.events)/\(∀s:Sym,mg .sym 1 .poly s=s.regs)/\(∀s:Sym,fJ .sym 2 s=s.fin)/\(∀s:Sym,mg .sym 3 .mono s=s.x)/\(∀s:Sym,mg .sym 4 .mono s=s.y)/\(∀s:Sym,fJ .sym 5 s=s.k)/\
  (∀x,Co.mk .sym x=⟨x.1,x.2.1,x.2.2.1,x.2.2.2.1,x.2.2.2.2.1,x.2.2.2.2.2.1⟩)/\(∀x,Co.mk .bool x=x.1)/\(∀x:Bool,abh .bool 0 x=x):=
 ⟨λ_=>rfl,λ_=>rfl,λ_=>rfl,λ_=>rfl,λ_=>rfl,λ_=>rfl,λ_=>rfl,λ_=>rfl,λ_=>rfl,λ_=>rfl,λ_=>rfl,λ_=>rfl,λ_=>rfl,λ_=>rfl,λ_=>rfl,λ_=>rfl,λ_=>rfl,λ_=>rfl,λ_=>rfl,λ_=>rfl,λ_=>rfl,λ_=>rfl,λ_=>rfl,λ_=>rfl,λ_=>rfl,λ_=>rfl,λ_=>rfl,λ_=>rfl,λ_=>rfl,λ_=>rfl,λ_=>rfl,λ_=>rfl,λ_=>rfl,λ_=>rfl⟩
abbrev hK(o : IOp) : Prop := o.kind = 1 \/ o.kind = 2 \/ o.kind = 3 \/ o.kind = 8
def alV{p1 f1}(U1:Y1 p1 f1)(o:IOp):
  VP.F (p1,f1,()) (o,()) (λy=>y=(decide (hX o),decide (hY o),decide (hK o),decide (evO o),())):=by
 dsimp only [VP,gm];simp (disch:=omega) only [RR,RB,U1.hp,U1.hf];refine Prod.ext ?_ (Prod.ext ?_ (Prod.ext ?_ (Prod.ext ?_ rfl)))<;>rw [Bool.eq_iff_iff]<;>simp [hX,hY,hK,evO,inB,or_assoc,and_assoc]
def alW{p1 f1}(U1:Y1 p1 f1)(o:IOp):
  VR.F (p1,f1,()) (o,()) (λy=>y=(decide (mkV o),())):=by
 dsimp only [VR,gm];simp (disch:=omega) only [RR,RB,U1.hp,U1.hf];refine Prod.ext ?_ rfl;rw [Bool.eq_iff_iff];simp [mkV,inB]
def alX{p1 f1}(U1:Y1 p1 f1)(o:IOp):
  Wy.F (p1,f1,()) (o,()) (λy=>y=(decide (evO o),())):=by
 dsimp only [Wy,gm];simp (disch:=omega) only [RR,RB,U1.hp,U1.hf];refine Prod.ext ?_ rfl;rw [Bool.eq_iff_iff];simp [evO,inB]
def alY{p1 f1}{p2:IOp×Unit->Bool}{f2:IOp×Unit->Bool×Unit}(hp2:∀o,p2 (o,())=true)(hf2:∀o,f2 (o,())=(decide (mkV o),()))(U1:Y1 p1 f1)(b:Blk)(x n:Int)(h0:0<=n)(h1:n<=b.ops.length)(h2:b.ops.length<1000000000):
  VT.F (p2,f2,p1,f1,()) (b,x,n,()) (λy=>y=(bp (Vl b.ops x n),())):=by
 dsimp only [VT,gm];simp (disch:=omega) only [RR,RB,U1.hp,U1.hf,hp2,hf2,bM,jU];refine⟨ah,ah,?_⟩;refine Prod.ext ?_ rfl;dsimp only;rw [Bool.eq_iff_iff,aO,Bool.and_eq_true,bM,decide_eq_true_eq];unfold Vl;constructor
 .rintro⟨⟨a1,a2⟩,a3⟩;exact⟨a1,ah,a3⟩
 .rintro⟨a1,a2,a3⟩;exact⟨⟨a1,ah⟩,a3⟩
def J8{ops:List IOp}{len i:Int}{o:IOp}:nC ops len i o↔(1<=o.kind/\o.kind<=8)/\(hX o/\Vl ops o.x i\/¬hX o/\o.x=0)/\(hY o/\Vl ops o.y i\/¬hY o/\o.y=0)/\
  (hK o/\(o.kind=1/\(0<=o.k/\o.k<=65535)\/(o.kind=2\/o.kind=8)/\(0<=o.k/\o.k<=3)\/o.kind=3/\(1<=o.k/\o.k<=5))\/¬hK o/\o.k=0)/\(evO o/\(0<=o.at_/\o.at_<len)\/¬evO o/\o.at_=0):=by
 constructor
 .rintro⟨kd,x1,x0,y1,y0,k1,k2,k3,k0,a1,a0⟩;refine⟨kd,?_,?_,?_,?_⟩
  .by_cases h:hX o
   .exact Or.inl ⟨h,x1 h⟩
   .exact Or.inr ⟨h,x0 h⟩
  .by_cases h:hY o
   .exact Or.inl ⟨h,y1 h⟩
   .exact Or.inr ⟨h,y0 h⟩
  .unfold hK;omega
  .by_cases h:evO o
   .exact Or.inl ⟨h,a1 h⟩
   .exact Or.inr ⟨h,a0 h⟩
 .rintro⟨kd,x,y,k,a⟩;refine⟨kd,λh=> ?_,λh=> ?_,λh=> ?_,λh=> ?_,λh=> ?_,λh=> ?_,λh=> ?_,λh h'=> ?_,λh=> ?_,λh=> ?_⟩
  .rcases x with x | x
   .exact x.2
   .exact absurd h x.1
  .rcases x with x | x
   .exact absurd x.1 h
   .exact x.2
  .rcases y with y | y
   .exact y.2
   .exact absurd h y.1
  .rcases y with y | y
   .exact absurd y.1 h
   .exact y.2
  .unfold hK at k;omega
  .unfold hK at k;omega
  .unfold hK at k;omega
  .unfold hK at k;omega
  .rcases a with a | a
   .exact a.2
   .exact absurd h a.1
  .rcases a with a | a
   .exact absurd a.1 h
   .exact a.2
structure Y52(pp:Blk×Int×Int×Unit->Bool)(ff:Blk×Int×Int×Unit->Bool×Unit):Prop where
 hp:∀b x n,0<=n->n<=b.ops.length->b.ops.length<1000000000->pp (b,x,n,())=true
 hf:∀b x n,0<=n->n<=b.ops.length->b.ops.length<1000000000->ff (b,x,n,())=(bp (Vl b.ops x n),())
structure Y53(pp:IOp×Unit->Bool)(ff:IOp×Unit->Bool×Bool×Bool×Bool×Unit):Prop where
 hp:∀o,pp (o,())=true
 hf:∀o,ff (o,())=(decide (hX o),decide (hY o),decide (hK o),decide (evO o),())
def alZ{p3 f3 p2 f2 p4 f4 p1 f1 p5 f5 p6 f6}(U3:Y52 p3 f3)(U2:Y53 p2 f2)(U4:Y9 p4 f4)(U1:Y1 p1 f1)(U5:Y16 p5 f5)(U6:Y17 p6 f6)(b:Blk)(i:Int)(h0:0<=i)(h1:i<b.ops.length)(h2:b.ops.length<1000000000)(h3:1<=b.len/\b.len<=8):
  VU.F (p3,f3,p2,f2,p4,f4,p1,f1,p5,f5,p6,f6,()) (b,i,()) (λy=>y=(bp (nC b.ops b.len i ((b.ops).getD (i).toNat default)),())):=by
 have OE:=λx=>U3.hp b x i h0 ah h2
 have OG:=λx=>U3.hf b x i h0 ah h2
 dsimp only [VU,gm];simp (disch:=omega) only [RR,RB,U1.hp,U1.hf,U2.hp,U2.hf,OE,OG,U4.hp,U4.hf,U5.hp,U5.hf,U6.hp,U6.hf,jU];refine⟨ah,ah,λh=> ?_,λh=> ?_⟩
 .rw [aY (λg=>h g.kd)]
 .have h:=bM.1 h;refine Prod.ext ?_ rfl;dsimp only;rw [Bool.eq_iff_iff,aO,J8];generalize ((b.ops).getD (i).toNat default)=o at h ⊢;simp only [Bool.and_eq_true,Bool.or_eq_true,Bool.not_eq_true',decide_eq_true_eq,decide_eq_false_iff_not,aO,bM,h,true_and,and_true];have e:∀ {a:Int},(0<=a/\a<=b.len-1)↔(0<=a/\a<b.len):=λ{a}=>by omega
  have k:(bif decide (o.kind=1)then inB o.k 0 65535 else bif decide (o.kind=2)then inB o.k 0 3 else bif decide (o.kind=3)then inB o.k 1 5 else(decide (o.kind=8)&&inB o.k 0 3))=true↔(o.kind=1/\(0<=o.k/\o.k<=65535)\/(o.kind=2\/o.kind=8)/\(0<=o.k/\o.k<=3)\/o.kind=3/\(1<=o.k/\o.k<=5)):=by
   rcases(by omega:o.kind=1\/o.kind=2\/o.kind=3\/o.kind=8\/(o.kind≠1/\o.kind≠2/\o.kind≠3/\o.kind≠8))with c | c | c | c | ⟨c1,c2,c3,c4⟩
   .simp [c,inB]
   .simp [c,inB]
   .simp [c,inB]
   .simp [c,inB]
   .simp [c1,c2,c3,c4]
  rw [k];simp only [e,and_assoc]
def adh(b:Blk):VW.F () (b,()) (λy=>y=(decide (b.fin≠1),decide (3<=b.fin),decide (b.fin≠2),())):=by
 dsimp only [VW,gm];simp (disch:=omega) only [RR,RB];refine Prod.ext ?_ (Prod.ext rfl (Prod.ext ?_ rfl))<;>simp
def FJ{b:Blk}:yK b↔(1<=b.fin/\b.fin<=4)/\(b.fin≠1/\Vl b.ops b.x b.ops.length\/¬b.fin≠1/\b.x=0)/\(3<=b.fin/\Vl b.ops b.y b.ops.length\/¬3<=b.fin/\b.y=0)/\(b.fin≠2/\(0<=b.k/\b.k<=65535)\/¬b.fin≠2/\b.k=0):=by
 constructor
 .rintro⟨f,x1,x0,y1,y0,k1,k0⟩;refine⟨f,?_,?_,ah⟩
  .by_cases h:b.fin=1
   .exact Or.inr ⟨λg=>g h,x0 h⟩
   .exact Or.inl ⟨h,x1 h⟩
  .by_cases h:3<=b.fin
   .exact Or.inl ⟨h,y1 h⟩
   .exact Or.inr ⟨h,y0 ah⟩
 .rintro⟨f,x,y,k⟩;refine⟨f,λh=> ?_,λh=> ?_,λh=> ?_,λh=> ?_,λh=>by omega,λh=>by omega⟩
  .rcases x with x | x
   .exact x.2
   .exact absurd h x.1
  .rcases x with x | x
   .exact absurd h x.1
   .exact x.2
  .rcases y with y | y
   .exact y.2
   .exact absurd h y.1
  .rcases y with y | y
   .exact absurd y.1 ah
   .exact y.2
structure Y54(pp:Blk×Unit->Bool)(ff:Blk×Unit->Bool×Bool×Bool×Unit):Prop where
 hp:∀b,pp (b,())=true
 hf:∀b,ff (b,())=(decide (b.fin≠1),decide (3<=b.fin),decide (b.fin≠2),())
def al0{p2 f2 p3 f3 p4 f4 p1 f1}(U2:Y54 p2 f2)(U3:Y52 p3 f3)(U4:Y9 p4 f4)(U1:Y1 p1 f1)(b:Blk)(h2:b.ops.length<1000000000):
  VX.F (p2,f2,p3,f3,p4,f4,p1,f1,()) (b,()) (λy=>y=(bp (yK b),())):=by
 have OE:=λx=>U3.hp b x b.ops.length ah (Int.le_refl _) h2
 have OG:=λx=>U3.hf b x b.ops.length ah (Int.le_refl _) h2
 dsimp only [VX,gm];simp (disch:=omega) only [RR,RB,U1.hp,U1.hf,U2.hp,U2.hf,OE,OG,U4.hp,U4.hf];refine Prod.ext ?_ rfl;dsimp only;rw [Bool.eq_iff_iff,aO,FJ];simp only [Bool.and_eq_true,Bool.or_eq_true,Bool.not_eq_true',decide_eq_true_eq,decide_eq_false_iff_not,aO,bM,and_assoc]
def al1{p1 f1}{p2:Blk×Unit->Bool}{f2:Blk×Unit->Bool×Unit}(hp2:∀b,b.ops.length<1000000000->p2 (b,())=true)(hf2:∀b,b.ops.length<1000000000->f2 (b,())=(bp (yK b),())){p3:Blk×Int×Unit->Bool}{f3:Blk×Int×Unit->Bool×Unit}(hp3:∀(b:Blk) (i:Int),0<=i->i<b.ops.length->b.ops.length<1000000000->1<=b.len/\b.len<=8->p3 (b,i,())=true)(hf3:∀(b:Blk) (i:Int),0<=i->i<b.ops.length->b.ops.length<1000000000->1<=b.len/\b.len<=8->f3 (b,i,())=(bp (nC b.ops b.len i ((b.ops).getD (i).toNat default)),()))(U1:Y1 p1 f1)(b:Blk)(h2:b.ops.length<1000000000):
  VY.F (p2,f2,p3,f3,p1,f1,()) (b,()) (λy=>y=(bp (iD b),())):=by
 dsimp only [VY,gm];simp (disch:=omega) only [RR,RB,U1.hp,U1.hf];by_cases hl:1<=b.len/\b.len<=8
 .have hl':=bM.2 hl;simp (disch:=omega) only [RR,hl',bM,jU];refine⟨λh=> ?_,λh=> ?_⟩
  .rw [aY (λg=> ?_)];have g1:=g.pc;have g2:=g.sz;omega
  .refine ak (λ(y:Int×Int×Blk×Unit)=>y.1=b.ops.length/\y.2.2.1=b/\0<=y.2.1/\y.2.1<=b.ops.length/\All y.2.1 (λi=>nC b.ops b.len i ((b.ops).getD (i).toNat default))) (λy=>(b.ops.length-y.2.1).toNat) ⟨rfl,rfl,by simp,by simp,All.zero⟩ ?_;rintro⟨(n:Int),(i:Int),(b':Blk),⟨⟩⟩ hI;dsimp only at hI ⊢;obtain⟨rfl,rfl,h3,h4,h5⟩:=hI;simp (disch:=omega) only [RR,hp2 b' h2,hf2 b' h2];refine⟨λh6=>⟨hp3 b' i h3 h6 h2 hl,?_⟩,λh6=> ?_⟩
   .rw [hf3 b' i h3 h6 h2 hl];dsimp only;refine⟨λh7=> ?_,λh7=>⟨⟨ah,ah,h5.snoc (aO.1 h7)⟩,ah⟩⟩;rw [aY (λg=>gB.1 h7 (g.op i h3 h6))]
   .by_cases he:yK b'
    .rw [aW he,aW (show iD b' from⟨hl,ah,ah,λj j1 j2=>h5 j j1 ah,he⟩)]
    .rw [aY he,aY (λg=>he g.en)]
 .have hl':=jU.2 hl;simp (disch:=omega) only [RR,hl'];rw [aY (λg=>hl g.ln)];exact⟨rfl,λh=>h.1.1.elim⟩
def agF{p1 f1}(U1:Y1 p1 f1)(k:Int):
  Mi.F (p1,f1,()) (k,()) (λy=>y=(decide ((1<=k/\k<=4)\/k=6),())):=by
 dsimp only [Mi,gm];simp (disch:=omega) only [RR,U1.hp,U1.hf];refine Prod.ext ?_ rfl;rw [Bool.eq_iff_iff];simp [inB]
def agG{p1:Int×Unit->Bool}{f1:Int×Unit->Bool×Unit}(hp1:∀k,p1 (k,())=true)(hf1:∀k,f1 (k,())=(decide ((1<=k/\k<=4)\/k=6),()))(ops:List IOp)(x n:Int)(h1:n<=ops.length):
  Mj.F (p1,f1,()) (ops,x,n,()) (λy=>y=(bp (Vl ops x n),())):=by
 dsimp only [Mj,gm];simp (disch:=omega) only [RR,RB,hp1,hf1];refine⟨by simp only [Bool.and_eq_false_iff,decide_eq_false_iff_not];omega,by simp only [Bool.and_eq_false_iff,decide_eq_false_iff_not];omega,?_⟩;refine Prod.ext ?_ rfl;dsimp only;rw [Bool.eq_iff_iff,aO,Bool.and_eq_true,Bool.and_eq_true,decide_eq_true_eq,decide_eq_true_eq,decide_eq_true_eq,and_assoc];rfl
structure Y55(pp:List IOp×Int×Int×Unit->Bool)(ff:List IOp×Int×Int×Unit->Bool×Unit):Prop where
 hp:∀(ops:List IOp) (x n:Int),n<=ops.length->pp (ops,x,n,())=true
 hf:∀(ops:List IOp) (x n:Int),n<=ops.length->ff (ops,x,n,())=(bp (Vl ops x n),())
def agH{p4 f4 p1 f1 p3 f3}(U4:Y9 p4 f4)(U1:Y1 p1 f1)(U3:Y55 p3 f3)(ops:List IOp)(i len:Int)(h0:0<=i)(h1:i<ops.length)(h3:1<=len/\len<=8):Mk.F (p4,f4,p1,f1,p3,f3,()) (ops,i,len,()) (λy=>y=(bp (nC ops len i ((ops).getD (i).toNat default)),())):=by
 have OE:=λx=>U3.hp ops x i ah
 have OG:=λx=>U3.hf ops x i ah
 have e:∀ {a:Int},(0<=a/\a<=len-1)↔(0<=a/\a<len):=λ{a}=>by omega
 dsimp only [Mk,gm];simp (disch:=omega) only [RR,RB,U1.hp,U1.hf,OE,OG,U4.hp,U4.hf];refine⟨ah,ah,?_⟩;rw [show bp (nC ops len i ((ops).getD (i).toNat default))=bp (_)from kM J8];generalize ((ops).getD (i).toNat default)=o;have go:∀ {c:Bool} {P:Prop},(c=true↔P)->(c,())=(bp P,()):=λ{c P} h=>Prod.ext (by dsimp only;rw [Bool.eq_iff_iff,aO];exact h) rfl
 refine⟨λc=> ?_,λc1=>⟨λc=> ?_,λc2=>⟨λc=> ?_,λc3=> ?_⟩⟩⟩
 .refine go ?_;simp only [Bool.and_eq_true,decide_eq_true_eq,aO,bM,c,hX,hY,hK,evO,e];simp [and_assoc]
 .refine go ?_;simp only [Bool.and_eq_true,decide_eq_true_eq,aO,bM,c,hX,hY,hK,evO,e];simp [and_assoc]
 .refine go ?_;simp only [Bool.and_eq_true,decide_eq_true_eq,aO,bM,c,hX,hY,hK,evO,e];simp [and_assoc]
 .by_cases c4:o.kind=4\/o.kind=7
  .have c5:o.kind≠8:=by omega
   rcases c4 with c | c<;>simp (disch:=omega) only [RR,c,Int.reduceEq]<;>(refine go ?_)<;>simp only [Bool.and_eq_true,decide_eq_true_eq,aO,bM,c,hX,hY,hK,evO,e]<;>simp [and_assoc]
  .by_cases c:o.kind=5
   .simp (disch:=omega) only [RR,c,Int.reduceEq];refine go ?_;simp only [Bool.and_eq_true,decide_eq_true_eq,aO,bM,c,hX,hY,hK,evO,e];simp [and_assoc]
   .by_cases c':o.kind=6
    .simp (disch:=omega) only [RR,c',Int.reduceEq];refine go ?_;simp only [Bool.and_eq_true,decide_eq_true_eq,aO,bM,c',hX,hY,hK,evO,e];simp [and_assoc]
    .by_cases c8:o.kind=8
     .simp (disch:=omega) only [RR,c8,Int.reduceEq];refine go ?_;simp only [Bool.and_eq_true,decide_eq_true_eq,aO,bM,c8,hX,hY,hK,evO,e];simp [and_assoc]
     .have n4:¬o.kind=4:=λh=>c4 (Or.inl h)
      have n7:¬o.kind=7:=λh=>c4 (Or.inr h)
      simp (disch:=omega) only [RR,n4,n7,c,c',c8];rw [aY (λh=>by have:=h.1;omega)]
def agI{p4 f4 p3 f3}(U4:Y9 p4 f4)(U3:Y55 p3 f3)(b:Blk):Ml.F (p4,f4,p3,f3,()) (b,()) (λy=>y=(bp (yK b),())):=by
 have OE:=λx=>U3.hp b.ops x b.ops.length (Int.le_refl _)
 have OG:=λx=>U3.hf b.ops x b.ops.length (Int.le_refl _)
 dsimp only [Ml,gm];simp (disch:=omega) only [RR,RB,OE,OG,U4.hp,U4.hf];rw [show bp (yK b)=bp (_)from kM FJ];have go:∀ {c:Bool} {P:Prop},(c=true↔P)->(c,())=(bp P,()):=λ{c P} h=>Prod.ext (by dsimp only;rw [Bool.eq_iff_iff,aO];exact h) rfl
 refine⟨λc=> ?_,λc1=>⟨λc=> ?_,λc2=> ?_⟩⟩
 .refine go ?_;simp only [Bool.and_eq_true,decide_eq_true_eq,aO,bM,c];simp [and_assoc]
 .refine go ?_;simp only [Bool.and_eq_true,decide_eq_true_eq,aO,bM,c];simp [and_assoc]
 .by_cases c:b.fin=3
  .simp (disch:=omega) only [RR,c,Int.reduceEq];refine go ?_;simp only [Bool.and_eq_true,decide_eq_true_eq,aO,bM,c];simp [and_assoc]
  .by_cases c4:b.fin=4
   .simp (disch:=omega) only [RR,c4,Int.reduceEq];refine go ?_;simp only [Bool.and_eq_true,decide_eq_true_eq,aO,bM,c4];simp [and_assoc]
   .simp (disch:=omega) only [RR,c,c4];rw [aY (λh=>by have:=h.1;omega)]
def agJ{p1 f1}(U1:Y1 p1 f1){p2:Blk×Unit->Bool}{f2:Blk×Unit->Bool×Unit}(hp2:∀b,p2 (b,())=true)(hf2:∀b,f2 (b,())=(bp (yK b),())){p3:List IOp×Int×Int×Unit->Bool}{f3:List IOp×Int×Int×Unit->Bool×Unit}(hp3:∀(ops:List IOp) (i len:Int),0<=i->i<ops.length->1<=len/\len<=8->p3 (ops,i,len,())=true)(hf3:∀(ops:List IOp) (i len:Int),0<=i->i<ops.length->1<=len/\len<=8->f3 (ops,i,len,())=(bp (nC ops len i ((ops).getD (i).toNat default)),()))(b:Blk)(h2:b.ops.length<1000000000):
  Mq.F (p1,f1,p2,f2,p3,f3,()) (b,()) (λy=>y=(bp (iD b),())):=by
 dsimp only [Mq,gm];simp (disch:=omega) only [RR,RB,U1.hp,U1.hf];by_cases hl:1<=b.len/\b.len<=8
 .have hl':=bM.2 hl;simp (disch:=omega) only [RR,hl',bM,jU];refine⟨λh=> ?_,λh=> ?_⟩
  .rw [aY (λg=> ?_)];have g1:=g.pc;have g2:=g.sz;omega
  .refine ak (λ(y:Int×Blk×Unit)=>y.2.1=b/\0<=y.1/\y.1<=b.ops.length/\All y.1 (λi=>nC b.ops b.len i ((b.ops).getD (i).toNat default))) (λy=>(b.ops.length-y.1).toNat) ⟨rfl,by simp,by simp,All.zero⟩ ?_;rintro⟨(i:Int),(b':Blk),⟨⟩⟩ hI;dsimp only at hI ⊢;obtain⟨rfl,h3,h4,h5⟩:=hI;simp (disch:=omega) only [RR,hp2 b',hf2 b'];refine⟨λh6=>⟨hp3 b'.ops i b'.len h3 h6 hl,?_⟩,λh6=> ?_⟩
   .rw [hf3 b'.ops i b'.len h3 h6 hl];dsimp only;refine⟨λh7=> ?_,λh7=>⟨⟨ah,ah,h5.snoc (aO.1 h7)⟩,ah⟩⟩;rw [aY (λg=>gB.1 h7 (g.op i h3 h6))]
   .by_cases he:yK b'
    .rw [aW he,aW (show iD b' from⟨hl,ah,ah,λj j1 j2=>h5 j j1 ah,he⟩)]
    .rw [aY he,aY (λg=>he g.en)]
 .have hl':=jU.2 hl;simp (disch:=omega) only [RR,hl'];rw [aY (λg=>hl g.ln)];exact⟨rfl,λh=>h.1.1.elim⟩
def al2{p4 f4}(U4:Y9 p4 f4)(r a b:Int):
  WR.F (p4,f4,()) (r,a,b,()) (λy=>y=(inB a 0 65535&&inB b 0 65535&& (decide (r=1/\a=b\/r=2/\a<b)),())):=by
 dsimp only [WR,gm];simp (disch:=omega) only [RR,U4.hp,U4.hf];refine Prod.ext ?_ rfl;rw [Bool.eq_iff_iff];simp
def al3{p1 f1}(U1:Y13 p1 f1)(a:List (List aj))(ha:ShP a):
  WO.F (p1,f1,()) (a,()) (λy=>y=(a,())):=by
 have hlen:=ha.1;dsimp only [WO,gm];refine ak (λ(y:List (List aj)×Int×Int×List (List aj)×Unit)=>y.1=a/\y.2.1=a.length/\y.2.2.2.1=a.take y.2.2.1.toNat/\0<=y.2.2.1/\y.2.2.1<=a.length) (λy=>(a.length-y.2.2.1).toNat) ⟨rfl,rfl,by simp,by simp,by simp⟩ ?_;rintro⟨(l:List (List aj)),(m:Int),(i:Int),(o:List (List aj)),⟨⟩⟩ hI;dsimp only at hI ⊢;obtain⟨rfl,rfl,rfl,h1,h2⟩:=hI;simp (disch:=omega) only [RR,U1.hp _ (ha.at _),U1.hf _ (ha.at _)];refine⟨λh4=>⟨ah,ah,?_,⟨bI h1 h4 rfl,ah,ah⟩,ah⟩,λh4=>by rw [List.take_of_length_le ah]⟩;have:=List.length_take_le' i.toNat l;simp only [List.length_cons,List.length_nil];omega
structure Y56(pp:List (List aj)×Unit->Bool)(ff:List (List aj)×Unit->List (List aj)×Unit):Prop where
 hp:∀a,ShP a->pp (a,())=true
 hf:∀a,ShP a->ff (a,())=(a,())
def al4{p1 f1 p2 f2}(U1:Y13 p1 f1)(U2:Y56 p2 f2)(s:Sym)(hs:ShY s):
  WQ.F (p1,f1,p2,f2,()) (s,()) (λy=>y=(s.fin,s.k,s.events,s.regs,s.x,s.y,())):=by
 have hlen:=hs.e.1;dsimp only [WQ,gm];simp (disch:=omega) only [RR,RB,U1.hp _ hs.x,U1.hf _ hs.x,U1.hp _ hs.y,U1.hf _ hs.y,U2.hp _ hs.r,U2.hf _ hs.r];refine ak (λ(y:List Ev×Int×Int×Int×Int×Int×Int×List Ev×List (List aj)×List aj×List aj×Unit)=>y.1=s.events/\y.2.1=s.events.length/\y.2.2.2.2.2.1=s.fin/\y.2.2.2.2.2.2.1=s.k/\y.2.2.2.2.2.2.2.1=s.events.take y.2.2.1.toNat/\y.2.2.2.2.2.2.2.2.1=s.regs/\y.2.2.2.2.2.2.2.2.2.1=s.x/\y.2.2.2.2.2.2.2.2.2.2.1=s.y/\0<=y.2.2.1/\y.2.2.1<=s.events.length) (λy=>(s.events.length-y.2.2.1).toNat) ⟨rfl,rfl,rfl,rfl,by simp,rfl,rfl,rfl,by simp,by simp⟩ ?_;rintro⟨(l:List Ev),(m:Int),(i:Int),(q1:Int),(q2:Int),(q3:Int),(q4:Int),(o:List Ev),(r:List (List aj)),(u:List aj),(v:List aj),⟨⟩⟩ hI;dsimp only at hI ⊢;obtain⟨rfl,rfl,rfl,rfl,rfl,rfl,rfl,rfl,h1,h2⟩:=hI;have he:=hs.e.at i.toNat;simp (disch:=omega) only [RR,RB,U1.hp _ he.1,U1.hf _ he.1,U1.hp _ he.2.1,U1.hf _ he.2.1,U2.hp _ he.2.2,U2.hf _ he.2.2];refine⟨λh4=>⟨ah,ah,?_,⟨bI h1 h4 rfl,ah,ah⟩,ah⟩,λh4=>by rw [List.take_of_length_le ah]⟩;have:=List.length_take_le' i.toNat s.events;simp only [List.length_cons,List.length_nil];omega
def al5{p1 f1}(U1:Y28 p1 f1){p2:List Atom×Atom×Unit->Bool}{f2:List Atom×Atom×Unit->List Atom×Int×Unit}(hp2:∀(t:List Atom) a,t.length<1000000000->ShA a->p2 (t,a,())=true)(hf2:∀(t:List Atom) a,t.length<1000000000->ShA a->f2 (t,a,())=((aQ t a).1,(aQ t a).2,()))(kd k:Int)(t:List Atom)(fl:Bool)(ht:t.length<1000000000):
  Wq.F (p1,f1,p2,f2,()) (kd,k,t,fl,()) (λy=>y=if(aQ t ⟨kd,k,[],[]⟩).2<0 then([],t,true,())else(dx (aQ t ⟨kd,k,[],[]⟩).2,(aQ t ⟨kd,k,[],[]⟩).1,fl,())):=by
 have sa:ShA ⟨kd,k,[],[]⟩:=⟨mK,mK⟩;dsimp only [Wq,gm];simp (disch:=omega) only [RR,U1.hp,U1.hf,hp2 _ _ ht sa,hf2 _ _ ht sa];exact⟨λh=>by rw [if_pos h],λh=>by rw [if_neg h]⟩
theorem BO(t:List Atom)(n:Nat):rN t (n+1)=((aQ (rN t n).1 ⟨1,n,[],[]⟩).1,(rN t n).2++ [dx (aQ (rN t n).1 ⟨1,n,[],[]⟩).2]):=rfl
structure Y57(pp:Int×Int×List Atom×Bool×Unit->Bool)(ff:Int×Int×List Atom×Bool×Unit->List aj×List Atom×Bool×Unit):Prop where
 hp:∀kd k (t:List Atom) fl,t.length<1000000000->pp (kd,k,t,fl,())=true
 hf:∀kd k (t:List Atom) fl,t.length<1000000000->ff (kd,k,t,fl,())=if(aQ t ⟨kd,k,[],[]⟩).2<0 then([],t,true,())else(dx (aQ t ⟨kd,k,[],[]⟩).2,(aQ t ⟨kd,k,[],[]⟩).1,fl,())
def al6{p1 f1}(U1:Y57 p1 f1)(t:List Atom)(fl:Bool)(ht:aF t)(hl:t.length<=196):Ws.F (p1,f1,()) (t,fl,()) (λy=>y=((rN t 4).1,fl,(rN t 4).2,())):=by
 dsimp only [Ws,gm];refine ak (λ(y:Int×List Atom×Bool×List (List aj)×Unit)=>0<=y.1/\y.1<=4/\y.2.2.1=fl/\y.2.1=(rN t y.1.toNat).1/\y.2.2.2.1=(rN t y.1.toNat).2) (λy=>(4-y.1).toNat) ⟨by simp,by simp,rfl,rfl,rfl⟩ ?_;rintro⟨(i:Int),(u:List Atom),(g:Bool),(r:List (List aj)),⟨⟩⟩ hI;dsimp only at hI ⊢;obtain⟨h1,h2,rfl,rfl,rfl⟩:=hI;have ok:=Ba ht hl i.toNat ah;have l1:=ok.tl;have l2:=ok.r4;simp (disch:=omega) only [RR,U1.hp _ _ (rN t i.toNat).1 _ ah,U1.hf _ _ (rN t i.toNat).1 _ ah,List.length_cons,List.length_nil];refine⟨λh3=> ?_,λh3=> ?_⟩
 .have hp:=HZ ht hl (n:=i.toNat) ah;rw [show((i.toNat:Nat):Int)=i by omega]at hp;rw [if_neg ah];have e:(i+1).toNat=i.toNat+1:=by omega
  have e2:((i.toNat:Nat):Int)=i:=by omega
  refine⟨ah,⟨ah,ah,rfl,?_,?_⟩,ah⟩
  .rw [e,BO,e2]
  .rw [e,BO,e2]
 .rw [show i.toNat=4 by omega]
def agK(a:List (List aj))(h0:0<a.length)(h1:a.length<1000000000):Oc.F () (a,()) (λy=>y=(a,a,())):=by
 dsimp only [Oc,gm];simp (disch:=omega) only [RR,List.length_nil];exact⟨ah,ah,rfl⟩
structure Y58(pp:List Atom×Bool×Unit->Bool)(ff:List Atom×Bool×Unit->List Atom×Bool×List (List aj)×Unit):Prop where
 hp:∀(t:List Atom) fl,aF t->t.length<=196->pp (t,fl,())=true
 hf:∀(t:List Atom) fl,aF t->t.length<=196->ff (t,fl,())=((rN t 4).1,fl,(rN t 4).2,())
def al7{p2 f2 p1 f1}(U2:Y31 p2 f2)(U1:Y58 p1 f1):
  Ww.F (p2,f2,p1,f1,()) () (λy=>y.1=t4):=by
 have s4:ShT t4:=QW.1.sh;unfold t4 at s4 ⊢;dsimp only [Ww,gm];simp (disch:=omega) only [RR,U1.hp [] false pY (by simp),U1.hf [] false pY (by simp),U2.hp _ s4,U2.hf _ s4]
structure Y59(pp:Int×Int×Int×Unit->Bool)(ff:Int×Int×Int×Unit->Bool×Unit):Prop where
 hp:∀r a b,pp (r,a,b,())=true
 hf:∀r a b,ff (r,a,b,())=(inB a 0 65535&&inB b 0 65535&& (decide (r=1/\a=b\/r=2/\a<b)),())
def al8{p1 f1 p2 f2 p3 f3 p5 f5 p6 f6}(U1:Y27 p1 f1)(U2:Y11 p2 f2)(U3:Y8 p3 f3){p4:Sym×Unit->Bool}{f4:Sym×Unit->Int×Int×List Ev×List (List aj)×List aj×List aj×Unit}(hp4:∀s,ShY s->p4 (s,())=true)(hf4:∀s,ShY s->f4 (s,())=(s.fin,s.k,s.events,s.regs,s.x,s.y,()))(U5:Y14 p5 f5)(U6:Y59 p6 f6)(s:Sym)(n:Int)(hs:ShY s)(h0:0<=s.fin)(h1:s.fin<=4):WS.F (p1,f1,p2,f2,p3,f3,p4,f4,p5,f5,p6,f6,()) (s,n,()) (λy=>y=(symEnd s n,())):=by
 dsimp only [WS,gm];simp (disch:=omega) only [RR,RB,U1.hp _ hs.x,U1.hf _ hs.x,U1.hp _ hs.y,U1.hf _ hs.y,U2.hp _ hs.x,U2.hf _ hs.x,U2.hp _ hs.y,U2.hf _ hs.y,U3.hp _ _ hs.x,U3.hf _ _ hs.x,hp4 s hs,hf4 s hs,U5.hp _ _ hs.x,U5.hf _ _ hs.x,U6.hp,U6.hf];have xy:eH s.x s.y=0↔s.x=s.y:=fF;have rx:(bW s.x).2=true->inB (bW s.x).1 0 65535=true:=λh=>bM.2 (qK h).2.2
 have ry:(bW s.y).2=true->inB (bW s.y).1 0 65535=true:=λh=>bM.2 (qK h).2.2
 unfold symEnd;refine⟨λh=> ?_,λh=>⟨λg=> ?_,λg=>⟨λk=> ?_,λk=>⟨λl=>⟨λm=> ?_,λm=> ?_⟩,λl=>⟨λm=> ?_,λm=> ?_⟩⟩⟩⟩⟩
 .rw [if_pos (by rw [kL,Bool.and_eq_false_iff];exact h)];rfl
 all_goals rw [if_neg (by rw [kL,h.1,h.2];simp)]
 .rw [if_pos g]
 all_goals rw [if_neg (show¬(s.fin=2/\(bW s.x).2=true) by
  rintro⟨a,b⟩;rw [decide_eq_true a,b]at g;cases g)]
 .rw [if_pos k]
 all_goals rw [if_neg (show¬(s.fin≠3/\s.fin≠4) by
  rintro⟨a,b⟩;rw [decide_eq_false a,decide_eq_false b]at k;cases k)]
 .rw [if_pos (by rw [<-xy];exact l),if_neg];rintro(⟨q1,q2⟩ | ⟨⟨q1,q2⟩,q3⟩)
  .have:=m.1;rw [decide_eq_true (xy.2 q1),decide_eq_true q2]at this;cases this
  .have:=m.2;rw [q1,q2,rx q1,ry q2,decide_eq_true ah]at this;cases this
 .rw [if_pos (by rw [<-xy];exact l),if_pos];rcases m with⟨q1,q2⟩ | ⟨q1,_,q3⟩
  .exact Or.inl ⟨xy.1 q1,q2⟩
  .exact Or.inr ⟨q1,ah⟩
 all_goals rw [if_neg (show¬(s.x=s.y\/(bW s.x).2=true/\(bW s.y).2=true) by
  rintro(q | ⟨q1,q2⟩)
  .exact l.1 (xy.2 q)
  .have:=l.2;rw [q1,q2]at this;cases this)]
 .rw [if_pos m]
 .rw [if_neg];rintro⟨a,b⟩;rw [decide_eq_true a,decide_eq_true b]at m;cases m
noncomputable def SW (t:List Atom) (b:Blk) (i:Nat):SS:=(b.ops.take i).foldl stp (s0 t)
structure At(t:List Atom)(b:Blk)(i:Nat)(ld inn:Int)(tb:List Atom)(V:List (List aj))(ev:List Ev)(rg:List (List aj)):Prop where
 ld:ld=(SW t b i).ld
 inn:inn=(SW t b i).inn
 tb:tb=(SW t b i).t
 V:V=(SW t b i).vals++List.replicate (b.ops.length-i) []
 ev:ev=(SW t b i).evs
 rg:rg=(SW t b i).regs
def At.aps{t:List Atom}{b:Blk}{i:Nat}{ld inn:Int}{tb:List Atom}{V:List (List aj)}{ev:List Ev}{rg:List (List aj)}(h:At t b i ld inn tb V ev rg)(hv:(SW t b i).vals.length=i)(hi:i<=b.ops.length):V.length=b.ops.length:=by
 rw [h.V,List.length_append,List.length_replicate,hv];omega
def QY(t:List Atom):∀(l:List IOp) (s:SS),(l.foldl stp s).evs.length<=s.evs.length+l.length
 | [],s=>Nat.le_refl _
 | o::r,s=>by
  rw [List.foldl_cons,List.length_cons];have h1:=QY t r (stp s o);have h2:(stp s o).evs.length<=s.evs.length+1:=by
   show(nE s o).length<=_;unfold nE;split
   .rw [List.length_append];exact Nat.le_refl _
   .omega
  omega
theorem X3{t:List Atom}{b:Blk}(i:Nat)(hi:i<=b.ops.length):(SW t b i).evs.length<=i:=by
 have:=QY t (b.ops.take i) (s0 t);rw [List.length_take,Nat.min_eq_left hi]at this;show((b.ops.take i).foldl stp (s0 t)).evs.length<=i;have e:(s0 t).evs.length=0:=rfl;omega
def QZ{t:List Atom}{b:Blk}{i:Nat}(hi:i<b.ops.length):SW t b (i+1)=stp (SW t b i) (b.ops.getD i default):=by
 unfold SW;rw [OD _ _ hi,getD_lt hi]
def At.next{t:List Atom}{b:Blk}{i:Nat}{ld inn:Int}{tb:List Atom}{V:List (List aj)}{ev:List Ev}{rg:List (List aj)}(h:At t b i ld inn tb V ev rg)(hv:(SW t b i).vals.length=i)(hi:i<b.ops.length){o:IOp}(ho:b.ops.getD i default=o)
  {ld' X4:Int} {tb':List Atom} {V':List (List aj)} {ev':List Ev} {rg':List (List aj)} (h1:ld'=if o.kind=4 then ld+1 else ld) (h2:X4=if o.kind=6 then inn+1 else inn) (h3:tb'=nT (SW t b i) o) (h4:V'=V.set i (nV (SW t b i) o)) (h5:ev'=nE (SW t b i) o) (h6:rg'=nR (SW t b i) o):At t b (i+1) ld' X4 tb' V' ev' rg':=by
 have e:=QZ (t:=t) hi;rw [ho]at e;refine⟨?_,?_,?_,?_,?_,?_⟩<;>rw [e]
 .rw [h1,h.ld];rfl
 .rw [h2,h.inn];rfl
 .exact h3
 .rw [h4,h.V];show _=((SW t b i).vals++ [nV (SW t b i) o])++_;rw [List.set_append_right _ _ ah,hv,Nat.sub_self,show b.ops.length-i=(b.ops.length- (i+1))+1 by omega,List.replicate_succ,List.set_cons_zero,List.append_assoc];rfl
 .exact h5
 .exact h6
structure Y60(pp:Blk×Unit->Bool)(ff:Blk×Unit->Bool×Unit):Prop where
 hp:∀b,b.ops.length<1000000000->pp (b,())=true
 hf:∀b,b.ops.length<1000000000->ff (b,())=(bp (iD b),())
structure Y61(pp:IOp×Unit->Bool)(ff:IOp×Unit->Bool×Unit):Prop where
 hp:∀o,pp (o,())=true
 hf:∀o,ff (o,())=(decide (evO o),())
structure Y62(pp:Sym×Int×Unit->Bool)(ff:Sym×Int×Unit->Sym×Unit):Prop where
 hp:∀s n,ShY s->0<=s.fin->s.fin<=4->pp (s,n,())=true
 hf:∀s n,ShY s->0<=s.fin->s.fin<=4->ff (s,n,())=(symEnd s n,())
set_option maxHeartbeats 1000000 in
theorem al9{p1 f1 p2 f2 p3 f3 p4 f4 p5 f5 p6 f6 p7 f7 p8 f8 p9 f9 p10 f10 p11 f11}(U1:Y54 p1 f1)(U2:Y60 p2 f2)(U3:Y61 p3 f3)(U4:Y53 p4 f4)(U5:Y22 p5 f5)(U6:Y62 p6 f6)(U7:Y29 p7 f7)(U8:Y31 p8 f8)(U9:Y30 p9 f9)(U10:Y57 p10 f10)(U11:Y58 p11 f11){p12:List (List aj)×Unit->Bool}{f12:List (List aj)×Unit->List (List aj)×List (List aj)×Unit}(OH:∀a:List (List aj),0<a.length->a.length<1000000000->p12 (a,())=true)(OI:∀a:List (List aj),0<a.length->a.length<1000000000->f12 (a,())=(a,a,()))(t:List Atom)(b:Blk)(ht:ShT t)(hb:b.ops.length<1000000000):WT.F (p1,f1,p2,f2,p3,f3,p4,f4,p5,f5,p6,f6,p7,f7,p8,f8,p9,f9,p10,f10,p11,f11,p12,f12,()) (t,b,()) (λy=>y=((bO t b).1,(bO t b).2,())):=by
 obtain⟨hp1,hf1⟩:=U1;obtain⟨hp2,hf2⟩:=U2;obtain⟨hp3,hf3⟩:=U3;obtain⟨hp4,hf4⟩:=U4;obtain⟨hp5,hf5⟩:=U5;obtain⟨hp6,hf6⟩:=U6;obtain⟨hp7,hf7⟩:=U7;obtain⟨hp8,hf8⟩:=U8;obtain⟨hp9,hf9⟩:=U9;obtain⟨abY,agL⟩:=U10;obtain⟨abZ,ab0⟩:=U11;have hlt:=ht.1;dsimp only [WT,gm];simp (disch:=omega) only [RR,RB,hp7 t ht,hf7 t ht,hp2 b hb,hf2 b hb];by_cases c:aF t/\t.length<=100/\iD b
 case neg=>
  refine⟨λ_=> ?_,λh=> ?_⟩
  .unfold bO;rw [aY c];rfl
  .exact absurd ⟨aO.1 h.1.1,ah,aO.1 h.2⟩ c
 obtain⟨c1,c2,c3⟩:=c;simp (disch:=omega) only [RR,aW c1,aW c3,abZ t false c1 ah,ab0 t false c1 ah];have sz:=c3.sz;have hop:=c3.op;have hk3:=c3.k3;have i0:=FD c1 ah;have siw:∀j:Nat,j<=b.ops.length->SI (t.length+4) j (SW t b j):=λj hj=>by
  have:=(tV (b.ops.take j) 0 (s0 t) i0 (λo ho=>hk3 o (List.mem_of_mem_take ho)) (by rw [List.length_take];omega) (by rw [List.length_take];omega)).1;rw [List.length_take,Nat.min_eq_left hj,Nat.zero_add]at this;exact this
 refine⟨λh=>absurd h ah,λ_=>⟨ah,ah,?_⟩⟩
 refine ak (λ(y:Int×Int×List IOp×Int×Int×Blk×Int×Int×List Atom×Bool×Int×Int×List (List aj)×List Ev×List (List aj)×Unit)=>y.2.2.2.2.2.1=b/\y.2.2.1=b.ops/\y.2.2.2.1=b.ops.length/\y.2.2.2.2.2.2.2.2.2.1=false/\y.2.2.2.2.2.2.2.2.2.2.1=b.fin/\y.2.2.2.2.2.2.2.2.2.2.2.1=b.k/\
   0<=y.2.2.2.2.1/\y.2.2.2.2.1<=b.ops.length/\At t b y.2.2.2.2.1.toNat y.1 y.2.1 y.2.2.2.2.2.2.2.2.1 y.2.2.2.2.2.2.2.2.2.2.2.2.1 y.2.2.2.2.2.2.2.2.2.2.2.2.2.1 y.2.2.2.2.2.2.2.2.2.2.2.2.2.2.1) (λy=>(b.ops.length-y.2.2.2.2.1).toNat)
  ⟨rfl,rfl,rfl,rfl,rfl,rfl,by simp,by simp,⟨rfl,rfl,rfl,rfl,rfl,rfl⟩⟩ ?_
 rintro⟨(ld:Int),(inn:Int),(ops:List IOp),(n:Int),(i:Int),(b':Blk),(z1:Int),(z2:Int),(tb:List Atom),(fl:Bool),(fin:Int),(kk:Int),(V:List (List aj)),(ev:List Ev),(rg:List (List aj)),⟨⟩⟩ hI;dsimp only at hI ⊢;obtain⟨e1,e2,e3,e4,e5,e6,h1,h2,hA⟩:=hI;subst e1 e2 e3 e4 e5 e6;have hl:V.length=b'.ops.length:=hA.aps (siw i.toNat ah).vl ah;have si:=siw i.toNat ah;obtain⟨a1,a2,a3,a4,a5,a6⟩:=hA;have tl:tb.length<1000000000:=by rw [a3];have:=si.tl;omega
 have r4:rg.length=4:=by rw [a6];exact si.r4
 have evl:ev.length<=i.toNat:=by rw [a5];exact X3 i.toNat ah
 by_cases h7:i<b'.ops.length
 case neg=>
  have en:=c3.en;have hf:=en.f;have hpc:=c3.pc;have hln:=c3.ln;have ein:i.toNat=b'.ops.length:=by omega
  have eS:SW t b' i.toNat=gJ t b':=by unfold SW gJ;rw [ein,List.take_of_length_le (Nat.le_refl _)]
  rw [eS]at a1 a2 a3 a4 a5 a6 si;have eV:V=(gJ t b').vals:=by rw [a4,ein,Nat.sub_self];simp
  clear a4
  have pk:=Ia (b:=b') si;have eR:=qM c1 c2 c3;have sh:ShY (yL b' (gJ t b')):=by
   have i0:=FD c1 ah;have hs:=H9 b'.ops 0 (s0 t) i0 hk3 ah ah ⟨by simp [s0],λe he=>absurd he (by simp [s0])⟩;exact⟨⟨by have:=hs.1;show(b'.ops.foldl stp (s0 t)).evs.length<_;omega,hs.2⟩,si.regs,pk.1.sh,pk.2.sh⟩
  have st:=si.tok.sh;have q6:=hp6 (yL b' (gJ t b')) (b'.pc+b'.len) sh (by show 0<=b'.fin;omega) hf.2;have r6:=hf6 (yL b' (gJ t b')) (b'.pc+b'.len) sh (by show 0<=b'.fin;omega) hf.2;subst a1 a2 a3 a5 a6 eV;have x1:=en.x1;have y1:=en.y1;have sl:=si.vl;have E:yL b' (gJ t b')=⟨(gJ t b').evs,(gJ t b').regs,b'.fin,if b'.fin=1 then []else(((gJ t b').vals).getD (b'.x).toNat default),if 3<=b'.fin then(((gJ t b').vals).getD (b'.y).toNat default)else [],b'.k⟩:=rfl;rw [E]at q6 r6;rcases(by omega:b'.fin=1\/b'.fin=2\/3<=b'.fin)with c | c | c
  .have n2:¬3<=b'.fin:=by omega
   rw [if_pos c,if_neg n2]at q6 r6;simp (disch:=omega) only [RR,RB,h7,hp1,hf1,decide_eq_false n2,c,ne_eq,not_true_eq_false,decide_false,hp8 _ st,hf8 _ st];rw [c]at q6 r6;rw [eR,E,if_pos c,if_neg n2,c];exact⟨λh=>absurd h ah,λ_=>⟨q6,by rw [r6]⟩⟩
  .have n1:b'.fin≠1:=by omega
   have n2:¬3<=b'.fin:=by omega
   obtain⟨v1,v2,_⟩:=x1 n1;rw [if_neg n1,if_neg n2]at q6 r6;simp (disch:=omega) only [RR,RB,h7,hp1,hf1,decide_eq_true n1,decide_eq_false n2,hp8 _ st,hf8 _ st];rw [eR,E,if_neg n1,if_neg n2];exact⟨v1,ah,v1,ah,q6,by rw [r6]⟩
  .have n1:b'.fin≠1:=by omega
   obtain⟨v1,v2,_⟩:=x1 n1;obtain⟨w1,w2,_⟩:=y1 c;rw [if_neg n1,if_pos c]at q6 r6;simp (disch:=omega) only [RR,RB,h7,hp1,hf1,decide_eq_true n1,decide_eq_true c,hp8 _ st,hf8 _ st];rw [eR,E,if_neg n1,if_pos c];exact⟨v1,ah,v1,ah,w1,ah,w1,ah,q6,by rw [r6]⟩
 have hok:=hop i h1 h7;have nxt:=λ{ld' X4:Int} {tb':List Atom} {V':List (List aj)} {ev':List Ev} {rg':List (List aj)}=>At.next (t:=t) (b:=b') (i:=i.toNat) (o:=((b'.ops).getD (i).toNat default)) ⟨a1,a2,a3,a4,a5,a6⟩ si.vl ah rfl (ld':=ld') (X4:=X4) (tb':=tb') (V':=V') (ev':=ev') (rg':=rg')
 have ei:(i+1).toNat=i.toNat+1:=by omega
 have vx:∀j:Int,0<=j->j<i->((V).getD (j).toNat default)=(((SW t b' i.toNat).vals).getD (j).toNat default):=λj j1 j2=>by
  have:=si.vl;rw [a4,getD_lt (by rw [List.length_append];omega),getD_lt ah,List.getElem_append_left]
 have ex:hX ((b'.ops).getD (i).toNat default)->((V).getD ((((b'.ops).getD (i).toNat default)).x).toNat default)=xOf (SW t b' i.toNat) ((b'.ops).getD (i).toNat default):=λh=>by
  unfold xOf;rw [if_pos h];exact vx _ (hok.x1 h).1 (hok.x1 h).2.1
 have ey:hY ((b'.ops).getD (i).toNat default)->((V).getD ((((b'.ops).getD (i).toNat default)).y).toNat default)=yOf (SW t b' i.toNat) ((b'.ops).getD (i).toNat default):=λh=>by
  unfold yOf;rw [if_pos h];exact vx _ (hok.y1 h).1 (hok.y1 h).2.1
 have v0:V.set i.toNat []=V:=by
  have:=si.vl;rw [a4,List.set_append_right _ _ ah,this,Nat.sub_self,show b'.ops.length-i.toNat=(b'.ops.length- (i.toNat+1))+1 by omega,List.replicate_succ,List.set_cons_zero]
 obtain⟨sn,so⟩:=tT (o:=((b'.ops).getD (i).toNat default)) si hok.k3 ah ah;have gl:=si.ld;have gi:=si.inn;have shx:=(si.x ((b'.ops).getD (i).toNat default)).1.sh;have shy:=(si.y ((b'.ops).getD (i).toNat default)).1.sh;generalize hs:SW t b' i.toNat=s at*;generalize ho:((b'.ops).getD (i).toNat default)=o at*;have kd:=hok.kd;subst a1 a2 a3 a5 a6;have L0:o.kind≠4->s.ld=if o.kind=4 then s.ld+1 else s.ld:=λh=>by rw [if_neg h]
 have I0:o.kind≠6->s.inn=if o.kind=6 then s.inn+1 else s.inn:=λh=>by rw [if_neg h]
 have T0:o.kind≠3->o.kind≠4->o.kind≠6->s.t=nT s o:=λh3 h4 h6=>by unfold nT;rw [if_neg h3,if_neg ah]
 have R0:o.kind≠8->s.regs=nR s o:=λh=>by unfold nR;rw [if_neg h]
 have E0:¬evO o->s.evs=nE s o:=λh=>by unfold nE;rw [if_neg h]
 have V0:o.kind=5\/o.kind=7\/o.kind=8->V=V.set i.toNat (nV s o):=λh=>by
  rw [show nV s o=[] by unfold nV;rw [if_neg ah,if_neg ah,if_neg ah,if_neg ah],v0]
 have P0:∀kd k,0<=(aQ s.t ⟨kd,k,[],[]⟩).2->f10 (kd,k,s.t,false,())=(dx (aQ s.t ⟨kd,k,[],[]⟩).2,(aQ s.t ⟨kd,k,[],[]⟩).1,false,()):=λkd k h=>by
  rw [agL _ _ _ _ tl,if_neg ah]
 have y0:¬hY o->yOf s o=[]:=λh=>by unfold yOf;rw [if_neg h]
 have x0:¬hX o->xOf s o=[]:=λh=>by unfold xOf;rw [if_neg h]
 rcases(by omega:o.kind=1\/o.kind=2\/o.kind=3\/o.kind=4\/o.kind=5\/o.kind=6\/o.kind=7\/o.kind=8)with c | c | c | c | c | c | c | c
 .have dX:decide (hX o)=false:=decide_eq_false (by unfold hX;omega);have dY:decide (hY o)=false:=decide_eq_false (by unfold hY;omega);have dE:decide (evO o)=false:=decide_eq_false (by unfold evO;omega);have N:At t b' (i.toNat+1) s.ld s.inn s.t (V.set i.toNat (bR o.k)) s.evs s.regs:=nxt (L0 ah) (I0 ah) (T0 ah ah ah) (by unfold nV;rw [if_pos c]) (E0 (by unfold evO;omega)) (R0 ah);simp (disch:=omega) only [RR,RB,ho,h7,hp4,hf4,hp3,hf3,dX,dY,dE,c,Int.reduceEq,List.length_cons,List.length_nil,hp5,hf5]
  repeat' apply And.intro
  all_goals first | omega | (rw [ei];exact N)
 .have dX:decide (hX o)=false:=decide_eq_false (by unfold hX;omega);have dY:decide (hY o)=false:=decide_eq_false (by unfold hY;omega);have dE:decide (evO o)=false:=decide_eq_false (by unfold evO;omega);have k2:=hok.k2 (Or.inl c);have N:At t b' (i.toNat+1) s.ld s.inn s.t (V.set i.toNat ((s.regs).getD (o.k).toNat default)) s.evs s.regs:=nxt (L0 ah) (I0 ah) (T0 ah ah ah) (by unfold nV;rw [if_neg ah,if_pos c]) (E0 (by unfold evO;omega)) (R0 ah);simp (disch:=omega) only [RR,RB,ho,h7,hp4,hf4,hp3,hf3,dX,dY,dE,c,Int.reduceEq,List.length_cons,List.length_nil,r4]
  repeat' apply And.intro
  all_goals first | omega | (rw [ei];exact N)
 .have dX:decide (hX o)=true:=decide_eq_true (by unfold hX;omega);have dY:decide (hY o)=true:=decide_eq_true (by unfold hY;omega);have dE:decide (evO o)=false:=decide_eq_false (by unfold evO;omega);have v1:=hok.x1 (by unfold hX;omega);have v2:=hok.y1 (by unfold hY;omega);have u1:=v1.2.1;have u2:=v2.2.1;have w1:=v1.1;have w2:=v2.1;obtain⟨d1,d2,d3⟩:=hf9 s.t o.k _ _ tl shx shy;have d4:=(so.d c).ok;have N:At t b' (i.toNat+1) s.ld s.inn (tDo s.t o.k (xOf s o) (yOf s o)).1 (V.set i.toNat (tDo s.t o.k (xOf s o) (yOf s o)).2) s.evs s.regs:=nxt (L0 ah) (I0 ah) (by unfold nT;rw [if_pos c]) (by unfold nV;rw [if_neg ah,if_neg ah,if_pos c]) (E0 (by unfold evO;omega)) (R0 ah);simp (disch:=omega) only [RR,RB,ho,h7,hp4,hf4,hp3,hf3,dX,dY,dE,c,Int.reduceEq,List.length_cons,List.length_nil,ex (by unfold hX;omega),ey (by unfold hY;omega),hp9 s.t o.k _ _ tl shx shy,d1,d2,d3,d4]
  repeat' apply And.intro
  all_goals first | omega | (rw [ei];exact N)
 .have dX:decide (hX o)=true:=decide_eq_true (by unfold hX;omega);have dY:decide (hY o)=false:=decide_eq_false (by unfold hY;omega);have dE:decide (evO o)=true:=decide_eq_true (by unfold evO;omega);have v1:=hok.x1 (by unfold hX;omega);have u1:=v1.2.1;have w1:=v1.1;have ea:aOf s o=⟨2,s.ld,[],[]⟩:=by unfold aOf;rw [if_pos c]
  have pp:=so.p (Or.inl c);rw [ea]at pp;have N:At t b' (i.toNat+1) (s.ld+1) s.inn (aQ s.t ⟨2,s.ld,[],[]⟩).1 (V.set i.toNat (dx (aQ s.t ⟨2,s.ld,[],[]⟩).2)) (s.evs++ [⟨4,o.at_,xOf s o,[],s.regs⟩]) s.regs:=nxt (by rw [if_pos c]) (I0 ah) (by unfold nT;rw [if_neg ah,if_pos (Or.inl c),ea]) (by unfold nV;rw [if_neg ah,if_neg ah,if_neg ah,if_pos (Or.inl c),ea]) (by unfold nE;rw [if_pos (by unfold evO;omega),if_pos (Or.inl c),c,y0 (by unfold hY;omega)]) (R0 ah);simp (disch:=omega) only [RR,RB,ho,h7,hp4,hf4,hp3,hf3,dX,dY,dE,c,Int.reduceEq,List.length_cons,List.length_nil,ex (by unfold hX;omega),OH s.regs ah ah,OI s.regs ah ah,abY 2 s.ld s.t false tl,P0 2 s.ld pp]
  repeat' apply And.intro
  all_goals first | omega | (rw [ei];exact N)
 .have dX:decide (hX o)=true:=decide_eq_true (by unfold hX;omega);have dY:decide (hY o)=true:=decide_eq_true (by unfold hY;omega);have dE:decide (evO o)=true:=decide_eq_true (by unfold evO;omega);have v1:=hok.x1 (by unfold hX;omega);have v2:=hok.y1 (by unfold hY;omega);have u1:=v1.2.1;have u2:=v2.2.1;have w1:=v1.1;have w2:=v2.1;have N:At t b' (i.toNat+1) s.ld s.inn s.t V (s.evs++ [⟨5,o.at_,xOf s o,yOf s o,s.regs⟩]) s.regs:=nxt (L0 ah) (I0 ah) (T0 ah ah ah) (V0 ah) (by unfold nE;rw [if_pos (by unfold evO;omega),if_pos (Or.inr c),c]) (R0 ah);simp (disch:=omega) only [RR,RB,ho,h7,hp4,hf4,hp3,hf3,dX,dY,dE,c,Int.reduceEq,List.length_cons,List.length_nil,ex (by unfold hX;omega),ey (by unfold hY;omega),OH s.regs ah ah,OI s.regs ah ah]
  repeat' apply And.intro
  all_goals first | omega | (rw [ei];exact N)
 .have dX:decide (hX o)=false:=decide_eq_false (by unfold hX;omega);have dY:decide (hY o)=false:=decide_eq_false (by unfold hY;omega);have dE:decide (evO o)=true:=decide_eq_true (by unfold evO;omega);have ea:aOf s o=⟨3,s.inn,[],[]⟩:=by unfold aOf;rw [if_neg ah]
  have pp:=so.p (Or.inr c);rw [ea]at pp;have N:At t b' (i.toNat+1) s.ld (s.inn+1) (aQ s.t ⟨3,s.inn,[],[]⟩).1 (V.set i.toNat (dx (aQ s.t ⟨3,s.inn,[],[]⟩).2)) (s.evs++ [⟨6,o.at_,[],[],[]⟩]) s.regs:=nxt (L0 ah) (by rw [if_pos c]) (by unfold nT;rw [if_neg ah,if_pos (Or.inr c),ea]) (by unfold nV;rw [if_neg ah,if_neg ah,if_neg ah,if_pos (Or.inr c),ea]) (by unfold nE;rw [if_pos (by unfold evO;omega),if_neg ah,c,x0 (by unfold hX;omega),y0 (by unfold hY;omega)]) (R0 ah);simp (disch:=omega) only [RR,RB,ho,h7,hp4,hf4,hp3,hf3,dX,dY,dE,c,Int.reduceEq,List.length_cons,List.length_nil,abY 3 s.inn s.t false tl,P0 3 s.inn pp]
  repeat' apply And.intro
  all_goals first | omega | (rw [ei];exact N)
 .have dX:decide (hX o)=true:=decide_eq_true (by unfold hX;omega);have dY:decide (hY o)=false:=decide_eq_false (by unfold hY;omega);have dE:decide (evO o)=true:=decide_eq_true (by unfold evO;omega);have v1:=hok.x1 (by unfold hX;omega);have u1:=v1.2.1;have w1:=v1.1;have N:At t b' (i.toNat+1) s.ld s.inn s.t V (s.evs++ [⟨7,o.at_,xOf s o,[],[]⟩]) s.regs:=nxt (L0 ah) (I0 ah) (T0 ah ah ah) (V0 ah) (by unfold nE;rw [if_pos (by unfold evO;omega),if_neg ah,c,y0 (by unfold hY;omega)]) (R0 ah);simp (disch:=omega) only [RR,RB,ho,h7,hp4,hf4,hp3,hf3,dX,dY,dE,c,Int.reduceEq,List.length_cons,List.length_nil,ex (by unfold hX;omega)]
  repeat' apply And.intro
  all_goals first | omega | (rw [ei];exact N)
 .have dX:decide (hX o)=true:=decide_eq_true (by unfold hX;omega);have dY:decide (hY o)=false:=decide_eq_false (by unfold hY;omega);have dE:decide (evO o)=false:=decide_eq_false (by unfold evO;omega);have v1:=hok.x1 (by unfold hX;omega);have u1:=v1.2.1;have w1:=v1.1;have k2:=hok.k2 (Or.inr c);have N:At t b' (i.toNat+1) s.ld s.inn s.t V s.evs (s.regs.set o.k.toNat (xOf s o)):=nxt (L0 ah) (I0 ah) (T0 ah ah ah) (V0 ah) (E0 (by unfold evO;omega)) (by unfold nR;rw [if_pos c]);simp (disch:=omega) only [RR,RB,ho,h7,hp4,hf4,hp3,hf3,dX,dY,dE,c,Int.reduceEq,List.length_cons,List.length_nil,ex (by unfold hX;omega),r4]
  repeat' apply And.intro
  all_goals first | omega | (rw [ei];exact N)
structure Y63(pp:Ins×Unit->Bool)(ff:Ins×Unit->Bool×Unit):Prop where
 hp:∀i,pp (i,())=true
structure Y64(pp:Int×Unit->Bool)(ff:Int×Unit->Bool×Unit):Prop where
 hp:∀i,pp (i,())=true
 hf:∀i,ff (i,())=(bp (11<=i/\i<=13),())
structure Y65(pp:Int×Int×Int×Int×Int×Int×IOp×List IOp×Unit->Bool)(ff:Int×Int×Int×Int×Int×Int×IOp×List IOp×Unit->Int×Int×Int×Int×Int×Int×Int×List IOp×Unit):Prop where
 hp:∀a1 a2 a3 a4 a5 a6 o ops,(ops.length:Int)<1000000->pp (a1,a2,a3,a4,a5,a6,o,ops,())=true
 hf:∀a1 a2 a3 a4 a5 a6 o ops,(ops.length:Int)<1000000->((ff (a1,a2,a3,a4,a5,a6,o,ops,())).2.2.2.2.2.2.2.1.length:Int)=ops.length+1
structure Y66(pp:Int×Int×Int×Int×Int×Int×Int×List IOp×Unit->Bool)(ff:Int×Int×Int×Int×Int×Int×Int×List IOp×Unit->Int×Int×Int×Int×Int×Int×Int×List IOp×Unit):Prop where
 hp:∀a1 a2 a3 a4 a5 a6 k ops,(ops.length:Int)<1000000->pp (a1,a2,a3,a4,a5,a6,k,ops,())=true
 hf:∀a1 a2 a3 a4 a5 a6 k ops,(ops.length:Int)<1000000->((ff (a1,a2,a3,a4,a5,a6,k,ops,())).2.2.2.2.2.2.2.1.length:Int)=ops.length+1
structure Y67(pp:Int×Int×Int×Int×Int×Int×Int×Int×IOp×List IOp×Unit->Bool)(ff:Int×Int×Int×Int×Int×Int×Int×Int×IOp×List IOp×Unit->Int×Int×Int×Int×Int×Int×Int×List IOp×Unit):Prop where
 hp:∀a1 a2 a3 a4 a5 a6 k a o ops,(ops.length:Int)<999000->pp (a1,a2,a3,a4,a5,a6,k,a,o,ops,())=true
 hf:∀a1 a2 a3 a4 a5 a6 k a o ops,(ops.length:Int)<999000->((ff (a1,a2,a3,a4,a5,a6,k,a,o,ops,())).2.2.2.2.2.2.2.1.length:Int)=ops.length+3
structure Y68(pp:Int×Int×Int×Int×Int×Int×Int×Int×List IOp×Unit->Bool)(ff:Int×Int×Int×Int×Int×Int×Int×Int×List IOp×Unit->Int×Int×Int×Int×Int×Int×List IOp×Unit):Prop where
 hp:∀a1 a2 a3 a4 a5 a6 k x ops,(ops.length:Int)<1000000->pp (a1,a2,a3,a4,a5,a6,k,x,ops,())=true
 hf:∀a1 a2 a3 a4 a5 a6 k x ops,(ops.length:Int)<1000000->((ff (a1,a2,a3,a4,a5,a6,k,x,ops,())).2.2.2.2.2.2.1.length:Int)=ops.length+1
def KB(l:List Ins):Prop:=∀i∈l,i.k<1000
def KB.at{l:List Ins}(h:KB l)(n:Nat):(l.getD n default).k<1000:=by
 by_cases h1:n<l.length
 .rw [getD_lt h1];exact h _ (List.getElem_mem _)
 .simp only [List.getD,List.getElem?_eq_none (by omega:l.length<=n)];decide
structure Y69(pp:Int×List Ins×Unit->Bool)(ff:Int×List Ins×Unit->Bool×Unit):Prop where
 hp:∀pc l,(l.length:Int)<1000->pp (pc,l,())=true
structure InD(m:Int)(b:List Int)(p:Int)(y:Int×Int×Int×Int×List Int×Int×Unit):Prop where
 b:y.2.2.2.2.1=b
 lo:p<=y.2.2.2.2.2.1
 hi:y.2.2.2.2.2.1<=p+m
 k:0<=y.2.2.2.1/\y.2.2.2.1<=255
structure Y70(pp:List Int×Int×Unit->Bool)(ff:List Int×Int×Unit->Int×Int×Int×Int×List Int×Int×Unit):Prop where
 hp:∀b p,Bt b->0<=p->p<900000000->pp (b,p,())=true
 hf:∀b p,Bt b->0<=p->p<900000000->InD 20 b p (ff (b,p,()))
structure LiD(b:List Int)(p:Int)(y:List Int×Int×List Ins×Unit):Prop where
 b:y.1=b
 lo:p<=y.2.1
 hi:y.2.1<=p+1000
 len:(y.2.2.1.length:Int)<=20
 k:KB y.2.2.1
 l1:1<=y.2.2.1.length
def KB.app{l:List Ins}{i:Ins}(h:KB l)(h2:i.k<=255):KB (l++ [i]):=λx hx=>by
 rw [List.mem_append,List.mem_singleton]at hx;rcases hx with hx | rfl
 .exact h x hx
 .omega
structure Y71(pp:List Int×Int×Unit->Bool)(ff:List Int×Int×Unit->Int×Int×Int×Int×List Int×Int×Unit):Prop where
 hp:∀b p,Bt b->0<=p->p<800000000->pp (b,p,())=true
 hf:∀b p,Bt b->0<=p->p<800000000->InD 30 b p (ff (b,p,()))
def kn(ops:List IOp)(k:Int):Int×Bool:=if 0<=k/\k<ops.length/\(((ops).getD (k).toNat default)).kind=1 then((((ops).getD (k).toNat default)).k,true)else(0,false)
abbrev bk7(b : Blk) : Int × Int × Int × Int × Int × Int × List IOp × Unit := (b.pc, b.len, b.fin, b.x, b.y, b.k, b.ops, ())
structure FE(b:Blk):Prop where
 f:1<=b.fin/\b.fin<=4
 x:b.fin≠1->0<=b.x/\b.x<b.ops.length
 y:3<=b.fin->0<=b.y/\b.y<b.ops.length
 y0:b.fin<=2->b.y=0
 p:0<=b.pc/\b.pc<=100/\0<=b.len/\b.len<=100
structure Y72(pp:List IOp×Int×Unit->Bool)(ff:List IOp×Int×Unit->Int×Bool×Unit):Prop where
 hp:∀ops k,pp (ops,k,())=true
 hf:∀ops k,ff (ops,k,())=((kn ops k).1,(kn ops k).2,())
structure Y73(pp:Blk×Unit->Bool)(ff:Blk×Unit->Blk×Unit):Prop where
 hp:∀b,b.ops.length<1000000->pp (b,())=true
 hf:∀b,b.ops.length<1000000->ff (b,())=(J7 b,())
structure Y74(pp:Blk×Unit->Bool)(ff:Blk×Unit->Int×Int×Int×Int×Int×Int×List IOp×Unit):Prop where
 hp:∀b,b.ops.length<1000000->pp (b,())=true
 hf:∀b,b.ops.length<1000000->ff (b,())=bk7 (Ic b)
structure Y75(pp:Blk×Unit->Bool)(ff:Blk×Unit->Int×Int×Int×Int×Int×Int×List IOp×Unit):Prop where
 hp:∀b,b.ops.length<1000000->pp (b,())=true
 hf:∀b,b.ops.length<1000000->ff (b,())=bk7 (BN b)
structure Y76(pp:Blk×Unit->Bool)(ff:Blk×Unit->Int×Int×Int×Int×Int×Int×List IOp×Unit):Prop where
 hp:∀b,b.ops.length<1000000->pp (b,())=true
 hf:∀b,b.ops.length<1000000->ff (b,())=bk7 (Ie b)
structure Y77(pp:Blk×Unit->Bool)(ff:Blk×Unit->Int×Int×Int×Int×Int×Int×List IOp×Unit):Prop where
 hp:∀b,b.ops.length<1000000->pp (b,())=true
 hf:∀b,b.ops.length<1000000->ff (b,())=(b.pc,b.len,b.fin,b.x,b.y,b.k,b.ops,())
structure Y78(pp:IOp×List Int×Unit->Bool)(ff:IOp×List Int×Unit->IOp×Unit):Prop where
 hp:∀o al,(1<=o.kind/\o.kind<=8)->(hX o->0<=o.x/\o.x< (al.length:Int))->(hY o->0<=o.y/\o.y< (al.length:Int))->pp (o,al,())=true
 hf:∀o al,(1<=o.kind/\o.kind<=8)->(hX o->0<=o.x/\o.x< (al.length:Int))->(hY o->0<=o.y/\o.y< (al.length:Int))->ff (o,al,())=(ren al o,())
structure Y79(pp:Blk×Unit->Bool)(ff:Blk×Unit->List Bool×Unit):Prop where
 hp:∀b,b.ops.length<1000000->pp (b,())=true
 hf:∀b,b.ops.length<1000000->ff (b,())=(abX b,())
structure Y80(pp:Blk×List Bool×Unit->Bool)(ff:Blk×List Bool×Unit->Int×Int×Int×Int×Int×Int×List IOp×Unit):Prop where
 hp:∀b kp,iD b->kp.length=b.ops.length->pp (b,kp,())=true
 hf:∀b kp,iD b->kp.length=b.ops.length->ff (b,kp,())=bk7 (XZ b kp)
structure BkD(m:Int)(n:Nat)(b:List Int)(p:Int)(y:Int×Int×Int×Int×Int×Int×List Int×Int×List IOp×Unit):Prop where
 b:y.2.2.2.2.2.2.1=b
 lo:p<=y.2.2.2.2.2.2.2.1
 hi:y.2.2.2.2.2.2.2.1<=p+m
 len:y.2.2.2.2.2.2.2.2.1.length<=n
structure Y81(pp:Blk×Unit->Bool)(ff:Blk×Unit->Int×Int×Int×Int×Int×Int×List IOp×Unit):Prop where
 hp:∀b,b.ops.length<1000000->pp (b,())=true
 hf:∀b,b.ops.length<1000000->ff (b,())=bk7 (X0 b)
structure Y82(pp:List Int×Int×Unit->Bool)(ff:List Int×Int×Unit->List Int×Int×List Ins×Unit):Prop where
 hp:∀b p,Bt b->0<=p->p<700000000->pp (b,p,())=true
 hf:∀b p,Bt b->0<=p->p<700000000->LiD b p (ff (b,p,()))
structure BoD(b:List Int)(p:Int)(y:Blk×List Int×Int×Unit):Prop where
 len:y.1.ops.length<100000
 b:y.2.1=b
 lo:p<=y.2.2.1
 hi:y.2.2.1<=p+5000
structure Y83(pp:Blk×List Int×Int×Unit->Bool)(ff:Blk×List Int×Int×Unit->Int×Int×Int×Int×Int×Int×List Int×Int×List IOp×Unit):Prop where
 hp:∀c b p,c.ops.length<1000000->Bt b->0<=p->p<900000000->pp (c,b,p,())=true
 hf:∀c b p,c.ops.length<1000000->Bt b->0<=p->p<900000000->BkD 20 c.ops.length b p (ff (c,b,p,()))/\(ff (c,b,p,())).1=c.pc
structure Y84(pp:List Int×Int×Unit->Bool)(ff:List Int×Int×Unit->Int×Int×Int×Int×Int×Int×List Int×Int×List IOp×Unit):Prop where
 hp:∀b p,Bt b->0<=p->p<600000000->pp (b,p,())=true
 hf:∀b p,Bt b->0<=p->p<600000000->BkD 2000 5000 b p (ff (b,p,()))
structure Y85(pp:Int×List Int×Int×Unit->Bool)(ff:Int×List Int×Int×Unit->Blk×List Int×Int×Unit):Prop where
 hp:∀n b p,Bt b->0<=p->p<500000000->pp (n,b,p,())=true
 hf:∀n b p,Bt b->0<=p->p<500000000->BoD b p (ff (n,b,p,()))
structure Y86(pp:Blk×List Int×Int×Unit->Bool)(ff:Blk×List Int×Int×Unit->Int×Int×Int×Int×Int×Int×List Int×Int×List IOp×Unit):Prop where
 hp:∀c b p,iD c->c.ops.length<1000000->Bt b->0<=p->p<600000000->pp (c,b,p,())=true
 hf:∀c b p,iD c->c.ops.length<1000000->Bt b->0<=p->p<600000000->BkD 1000000 c.ops.length b p (ff (c,b,p,()))
structure Y87(pp:Int×List Int×Int×Unit->Bool)(ff:Int×List Int×Int×Unit->Blk×Blk×List Int×Int×Unit):Prop where
 hp:∀n b p,Bt b->0<=p->p<400000000->pp (n,b,p,())=true
 hf:∀n b p,Bt b->0<=p->p<400000000->(ff (n,b,p,())).1.ops.length<100000/\(ff (n,b,p,())).2.1.ops.length<100000/\(ff (n,b,p,())).2.2.1=b/\p<=(ff (n,b,p,())).2.2.2.1/\(ff (n,b,p,())).2.2.2.1<=p+10000000
structure Y88(pp:List (List aj)×List (List aj)×Unit->Bool)(ff:List (List aj)×List (List aj)×Unit->Bool×Unit):Prop where
 hp:∀a b,ShP a->pp (a,b,())=true
 hf:∀a b,ShP a->ff (a,b,())=(bp (a=b),())
structure Y89(pp:List Atom×Blk×Unit->Bool)(ff:List Atom×Blk×Unit->List Atom×Sym×Unit):Prop where
 hp:∀t b,ShT t->b.ops.length<1000000000->pp (t,b,())=true
 hf:∀t b,ShT t->b.ops.length<1000000000->ff (t,b,())=((bO t b).1,(bO t b).2,())
structure Y90(pp:List Int×Unit->Bool)(ff:List Int×Unit->List Atom×Blk×Unit):Prop where
 hp:∀c,By c->c.length<1000000000->pp (c,())=true
 hf:∀c,By c->c.length<1000000000->ShT (ff (c,())).1/\0< (ff (c,())).1.length/\(ff (c,())).2.1.ops.length<100000
structure Y91(pp:Sym×Sym×Unit->Bool)(ff:Sym×Sym×Unit->Bool×Unit):Prop where
 hp:∀a b,a=b->ShY a->pp (a,b,())=true
 hf:∀a b,a=b->ShY a->ff (a,b,())=(true,())
theorem adi(x y:IOp):akw .iop x y=decide (x=y):=rfl
def Am{P:Prop}[Decidable P]:decide P=bp P:=by unfold bp;congr
def X5(a b:List IOp)(ha:a.length<1000000000):NV.F () (a,b,()) (λy=>y=(bp (a=b),())):=by
 dsimp only [NV,gm];simp (disch:=omega) only [RR];refine⟨λh=> ?_,λh=> ?_⟩
 .rw [aY (λe=>h (by rw [e]))]
 have hl:a.length=b.length:=by omega
 refine ak (λ(y:List IOp×List IOp×Int×Int×Unit)=>y.1=a/\y.2.1=b/\y.2.2.1=a.length/\0<=y.2.2.2.1/\y.2.2.2.1<=a.length/\All y.2.2.2.1 (λi=>a.getD i.toNat default=b.getD i.toNat default)) (λy=>(a.length-y.2.2.2.1).toNat) ⟨rfl,rfl,rfl,by simp,by simp,All.zero⟩ ?_;rintro⟨(l1:List IOp),(l2:List IOp),(n:Int),(i:Int),⟨⟩⟩ hI;dsimp only at hI ⊢;obtain⟨rfl,rfl,rfl,h1,h2,h3⟩:=hI;simp (disch:=omega) only [RR,adi];refine⟨λh4=>⟨ah,ah,ah,ah,λh5=> ?_,λh5=>⟨⟨ah,ah,h3.snoc h5⟩,ah⟩⟩,λh4=> ?_⟩
 .rw [aY];intro e;rw [e]at h5;exact h5 rfl
 .rw [aW (jW hl (h3.le ah))]
structure Y92(pp:List IOp×List IOp×Unit->Bool)(ff:List IOp×List IOp×Unit->Bool×Unit):Prop where
 hp:∀a b,a.length<1000000000->pp (a,b,())=true
 hf:∀a b,a.length<1000000000->ff (a,b,())=(bp (a=b),())
def ama{p1 f1}(U1:Y92 p1 f1)(a b:Blk)(ha:a.ops.length<1000000000):VZ.F (p1,f1,()) (a,b,()) (λy=>y=(bp (a=b),())):=by
 dsimp only [VZ,gm];simp (disch:=omega) only [RR,RB,U1.hp _ _ ha,U1.hf _ _ ha];simp only [Am,<-kL];refine Prod.ext (kM ?_) rfl;cases a;cases b;simp only [Blk.mk.injEq];constructor<;>(intro h;simp only [h,and_self])
def amb{p1 f1}(U1:Y14 p1 f1)(a b:List aj)(ha:Sh a):WU.F (p1,f1,()) (a,b,()) (λy=>y=(decide (eH a b=0),())):=by
 dsimp only [WU,gm];simp (disch:=omega) only [RR,U1.hp _ _ ha,U1.hf _ _ ha]
def agM{p1 f1}(U1:Y14 p1 f1)(a b:List (List aj))(ha:ShP a):Ow.F (p1,f1,()) (a,b,()) (λy=>y=(bp (a=b),())):=by
 have hlen:=ha.1;dsimp only [Ow,gm];simp (disch:=omega) only [RR];refine⟨λh=> ?_,λh=> ?_⟩
 .rw [aY (λe=>h (by rw [e]))]
 have hl:a.length=b.length:=by omega
 refine ak (λ(y:List (List aj)×List (List aj)×Int×Int×Unit)=>y.1=b/\y.2.1=a/\y.2.2.1=a.length/\0<=y.2.2.2.1/\y.2.2.2.1<=a.length/\All y.2.2.2.1 (λi=>a.getD i.toNat default=b.getD i.toNat default)) (λy=>(a.length-y.2.2.2.1).toNat) ⟨rfl,rfl,rfl,by simp,by simp,All.zero⟩ ?_;rintro⟨(l1:List (List aj)),(l2:List (List aj)),(n:Int),(i:Int),⟨⟩⟩ hI;dsimp only at hI ⊢;obtain⟨rfl,rfl,rfl,h1,h2,h3⟩:=hI;simp (disch:=omega) only [RR,U1.hp _ _ (ha.at _),U1.hf _ _ (ha.at _),fF];refine⟨λh4=>⟨ah,ah,ah,ah,λh5=> ?_,λh5=>⟨⟨ah,ah,h3.snoc h5⟩,ah⟩⟩,λh4=> ?_⟩
 .rw [aY];intro e;rw [e]at h5;exact h5 rfl
 .rw [aW (jW hl (h3.le ah))]
def amc{p1 f1}(U1:Y88 p1 f1)(a b:List (List aj))(ha:ShP a):WW.F (p1,f1,()) (a,b,()) (λy=>y=(bp (a=b),())):=by
 dsimp only [WW,gm];simp (disch:=omega) only [RR,U1.hp _ _ ha,U1.hf _ _ ha]
def amd{p1 f1 p2 f2}(U1:Y14 p1 f1)(U2:Y88 p2 f2)(a b:Ev)(ha:ShE a):WX.F (p1,f1,p2,f2,()) (a,b,()) (λy=>y=(bp (a=b),())):=by
 dsimp only [WX,gm];simp (disch:=omega) only [RR,RB,U1.hp _ _ ha.1,U1.hf _ _ ha.1,U1.hp _ _ ha.2.1,U1.hf _ _ ha.2.1,U2.hp _ _ ha.2.2,U2.hf _ _ ha.2.2,fF];simp only [Am,<-kL];refine Prod.ext (kM ?_) rfl;cases a;cases b;simp only [Ev.mk.injEq];constructor<;>(intro h;simp only [h,and_self])
structure Y93(pp:Ev×Ev×Unit->Bool)(ff:Ev×Ev×Unit->Bool×Unit):Prop where
 hp:∀a b,ShE a->pp (a,b,())=true
 hf:∀a b,ShE a->ff (a,b,())=(bp (a=b),())
def agN{p1 f1}(U1:Y93 p1 f1)(a b:List Ev)(ha:SE a):Ox.F (p1,f1,()) (a,b,()) (λy=>y=(bp (a=b),())):=by
 have hlen:=ha.1;dsimp only [Ox,gm];simp (disch:=omega) only [RR];refine⟨λh=> ?_,λh=> ?_⟩
 .rw [aY (λe=>h (by rw [e]))]
 have hl:a.length=b.length:=by omega
 refine ak (λ(y:List Ev×List Ev×Int×Int×Unit)=>y.1=b/\y.2.1=a/\y.2.2.1=a.length/\0<=y.2.2.2.1/\y.2.2.2.1<=a.length/\All y.2.2.2.1 (λi=>a.getD i.toNat default=b.getD i.toNat default)) (λy=>(a.length-y.2.2.2.1).toNat) ⟨rfl,rfl,rfl,by simp,by simp,All.zero⟩ ?_;rintro⟨(l1:List Ev),(l2:List Ev),(n:Int),(i:Int),⟨⟩⟩ hI;dsimp only at hI ⊢;obtain⟨rfl,rfl,rfl,h1,h2,h3⟩:=hI;simp (disch:=omega) only [RR,U1.hp _ _ (ha.at _),U1.hf _ _ (ha.at _),aO,gB];refine⟨λh4=>⟨ah,ah,ah,ah,λh5=> ?_,λh5=>⟨⟨ah,ah,h3.snoc h5⟩,ah⟩⟩,λh4=> ?_⟩
 .rw [aY];intro e;rw [e]at h5;exact h5 rfl
 .rw [aW (jW hl (h3.le ah))]
def ame{p1 f1 p2 f2}(U1:Y14 p1 f1)(U2:Y88 p2 f2){p3:List Ev×List Ev×Unit->Bool}{f3:List Ev×List Ev×Unit->Bool×Unit}(hp3:∀b a,SE b->p3 (b,a,())=true)(hf3:∀b a,SE b->f3 (b,a,())=(bp (b=a),()))(a b:Sym)(ha:ShY a):WY.F (p1,f1,p2,f2,p3,f3,()) (a,b,()) (λy=>y=(bp (a=b),())):=by
 dsimp only [WY,gm];simp (disch:=omega) only [RR,RB,U1.hp _ _ ha.x,U1.hf _ _ ha.x,U1.hp _ _ ha.y,U1.hf _ _ ha.y,U2.hp _ _ ha.r,U2.hf _ _ ha.r,hp3 _ _ ha.e,hf3 _ _ ha.e,fF];simp only [Am,<-kL];refine Prod.ext (kM ?_) rfl;cases a;cases b;simp only [Sym.mk.injEq];constructor<;>(intro h;simp only [h,and_self])
structure Y94(pp:Blk×Blk×Unit->Bool)(ff:Blk×Blk×Unit->Bool×Unit):Prop where
 hp:∀a b,a.ops.length<1000000000->pp (a,b,())=true
 hf:∀a b,a.ops.length<1000000000->ff (a,b,())=(bp (a=b),())
structure Y95(pp:Sym×Sym×Unit->Bool)(ff:Sym×Sym×Unit->Bool×Unit):Prop where
 hp:∀a b,ShY a->pp (a,b,())=true
 hf:∀a b,ShY a->ff (a,b,())=(bp (a=b),())
def amf{p1 f1 p2 f2 p4 f4 p5 f5}(U1:Y60 p1 f1)(U2:Y94 p2 f2){p3:Unit->Bool}{f3:Unit->List Atom×List (List aj)×Unit}(hp3:p3 ()=true)(hf3:(f3 ()).1=t4)(U4:Y89 p4 f4)(U5:Y95 p5 f5)(b c:Blk)(hb:b.ops.length<1000000000)(hc:c.ops.length<1000000000):WZ.F (p1,f1,p2,f2,p3,f3,p4,f4,p5,f5,()) (b,c,()) (λy=>y=(chk b c,())):=by
 have s4:ShT t4:=QW.1.sh;have y1:=yN t4 b;dsimp only [WZ,gm];simp (disch:=omega) only [RR,RB,U1.hp b hb,U1.hf b hb,U1.hp c hc,U1.hf c hc,U2.hp b c hb,U2.hf b c hb,hp3,hf3,U4.hp t4 b s4 hb,U4.hf t4 b s4 hb,U4.hp _ c y1.2 hc,U4.hf _ c y1.2 hc,U5.hp _ _ y1.1,U5.hf _ _ y1.1,aO,gB];unfold chk;refine⟨λh=> ?_,λh=>⟨λe=> ?_,λe=> ?_⟩⟩
 .rw [aY];rintro⟨h1,h2,h3,h4,_⟩;simp_all
 .rw [aW];exact⟨h.1.1.1,h.1.1.2,h.1.2,h.2,Or.inl e⟩
 .refine Prod.ext (kM ?_) rfl;exact⟨λg=>⟨h.1.1.1,h.1.1.2,h.1.2,h.2,Or.inr g⟩,λg=>g.2.2.2.2.resolve_left e⟩
structure Y96(pp:Blk×Blk×Unit->Bool)(ff:Blk×Blk×Unit->Bool×Unit):Prop where
 hp:∀b c,b.ops.length<1000000000->c.ops.length<1000000000->pp (b,c,())=true
 hf:∀b c,b.ops.length<1000000000->c.ops.length<1000000000->ff (b,c,())=(chk b c,())
structure Y97(pp:List Int×Unit->Bool)(ff:List Int×Unit->Blk×Blk×Unit):Prop where
 hp:∀c,By c->c.length<1000000000->pp (c,())=true
 hf:∀c,By c->c.length<1000000000->(ff (c,())).1.ops.length<100000/\(ff (c,())).2.1.ops.length<100000
structure amg(nm:List Int)(fin x y:Int)(ops:List IOp):Prop where
 op:∀i:Int,0<=i->i<ops.length->(hX ((ops).getD (i).toNat default)->0<=(((ops).getD (i).toNat default)).x/\(((ops).getD (i).toNat default)).x<nm.length)/\(hY ((ops).getD (i).toNat default)->0<=(((ops).getD (i).toNat default)).y/\(((ops).getD (i).toNat default)).y<nm.length)
 x:fin≠1->0<=x/\x<nm.length
 y:3<=fin->0<=y/\y<nm.length
 l:ops.length<1000000000
def adk(b:Blk)(hb:b.ops.length<1000000000):Xf.F () (b,()) (λy=>y=bk7 b):=by
 dsimp only [Xf,gm];simp (disch:=omega) only [RR,RB];omega
structure Y98(pp:List Int×Int×Int×Int×Int×Int×Int×List IOp×Unit->Bool)(ff:List Int×Int×Int×Int×Int×Int×Int×List IOp×Unit->Int×Int×Int×Int×Int×Int×List IOp×Unit):Prop where
 hp:∀(nm:List Int) pc len fin x y k ops,amg nm fin x y ops->pp (nm,pc,len,fin,x,y,k,ops,())=true
 hf:∀(nm:List Int) pc len fin x y k ops,amg nm fin x y ops->ff (nm,pc,len,fin,x,y,k,ops,())=(pc,len,fin,(if fin=1 then x else((nm).getD (x).toNat default)),(if 3<=fin then((nm).getD (y).toNat default)else y),k,ops.map (ren nm),())
structure Y99(pp:Blk×Unit->Bool)(ff:Blk×Unit->Int×Int×Int×Int×Int×Int×List IOp×Unit):Prop where
 hp:∀b,b.ops.length<1000000000->pp (b,())=true
 hf:∀b,b.ops.length<1000000000->ff (b,())=bk7 b
structure aqr(pp:Blk×Unit->Bool)(ff:Blk×Unit->List Bool×Unit):Prop where
 hp:∀b,iD b->pp (b,())=true
 hf:∀b,iD b->ff (b,())=(us b b.ops.length,())
structure aqs(pp:Blk×Unit->Bool)(ff:Blk×Unit->Blk×Unit):Prop where
 hp:∀b,b.ops.length<1000000->pp (b,())=true
 hf:∀b,b.ops.length<1000000->ff (b,())=(Ic b,())
structure aqt(pp:Blk×Unit->Bool)(ff:Blk×Unit->Blk×Unit):Prop where
 hp:∀b,b.ops.length<1000000->pp (b,())=true
 hf:∀b,b.ops.length<1000000->ff (b,())=(BN b,())
structure aqu(pp:Blk×Unit->Bool)(ff:Blk×Unit->Blk×Unit):Prop where
 hp:∀b,b.ops.length<1000000->pp (b,())=true
 hf:∀b,b.ops.length<1000000->ff (b,())=(Ie b,())
structure aqv(pp:List Int×Unit->Bool)(ff:List Int×Unit->Blk×Unit):Prop where
 hp:∀c,By c->c.length<1000000000->pp (c,())=true
 hf:∀c,By c->c.length<1000000000->(ff (c,())).1.ops.length<100000
structure aqw(pp:Blk×Unit->Bool)(ff:Blk×Unit->Int×Unit):Prop where
 hp:∀b,b.ops.length<1000000->pp (b,())=true
 hf:∀b,b.ops.length<1000000->ff (b,())=(((J5 b.ops).length:Int),())
structure aqx(pp:Blk×Unit->Bool)(ff:Blk×Unit->Blk×Unit):Prop where
 hp:∀b,b.ops.length<1000000->pp (b,())=true
 hf:∀b,b.ops.length<1000000->ff (b,())=(X0 b,())
def ShC(l:List Cer):Prop:=l.length<1000/\∀q∈l,q.base.ops.length<1000000/\q.made.ops.length<1000000
def apt(l:List Cer)(b c:Blk):Prop:=∃q∈l,q.base=b/\q.made=c
def Q0(l:List Cer):Prop:=l.length<=3/\∀q∈l,chk q.base q.made=true
def ShC.at{l:List Cer}(h:ShC l)(i:Nat):(l.getD i default).base.ops.length<1000000/\(l.getD i default).made.ops.length<1000000:=by
 by_cases c:i<l.length
 .rw [getD_lt c];exact h.2 _ (List.getElem_mem _)
 .rw [List.getD_eq_getElem?_getD,List.getElem?_eq_none ah];exact⟨by decide,by decide⟩
def ShC.add{l:List Cer}(h:ShC l)(n:l.length<999){q:Cer}(h1:q.base.ops.length<1000000)(h2:q.made.ops.length<1000000):ShC (l++ [q]):=by
 refine⟨by rw [List.length_append,List.length_singleton];omega,λc g=> ?_⟩;rw [List.mem_append,List.mem_singleton]at g;rcases g with g | rfl
 .exact h.2 c g
 .exact⟨h1,h2⟩
def ShD(l:List Cer):Prop:=l.length<1000000000/\∀q∈l,q.base.ops.length<1000000000/\q.made.ops.length<1000000000
def ShC.d{l:List Cer}(h:ShC l):ShD l:=⟨by have:=h.1;omega,λq g=>by have:=h.2 q g;omega⟩
def ShD.at{l:List Cer}(h:ShD l)(i:Nat):(l.getD i default).base.ops.length<1000000000/\(l.getD i default).made.ops.length<1000000000:=by
 by_cases c:i<l.length
 .rw [getD_lt c];exact h.2 _ (List.getElem_mem _)
 .rw [List.getD_eq_getElem?_getD,List.getElem?_eq_none ah];exact⟨by decide,by decide⟩
def X6(a b:Blk)(ha:a.ops.length<1000000000):Mr.F () (a,b,()) (λy=>y=(bp (a=b),())):=by
 dsimp only [Mr,gm];simp (disch:=omega) only [RR,RB];refine⟨λh=> ?_,λh=> ?_⟩
 .rw [aY];rintro rfl;simp at h
 have hl:a.ops.length=b.ops.length:=by omega
 refine ak (λ(y:Int×Blk×Blk×Unit)=>y.2.1=a/\y.2.2.1=b/\0<=y.1/\y.1<=a.ops.length/\All y.1 (λi=>a.ops.getD i.toNat default=b.ops.getD i.toNat default)) (λy=>(a.ops.length-y.1).toNat) ⟨rfl,rfl,by simp,by simp,All.zero⟩ ?_;rintro⟨(i:Int),(a':Blk),(b':Blk),⟨⟩⟩ hI;dsimp only at hI ⊢;obtain⟨rfl,rfl,h1,h2,h3⟩:=hI;simp (disch:=omega) only [RR,RB,adi];refine⟨λh4=>⟨ah,ah,ah,ah,λh5=> ?_,λh5=>⟨⟨ah,ah,h3.snoc h5⟩,ah⟩⟩,λh4=> ?_⟩
 .rw [aY];rintro rfl;exact h5 rfl
 .have e:=jW hl (h3.le ah);rw [aW];cases a';cases b';simp_all
structure aqy(pp:Int×List Int×Int×Unit->Bool)(ff:Int×List Int×Int×Unit->List Cer×List Int×Int×Unit):Prop where
 hp:∀n b p,Bt b->0<=p->p<300000000->pp (n,b,p,())=true
 hf:∀n b p,Bt b->0<=p->p<300000000->ShC (ff (n,b,p,())).1/\(ff (n,b,p,())).2.1=b/\p<=(ff (n,b,p,())).2.2.1/\(ff (n,b,p,())).2.2.1<=p+20000
structure aqz(pp:List Cer×Blk×Blk×Unit->Bool)(ff:List Cer×Blk×Blk×Unit->Bool×Unit):Prop where
 hp:∀l b c,ShC l->pp (l,b,c,())=true
 hf:∀l b c,ShC l->ff (l,b,c,())=(bp (apt l b c),())
structure aqA(pp:List Cer×Unit->Bool)(ff:List Cer×Unit->Bool×Unit):Prop where
 hp:∀l,ShD l->pp (l,())=true
 hf:∀l,ShD l->ff (l,())=(bp (Q0 l),())
def jo(l:List Int):(bU l).Perm l:=List.mergeSort_perm l _
def Ao(l:List Int):(bU l).Pairwise (· <= ·):=by
 have:=List.pairwise_mergeSort (le:=λx y:Int=>decide (x<=y)) (λa b c h1 h2=>by simp only [decide_eq_true_eq]at*;omega) (λa b=>by simp only [Bool.or_eq_true,decide_eq_true_eq];omega) l;exact this.imp λh=>by simpa using h
def tX{a b:List Int}(h:a.Perm b):bU a=bU b:=mO (Ao a) ((jo a).trans h)
def D8{a:List Int}(h:a.Pairwise (· <= ·)):bU a=a:=(mO h (List.Perm.refl a)).symm
structure Ren(s:Int->Int)(t:Int->Int)(n:Int):Prop where
 rng:∀k,0<=k->k<n->0<=s k/\s k<=199
 back:∀k,0<=k->k<n->t (s k)=k
def mapM(s:Int->Int)(m:aj):aj:=⟨m.bA,bU (m.atoms.map s)⟩
def AtN(n:Int)(l:List Int):Prop:=l.Pairwise (· <= ·)/\∀k∈l,0<=k/\k<n
def Ren.bk{s t:Int->Int}{n:Int}(h:Ren s t n){l:List Int}(hl:AtN n l):bU ((bU (l.map s)).map t)=l:=by
 rw [tX ((jo _).map t),List.map_map];have e:l.map (t ∘ s)=l:=by
  conv=>rhs;rw [<-List.map_id l]
  exact List.map_congr_left λk hk=>h.back k (hl.2 k hk).1 (hl.2 k hk).2
 rw [e,D8 hl.1]
def Ig{s t:Int->Int}{n:Int}(h:Ren s t n)(K:List Int):∀ {l:List aj},(∀m∈l,AtN n m.atoms)->cf (l.map (mapM s)) K=if bU ((bU (K.map t)).map s)=K then cf l (bU (K.map t))else 0
 | [],_=>by simp [iF]
 | m::l,hl=>by
  have hm:=hl m List.mem_cons_self;rw [List.map_cons,aR,Ig h K (λm' hm'=>hl m' (List.mem_cons_of_mem _ hm')),aR];show(if bU (m.atoms.map s)=K then m.bA else 0)+_=_;by_cases c:bU (m.atoms.map s)=K
  .have e:=h.bk hm;rw [c]at e;rw [if_pos c,e,if_pos c,if_pos c,if_pos rfl]
  .rw [if_neg c];by_cases d:bU ((bU (K.map t)).map s)=K
   .rw [if_pos d,if_pos d,if_neg (λx=>c (by rw [x,d]))]
   .rw [if_neg d,if_neg d];rfl
noncomputable def aX (s:Int->Int) (p:List aj):List aj:=nf (p.map (mapM s))
def ab1{s t:Int->Int}{n:Int}(h:Ren s t n){l l':List aj}(hl:∀m∈l,AtN n m.atoms)(hl':∀m∈l',AtN n m.atoms)(e:∀k,cf l k%65536=cf l' k%65536):nf (l.map (mapM s))=nf (l'.map (mapM s)):=
 JZ λK=>by
  rw [Ig h K hl,Ig h K hl'];split
  .exact e _
  .rfl
structure Dis(l:List aj):Prop where
 ne:l.Pairwise λa b=>a.atoms≠b.atoms
 co:∀m∈l,1<=m.bA/\m.bA<=65535
def Nf.dis{o:List aj}(h:Nf o):Dis o:=⟨h.ss.imp λg=>g.ne,h.co⟩
def Dis.perm{a b:List aj}(h:Dis a)(p:a.Perm b):Dis b:=⟨(p.pairwise_iff (R:=λa b:aj=>a.atoms≠b.atoms) (λg=>g.symm)).1 h.ne,λm hm=>h.co m (p.mem_iff.2 hm)⟩
def Dis.rng(k:List Int):∀ {l:List aj},Dis l->0<=cf l k/\cf l k<=65535
 | [],_=>by simp [iF]
 | m::l,h=>by
  have c:=h.co m List.mem_cons_self;rw [aR];by_cases e:m.atoms=k
  .rw [if_pos e,fZ λm' hm'=>by rw [<-e];exact(List.rel_of_pairwise_cons h.ne hm').symm];omega
  .rw [if_neg e];have:=Dis.rng k (l:=l) ⟨h.ne.tail,λm hm=>h.co m (List.mem_cons_of_mem _ hm)⟩;omega
def Q5{a b:List aj}(p:a.Perm b)(k:List Int):cf a k=cf b k:=by
 induction p with
 | nil=>rfl
 | cons x _ ih=>rw [aR,aR,ih]
 | swap x y l=>rw [aR,aR,aR,aR];omega
 | trans _ _ h1 h2=>rw [h1,h2]
def ab2{a b c:List Int}(h1:bZ a b<=0)(h2:bZ b c<=0):bZ a c<=0:=by
 by_cases e:bZ b c=0
 .rw [<-gQ.1 e];exact h1
 .exact Int.le_of_lt (dz (x:=⟨0,a⟩) (y:=⟨0,b⟩) (z:=⟨0,c⟩) h1 (by dsimp only;omega))
def Dis.nf{l:List aj}(h:Dis l):(nf l).Perm l/\Nf (nf l):=by
 have p:(l.mergeSort λa b=>decide (bZ a.atoms b.atoms<=0)).Perm l:=List.mergeSort_perm l _;have g:=List.pairwise_mergeSort (le:=λa b:aj=>decide (bZ a.atoms b.atoms<=0)) (λa b c h1 h2=>by
  simp only [decide_eq_true_eq]at*;exact ab2 h1 h2) (λa b=>by
  simp only [Bool.or_eq_true,decide_eq_true_eq];rw [jE b.atoms a.atoms];omega) l
 have d:=h.perm p.symm;have n:Nf (l.mergeSort λa b=>decide (bZ a.atoms b.atoms<=0)):=by
  refine⟨(g.and d.ne).imp λ{a b} x=> ?_,d.co⟩;have x1:bZ a.atoms b.atoms<=0:=by simpa using x.1
  have x2:bZ a.atoms b.atoms≠0:=λe=>x.2 (gQ.1 e)
  show bZ _ _<0;omega
 have e:=DW (l:=l) n λk=>by
  rw [Q5 p k];have:=h.rng k;omega
 rw [e];exact⟨p,n⟩
def D9{s t:Int->Int}{n:Int}(h:Ren s t n){p:List aj}(hp:Dis p)(ha:∀m∈p,AtN n m.atoms):(aX s p).Perm (p.map (mapM s))/\Nf (aX s p):=by
 refine Dis.nf ⟨?_,λm hm=> ?_⟩
 .rw [List.pairwise_map];refine hp.ne.imp_of_mem λ{a b} h1 h2 g e=>g ?_
  have e':bU (a.atoms.map s)=bU (b.atoms.map s):=e;rw [<-h.bk (ha a h1),e',h.bk (ha b h2)]
 .obtain⟨m',h1,rfl⟩:=List.mem_map.1 hm;exact hp.co m' h1
def X7{s t:Int->Int}{n:Int}(h:Ren s t n){p:List aj}(hp:aJ p)(ha:∀m∈p,AtN n m.atoms):aJ (aX s p):=by
 obtain⟨h1,h2,h3⟩:=dW.1 hp;obtain⟨g1,g2⟩:=D9 h h1.dis ha;refine dW.2 ⟨g2,by rw [g1.length_eq,List.length_map];exact h2,λm hm=> ?_⟩;obtain⟨m',k1,rfl⟩:=List.mem_map.1 (g1.mem_iff.1 hm);refine⟨by show(bU _).length<=4;rw [pX,List.length_map];exact(h3 m' k1).1,Ao _,λk hk=> ?_⟩;obtain⟨j,j1,rfl⟩:=List.mem_map.1 ((jo _).mem_iff.1 hk);exact h.rng j ((ha m' k1).2 j j1).1 ((ha m' k1).2 j j1).2
def X8{l:List aj}{n:Int}(hl:∀m∈l,AtN n m.atoms):∀m∈nf l,AtN n m.atoms:=λm hm=>by
 obtain⟨h1,h2⟩:=HY l;obtain⟨m',g1,g2⟩:=h1.from h2 hm;rw [<-g2];exact hl m' g1
def agO{s t:Int->Int}{n:Int}(h:Ren s t n){l:List aj}(hl:∀m∈l,AtN n m.atoms):nf (l.map (mapM s))=aX s (nf l):=
 ab1 h hl (X8 hl) λk=>by rw [(HY l).2];omega
def AtN.aok{n:Int}(hn:n<=200){l:List Int}(h:AtN n l):aok l:=⟨h.1,λk hk=>by have:=h.2 k hk;omega⟩
def ab3{s t:Int->Int}{n:Int}(h:Ren s t n)(hn:n<=200){p:List aj}(hp:Nf p)(ha:∀m∈p,AtN n m.atoms):aJ (aX s p)↔aJ p:=by
 refine⟨λg=> ?_,λg=>X7 h g ha⟩;obtain⟨h1,h2,h3⟩:=dW.1 g;obtain⟨g1,_⟩:=D9 h hp.dis ha;refine dW.2 ⟨hp,by rw [g1.length_eq,List.length_map]at h2;exact h2,λm hm=>⟨?_,(ha m hm).aok hn⟩⟩;have:=(h3 _ (g1.mem_iff.2 (List.mem_map.2 ⟨m,hm,rfl⟩))).1;have e:(mapM s m).atoms.length=m.atoms.length:=by show(bU _).length=_;rw [pX,List.length_map]
 omega
def J9{s t:Int->Int}{n:Int}(h:Ren s t n)(hn:n<=200){l:List aj}(hl:∀m∈l,AtN n m.atoms):jM (l.map (mapM s))=((jM l).1,aX s (jM l).2):=by
 unfold jM;rw [agO h hl];have e:=ab3 h hn (HY l).1 (X8 hl);by_cases c:aJ (nf l)
 .rw [aW c,aW (e.2 c)];rfl
 .rw [aY c,aY (λg=>c (e.1 g))];show(false,[])=(false,aX s []);have:aX s []=[]:=vw ⟨List.Pairwise.nil,λm hm=>absurd hm (by simp)⟩;rw [this]
def Q6{a b:List aj}(p:a.Perm b):nf a=nf b:=JZ λk=>by rw [Q5 p]
def FK{a b:List aj}(p:a.Perm b):jM a=jM b:=by unfold jM;rw [Q6 p]
def RP(n:Int)(p:List aj):Prop:=aJ p/\∀m∈p,AtN n m.atoms
def RP.perm{s t:Int->Int}{n:Int}(h:Ren s t n){p:List aj}(hp:RP n p):(aX s p).Perm (p.map (mapM s)):=(D9 h hp.1.nf.dis hp.2).1
def RP.ok{s t:Int->Int}{n:Int}(h:Ren s t n){p:List aj}(hp:RP n p):aJ (aX s p):=X7 h hp.1 hp.2
def Ka{s t:Int->Int}{n:Int}(h:Ren s t n)(hn:n<=200){a b:List aj}(ha:RP n a)(hb:RP n b):kN (aX s a) (aX s b)=((kN a b).1,aX s (kN a b).2):=by
 unfold kN;rw [aW (ha.ok h),aW (hb.ok h),aW ha.1,aW hb.1];show jM _=_;rw [FK ((ha.perm h).append (hb.perm h)),<-List.map_append,J9 h hn λm hm=> ?_]
 .rfl
 .rcases List.mem_append.1 hm with g | g
  .exact ha.2 m g
  .exact hb.2 m g
def X9(s:Int->Int)(m k:aj):mulM (mapM s m) (mapM s k)=mapM s (mulM m k):=by
 show aj.mk _ (bU (bU (m.atoms.map s)++bU (k.atoms.map s)))=aj.mk _ (bU ((bU (m.atoms++k.atoms)).map s));rw [tX ((jo _).append (jo _)),<-List.map_append,tX ((jo (m.atoms++k.atoms)).map s)];rfl
def SG(s:Int->Int)(a b:List aj):prods (a.map (mapM s)) (b.map (mapM s))=(prods a b).map (mapM s):=by
 unfold prods;rw [List.flatMap_map,List.map_flatMap]
 congr 1;funext m
 rw [List.map_map,List.map_map]
 congr 1;funext k
 exact X9 s m k
def OJ{a a' b b':List aj}(h1:a.Perm a')(h2:b.Perm b'):(prods a b).Perm (prods a' b'):=by
 unfold prods;refine(h1.flatMap_right _).trans ?_
 clear h1
 induction a' with
 | nil=>exact List.Perm.refl _
 | cons m l ih=>rw [List.flatMap_cons,List.flatMap_cons];exact(h2.map _).append ih
def AtN.mul{n:Int}{m k:aj}(h1:AtN n m.atoms)(h2:AtN n k.atoms):AtN n (mulM m k).atoms:=⟨Ao _,λj hj=>by
 rcases List.mem_append.1 ((jo _).mem_iff.1 hj)with g | g
 .exact h1.2 j g
 .exact h2.2 j g⟩
def Kc{n:Int}{a b:List aj}(ha:∀m∈a,AtN n m.atoms)(hb:∀m∈b,AtN n m.atoms):∀m∈prods a b,AtN n m.atoms:=λm hm=>by
 obtain⟨x,hx,g⟩:=List.mem_flatMap.1 hm;obtain⟨y,hy,rfl⟩:=List.mem_map.1 g;exact(ha x hx).mul (hb y hy)
def Ke{s t:Int->Int}{n:Int}(h:Ren s t n)(hn:n<=200){a b:List aj}(ha:RP n a)(hb:RP n b):jV (aX s a) (aX s b)=((jV a b).1,aX s (jV a b).2):=by
 unfold jV;rw [aW (ha.ok h),aW (hb.ok h),aW ha.1,aW hb.1];show jM _=_;rw [FK (OJ (ha.perm h) (hb.perm h)),SG,J9 h hn (Kc ha.2 hb.2)];rfl
def Ya{s t:Int->Int}{n:Int}(h:Ren s t n){p:List aj}(hp:∀m∈p,AtN n m.atoms):(p.map (mapM s)).map (mapM t)=p:=by
 rw [List.map_map]
 conv=>rhs;rw [<-List.map_id p]
 refine List.map_congr_left λm hm=> ?_
 show aj.mk m.bA (bU ((bU (m.atoms.map s)).map t))=m;rw [h.bk (hp m hm)]
def yO{s t:Int->Int}{n:Int}(h:Ren s t n){p q:List aj}(hp:RP n p)(hq:RP n q)(e:aX s p=aX s q):p=q:=by
 have g:(p.map (mapM s)).Perm (q.map (mapM s)):=(hp.perm h).symm.trans (e▸hq.perm h);have:=Q6 (g.map (mapM t))
 rwa [Ya h hp.2,Ya h hq.2,vw hp.1.nf,vw hq.1.nf]at this
def qN(s:Int->Int):aX s []=[]:=vw ⟨List.Pairwise.nil,λm hm=>absurd hm (by simp)⟩
def RP.nil(n:Int):RP n []:=⟨dM,λm hm=>absurd hm (by simp)⟩
def SH:bU []=[]:=D8 List.Pairwise.nil
def RP.const(n k:Int):RP n (bR k):=by
 refine⟨jG k,λm hm=> ?_⟩;unfold bR at hm;split at hm
 .rw [List.mem_singleton]at hm;subst hm;exact⟨List.Pairwise.nil,λj hj=>absurd hj (by simp)⟩
 .exact absurd hm (by simp)
def vC{s:Int->Int}(k:Int):aX s (bR k)=bR k:=by
 have e:(bR k).map (mapM s)=bR k:=by
  unfold bR;split
  .show [aj.mk k (bU [])]=_;rw [SH]
  .rfl
 unfold aX;rw [e,vw (jG k).nf]
def RP.atom{n j:Int}(h1:0<=j)(h2:j<n):RP n (dx j):=by
 refine⟨jm j,λm hm=> ?_⟩;unfold dx at hm;split at hm
 .rw [List.mem_singleton]at hm;subst hm;exact⟨List.pairwise_singleton _ _,λi hi=>by rw [List.mem_singleton]at hi;subst hi;exact⟨h1,h2⟩⟩
 .exact absurd hm (by simp)
def Yb{s t:Int->Int}{n:Int}(h:Ren s t n)(hn:n<=200){j:Int}(h1:0<=j)(h2:j<n):aX s (dx j)=dx (s j):=by
 have r:=h.rng j h1 h2;have e:(dx j).map (mapM s)=dx (s j):=by
  unfold dx;rw [if_pos ah,if_pos ah];show [aj.mk 1 (bU [s j])]=_;rw [D8 (List.pairwise_singleton _ _)]
 unfold aX;rw [e,vw (jm _).nf]
def ab4{s t:Int->Int}{n:Int}(h:Ren s t n){p:List aj}(hp:RP n p):(aX s p).length=p.length:=by rw [(hp.perm h).length_eq,List.length_map]
def ab5{s t:Int->Int}{n:Int}(h:Ren s t n){m:aj}(hp:RP n [m]):aX s [m]=[mapM s m]:=List.perm_singleton.1 (hp.perm h)
theorem Kg{s t:Int->Int}{n:Int}(h:Ren s t n){p:List aj}(hp:RP n p):bW (aX s p)=bW p:=by
 have l:=ab4 h hp;unfold bW;rw [aW (hp.ok h),aW hp.1,l]
 match p,hp,l with
 | [],_,_=>rfl
 | [m],hp,_=>
  rw [ab5 h hp];have e:(mapM s m).atoms.length=m.atoms.length:=by show(bU _).length=_;rw [pX,List.length_map]
  have e2:(mapM s m).bA=m.bA:=rfl;have z:((mapM s m).atoms=[])↔(m.atoms=[]):=by rw [<-List.length_eq_zero_iff,e,List.length_eq_zero_iff]
  simp [e2,z]
 | a::b::r,_,_=>simp
def RP.sum{n:Int}{l:List aj}(hl:∀m∈l,AtN n m.atoms):RP n (jM l).2:=by
 unfold jM;by_cases c:aJ (nf l)
 .rw [aW c];exact⟨c,X8 hl⟩
 .rw [aY c];exact RP.nil n
def RP.add{n:Int}{a b:List aj}(ha:RP n a)(hb:RP n b):RP n (kN a b).2:=by
 unfold kN;rw [aW ha.1,aW hb.1];exact RP.sum λm hm=>by
  rcases List.mem_append.1 hm with g | g
  .exact ha.2 m g
  .exact hb.2 m g
def RP.mul{n:Int}{a b:List aj}(ha:RP n a)(hb:RP n b):RP n (jV a b).2:=by
 unfold jV;rw [aW ha.1,aW hb.1];exact RP.sum (Kc ha.2 hb.2)
def RP.scale{n:Int}{a:List aj}(ha:RP n a)(k:Int):RP n (gF a k):=by
 unfold gF;split
 .exact ha.mul (RP.const n k)
 .exact RP.nil n
def OL{s t:Int->Int}{n:Int}(h:Ren s t n)(hn:n<=200){a:List aj}(ha:RP n a)(k:Int):gF (aX s a) k=aX s (gF a k):=by
 unfold gF;rw [aW (ha.ok h),aW ha.1];by_cases c:inB k 0 65535=true
 .rw [c];show(jV (aX s a) (bR k)).2=aX s (jV a (bR k)).2;rw [<-vC (s:=s) k,Ke h hn ha (RP.const n k),vC]
 .rw [Bool.not_eq_true]at c;rw [c];exact(qN s).symm
def Kh{s t:Int->Int}{n:Int}(h:Ren s t n){x y:List aj}(hx:RP n x)(hy:RP n y):eH (aX s x) (aX s y)=0↔eH x y=0:=by
 rw [fF,fF];exact⟨λe=>yO h hx hy e,λe=>by rw [e]⟩
def Yc{s t:Int->Int}{n:Int}(h:Ren s t n){x y:List aj}(hx:RP n x)(hy:RP n y)(op:Int):tN op (aX s x) (aX s y)=(aX s (tN op x y).1,(tN op x y).2):=by
 unfold tN;rw [Kg h hx,Kg h hy];simp only [Kh h hx hy]
 repeat' split
 all_goals simp only [vC,qN]
def RP.bit{n:Int}{x y:List aj}(hx:RP n x)(hy:RP n y)(op:Int):RP n (tN op x y).1:=by
 unfold tN
 repeat' split
 all_goals first | exact hx | exact hy | exact RP.nil n | exact RP.const n _
def SK{s t:Int->Int}{n:Int}(h:Ren s t n)(hn:n<=200){x y:List aj}(hx:RP n x)(hy:RP n y)(op:Int):eP op (aX s x) (aX s y)=(aX s (eP op x y).1,(eP op x y).2):=by
 unfold eP;split; · rw [Ka h hn hx hy]
 split; · rw [OL h hn hy,Ka h hn hx (hy.scale _)]
 split; · rw [Ke h hn hx hy]
 exact Yc h hx hy op
def RP.simp{n:Int}{x y:List aj}(hx:RP n x)(hy:RP n y)(op:Int):RP n (eP op x y).1:=by
 unfold eP;split; · exact hx.add hy
 split; · exact hx.add (hy.scale _)
 split; · exact hx.mul hy
 exact hx.bit hy op
def Ap{n:Int}{p:List aj}:RP n p↔aJ p/\aU p n:=by
 constructor
 .rintro⟨h1,h2⟩;exact⟨h1,bN.2 λm hm k hk=>((h2 m hm).2 k hk).2⟩
 .rintro⟨h1,h2⟩;refine⟨h1,λm hm=>⟨(h1.aok hm).2.1,λk hk=>⟨((h1.aok hm).2.2 k hk).1,bN.1 h2 m hm k hk⟩⟩⟩
def kP{s s':Int->Int}{n:Int}(e:∀j,0<=j->j<n->s' j=s j){p:List aj}(hp:RP n p):aX s' p=aX s p:=by
 unfold aX
 congr 1
 refine List.map_congr_left λm hm=> ?_
 unfold mapM
 congr 2
 exact List.map_congr_left λk hk=>e k ((hp.2 m hm).2 k hk).1 ((hp.2 m hm).2 k hk).2
def RP.le{n m:Int}{p:List aj}(h:RP n p)(hn:n<=m):RP m p:=⟨h.1,λa ha=>⟨(h.2 a ha).1,λk hk=>by have:=(h.2 a ha).2 k hk;omega⟩⟩
noncomputable def yQ (s:Int->Int) (a:Atom):Atom:=
 if a.kind=4/\a.k≠2/\0<eH (aX s a.x) (aX s a.y)then⟨a.kind,a.k,aX s a.y,aX s a.x⟩else⟨a.kind,a.k,aX s a.x,aX s a.y⟩
def Ki(a:Atom):Prop:=a.kind=4->a.k≠2->eH a.x a.y<=0
def Yd{s t:Int->Int}{n:Int}(h:Ren s t n){a b:Atom}(ax:RP n a.x)(ay:RP n a.y)(bx:RP n b.x)(by_:RP n b.y)(oa:Ki a)(ob:Ki b)(e:yQ s a=yQ s b):a=b:=by
 have key:a.kind=b.kind->a.k=b.k->(a.kind=4/\a.k≠2)->aX s a.x=aX s b.y->aX s a.y=aX s b.x->a=b:=λe1 e2 c e3 e4=>by
  have e3:=yO h ax by_ e3;have e4:=yO h ay bx e4;have o1:=oa c.1 c.2;have o2:=ob (e1▸c.1) (e2▸c.2);rw [<-e3,<-e4,Aj]at o2;have:a.x=a.y:=fF.1 ah;cases a;cases b;dsimp only at*;subst e1;subst e2;subst e3;subst e4;subst this;rfl
 have same:a.kind=b.kind->a.k=b.k->aX s a.x=aX s b.x->aX s a.y=aX s b.y->a=b:=λe1 e2 e3 e4=>by
  have e3:=yO h ax bx e3;have e4:=yO h ay by_ e4;cases a;cases b;dsimp only at*;subst e1;subst e2;subst e3;subst e4;rfl
 unfold yQ at e;by_cases c:a.kind=4/\a.k≠2/\0<eH (aX s a.x) (aX s a.y)
 .rw [if_pos c]at e;by_cases d:b.kind=4/\b.k≠2/\0<eH (aX s b.x) (aX s b.y)
  .rw [if_pos d]at e;injection e with e1 e2 e3 e4;exact same e1 e2 e4 e3
  .rw [if_neg d]at e;injection e with e1 e2 e3 e4;exact key e1 e2 ⟨c.1,c.2.1⟩ e4 e3
 .rw [if_neg c]at e;by_cases d:b.kind=4/\b.k≠2/\0<eH (aX s b.x) (aX s b.y)
  .rw [if_pos d]at e;injection e with e1 e2 e3 e4;exact key e1 e2 ⟨e1▸d.1,e2▸d.2.1⟩ e3 e4
  .rw [if_neg d]at e;injection e with e1 e2 e3 e4;exact same e1 e2 e3 e4
def Ea{s s':Int->Int}{n:Int}(e:∀j,0<=j->j<n->s' j=s j){a:Atom}(ax:RP n a.x)(ay:RP n a.y):yQ s' a=yQ s a:=by
 unfold yQ;rw [kP e ax,kP e ay]
def Kj{a:Atom}{n:Int}(h:fT a n):RP n a.x/\RP n a.y:=by
 unfold fT at h;split at h
 .exact⟨Ap.2 ⟨h.2.1,h.2.2.2.1⟩,Ap.2 ⟨h.2.2.1,h.2.2.2.2⟩⟩
 .rw [h.1.1,h.1.2];exact⟨RP.nil n,RP.nil n⟩
def Q7{α:Type}[Inhabited α](l:List α)(a:α)(i:Int)(h:0<=i):((l++ [a]).getD (i).toNat default)=if i=l.length then a else((l).getD (i).toNat default):=by
 by_cases c:i=l.length
 .rw [if_pos c,c,List.getD_eq_getElem?_getD];simp
 .rw [if_neg c,List.getD_eq_getElem?_getD,List.getD_eq_getElem?_getD];by_cases d:i.toNat<l.length
  .rw [List.getElem?_append_left d]
  .rw [List.getElem?_eq_none (by rw [List.length_append,List.length_singleton];omega),List.getElem?_eq_none ah]
structure TR(s t:Int->Int)(u T:List Atom):Prop where
 r:Ren s t u.length
 tok:aF u
 im:∀i:Int,0<=i->i<u.length->s i<T.length/\((T).getD (s i).toNat default)=yQ s ((u).getD (i).toNat default)
 ord:∀i:Int,0<=i->i<u.length->Ki ((u).getD (i).toNat default)
theorem TR.rp{s t:Int->Int}{u T:List Atom}(h:TR s t u T){i:Int}(h1:0<=i)(h2:i<u.length):RP i ((u).getD (i).toNat default).x/\RP i ((u).getD (i).toNat default).y:=Kj ((iE.1 h.tok).1 i h1 h2).1
def TR.snoc{s t:Int->Int}{u T:List Atom}(h:TR s t u T)(hT:aF T){a:Atom}(hu:aF (u++ [a]))(hn:∀i:Int,0<=i->i<u.length->((u).getD (i).toNat default)≠a)(ha:fT a u.length)(oa:Ki a){k:Int}(k0:0<=k)(k1:k<T.length)(k2:((T).getD (k).toNat default)=yQ s a):
  ∃s' t':Int->Int,TR s' t' (u++ [a]) T/\(∀j:Int,0<=j->j<u.length->s' j=s j)/\s' u.length=k:=by
 have hT2:=(iE.1 hT).2;obtain⟨ax,ay⟩:=Kj ha;have ag:∀j:Int,0<=j->j< (u.length:Int)->(λj:Int=>if j=u.length then k else s j) j=s j:=λj h1 h2=>if_neg ah
 have nk:∀j:Int,0<=j->j< (u.length:Int)->s j≠k:=λj h1 h2 e=>by
  have g:=(h.im j h1 h2).2;rw [e,k2]at g;have:=h.rp h1 h2;exact hn j h1 h2 (Yd h.r (this.1.le ah) (this.2.le ah) ax ay (h.ord j h1 h2) oa g.symm)
 have ln:((u++ [a]).length:Int)=u.length+1:=by rw [List.length_append,List.length_singleton];omega
 refine⟨λj:Int=>if j=u.length then k else s j,λv:Int=>if v=k then u.length else t v,⟨⟨λj h1 h2=> ?_,λj h1 h2=> ?_⟩,hu,λj h1 h2=> ?_,λj h1 h2=> ?_⟩,ag,if_pos rfl⟩
 .split
  .omega
  .exact h.r.rng j h1 ah
 .by_cases c:j=u.length
  .rw [if_pos c,if_pos rfl,c]
  .rw [if_neg c,if_neg (nk j h1 ah)];exact h.r.back j h1 ah
 .rw [Q7 _ _ _ h1];by_cases c:j=u.length
  .rw [if_pos c,if_pos c,Ea (s:=s) ag ax ay];exact⟨k1,k2⟩
  .rw [if_neg c,if_neg c];have:=h.rp h1 (show j<u.length by omega);rw [Ea (s:=s) ag (this.1.le ah) (this.2.le ah)];exact h.im j h1 ah
 .rw [Q7 _ _ _ h1];split
  .exact oa
  .exact h.ord j h1 ah
def ab6{T:List Atom}(hT:aF T){i j:Int}(i0:0<=i)(i1:i<T.length)(j0:0<=j)(j1:j<T.length)(e:((T).getD (i).toNat default)=((T).getD (j).toNat default)):i=j:=by
 have h:=(iE.1 hT).1;rcases Int.lt_trichotomy i j with c | c | c
 .exact absurd e.symm ((h j j0 j1).2 i i0 c)
 .exact c
 .exact absurd e ((h i i0 i1).2 j j0 c)
structure apu(s:Int->Int)(s' t':Int->Int)(u u' T:List Atom)(r k:Int):Prop where
 tr:TR s' t' u' T
 ag:∀j:Int,0<=j->j<u.length->s' j=s j
 r0:0<=r
 r1:r<u'.length
 sr:s' r=k
 le:u.length<=u'.length
theorem TR.put{s t:Int->Int}{u T:List Atom}(h:TR s t u T)(hT:aF T){a:Atom}(ha:fT a u.length)(oa:Ki a)(hl:u.length<200){k:Int}(k0:0<=k)(k1:k<T.length)(k2:((T).getD (k).toNat default)=yQ s a):
  ∃s' t':Int->Int,apu s s' t' u (aQ u a).1 T (aQ u a).2 k:=by
 have ok:=yJ (a:=a) h.tok hl;rcases iL u a with⟨f1,f2⟩ | ⟨f1,f2,f3,_⟩
 .have e:aQ u a=(u++ [a],(u.length:Int)):=by
   unfold aQ;rw [if_neg ah,if_neg];rintro(g | g)
   .exact g ha
   .omega
  rw [e]at ok ⊢;obtain⟨s',t',g1,g2,g3⟩:=h.snoc hT ok.1 (λi i0 i1 g=>f2 i i0 i1 g.symm) ha oa k0 k1 k2;exact⟨s',t',g1,g2,by dsimp only;omega,by dsimp only;rw [List.length_append,List.length_singleton];omega,g3,by dsimp only;rw [List.length_append];omega⟩
 .have e:aQ u a=(u,nX u a):=by unfold aQ;rw [if_pos f1]
  rw [e];have g:=h.im _ f1 f2;refine⟨s,t,h,λ_ _ _=>rfl,f1,f2,?_,Nat.le_refl _⟩;have f3:a=((u).getD (nX u a).toNat default):=f3;refine ab6 hT (h.r.rng _ f1 f2).1 g.1 k0 k1 ?_;rw [g.2,<-f3,k2]
noncomputable def atD (op:Int) (x y:List aj):Atom:=if op≠2/\0<eH x y then⟨4,op,y,x⟩else⟨4,op,x,y⟩
def Ih(t:List Atom)(op:Int)(x y:List aj):tDo t op x y=if(eP op x y).2 then(t,(eP op x y).1)else if(aQ t (atD op x y)).2<0 then([],[])else((aQ t (atD op x y)).1,dx (aQ t (atD op x y)).2):=by
 unfold tDo atD;split
 .rfl
 .split<;>rfl
def ab7(op:Int)(x y:List aj):Ki (atD op x y):=by
 unfold atD Ki;split
 .rename_i c;intro _ _;dsimp only;rw [Aj];omega
 .rename_i c;intro _ g;dsimp only at g ⊢;by_cases d:0<eH x y
  .exact absurd ⟨g,d⟩ c
  .omega
def ab8{s t:Int->Int}{n:Int}(h:Ren s t n){x y:List aj}(hx:RP n x)(hy:RP n y)(op:Int):yQ s (atD op x y)=atD op (aX s x) (aX s y):=by
 have z:=Kh h hx hy;have f:=Aj (aX s x) (aX s y);have eq:eH (aX s x) (aX s y)=0->aX s x=aX s y:=fF.1;unfold atD yQ;by_cases c:op≠2/\0<eH x y
 .rw [if_pos c];dsimp only;by_cases d:0<eH (aX s x) (aX s y)
  .rw [if_neg ah,if_pos ⟨c.1,d⟩]
  .rw [if_pos ⟨rfl,c.1,ah⟩,if_neg ah]
 .rw [if_neg c];dsimp only;by_cases d:op≠2/\0<eH (aX s x) (aX s y)
  .rw [if_pos ⟨rfl,d.1,d.2⟩,if_pos d]
  .rw [if_neg ah,if_neg d]
noncomputable def Kk (s:Int->Int) (e:Ev):Ev:=⟨e.kind,e.at_,aX s e.x,aX s e.y,e.regs.map (aX s)⟩
def RPs(n:Int)(l:List (List aj)):Prop:=∀p∈l,RP n p
def RPE(n:Int)(l:List Ev):Prop:=∀e∈l,RP n e.x/\RP n e.y/\RPs n e.regs
def RPs.le{n m:Int}{l:List (List aj)}(h:RPs n l)(hn:n<=m):RPs m l:=λp hp=>(h p hp).le hn
def RPE.le{n m:Int}{l:List Ev}(h:RPE n l)(hn:n<=m):RPE m l:=λe he=>⟨(h e he).1.le hn,(h e he).2.1.le hn,(h e he).2.2.le hn⟩
def xD{s s':Int->Int}{n:Int}(e:∀j,0<=j->j<n->s' j=s j){l:List (List aj)}(h:RPs n l):l.map (aX s')=l.map (aX s):=List.map_congr_left λp hp=>kP e (h p hp)
def Kl{s s':Int->Int}{n:Int}(e:∀j,0<=j->j<n->s' j=s j){l:List Ev}(h:RPE n l):l.map (Kk s')=l.map (Kk s):=List.map_congr_left λv hv=>by
 unfold Kk;rw [kP e (h v hv).1,kP e (h v hv).2.1,xD e (h v hv).2.2]
def OM(s:Int->Int)(l:List (List aj))(i:Int):((l.map (aX s)).getD (i).toNat default)=aX s ((l).getD (i).toNat default):=by
 rw [List.getD_eq_getElem?_getD,List.getD_eq_getElem?_getD,List.getElem?_map];cases l[i.toNat]? with
 | none=>exact(qN s).symm
 | some p=>rfl
def RPs.at{n:Int}{l:List (List aj)}(h:RPs n l)(i:Int):RP n ((l).getD (i).toNat default):=Ap.2 (xC (λp hp=>Ap.1 (h p hp)) i)
def ab9{op n:Int}{x y:List aj}(hop:1<=op/\op<=5)(hx:RP n x)(hy:RP n y):fT (atD op x y) n:=by
 have hx:=Ap.1 hx;have hy:=Ap.1 hy;unfold atD;split
 .unfold fT;rw [if_pos rfl];exact⟨hop,hy.1,hx.1,hy.2,hx.2⟩
 .unfold fT;rw [if_pos rfl];exact⟨hop,hx.1,hy.1,hx.2,hy.2⟩
def agP{t:List Atom}{op:Int}{x y:List aj}(h:tOk t op x y=true)(c:¬(eP op x y).2=true):0<=(aQ t (atD op x y)).2:=by
 unfold tOk at h;unfold atD;by_cases c2:op≠2/\0<eH x y
 .rw [if_pos c2,Bool.or_eq_true,Bool.not_eq_true',decide_eq_false_iff_not]at h;rw [if_pos c2];have:=h.resolve_left c;omega
 .rw [if_neg c2,Bool.or_eq_true,Bool.not_eq_true',decide_eq_false_iff_not]at h;rw [if_neg c2];have:=h.resolve_left c;omega
structure St1(s s' t':Int->Int)(u u' T:List Atom)(v V:List aj):Prop where
 tr:TR s' t' u' T
 ag:∀j:Int,0<=j->j<u.length->s' j=s j
 eq:V=aX s' v
 rp:RP u'.length v
def TR.n200{s t:Int->Int}{u T:List Atom}(h:TR s t u T):(u.length:Int)<=200:=by have:=(iE.1 h.tok).2;omega
def TR.amh{s t:Int->Int}{u T:List Atom}(h:TR s t u T)(hT:aF T){a A:Atom}(ha:fT a u.length)(oa:Ki a)(hl:u.length<200)(k0:0<=(aQ T A).2)(hc:(aQ T A).1=T)(e:A=yQ s a):
  ∃s' t':Int->Int,St1 s s' t' u (aQ u a).1 T (dx (aQ u a).2) (dx (aQ T A).2)/\0<=(aQ u a).2:=by
 obtain⟨k1,k2⟩:=qL k0;rw [hc]at k1 k2;obtain⟨s',t',P⟩:=h.put hT ha oa hl k0 k1 (by rw [k2,e]);exact⟨s',t',⟨P.tr,P.ag,by rw [Yb P.tr.r P.tr.n200 P.r0 P.r1,P.sr],RP.atom P.r0 P.r1⟩,P.r0⟩
def TR.do1{s t:Int->Int}{u T:List Atom}(h:TR s t u T)(hT:aF T){op:Int}{x y:List aj}(hop:1<=op/\op<=5)(hx:RP u.length x)(hy:RP u.length y)(hl:u.length<200)(ok:tOk T op (aX s x) (aX s y)=true)(hc:(tDo T op (aX s x) (aX s y)).1=T):
  ∃s' t':Int->Int,St1 s s' t' u (tDo u op x y).1 T (tDo u op x y).2 (tDo T op (aX s x) (aX s y)).2:=by
 have e:=SK h.r h.n200 hx hy op;by_cases c:(eP op x y).2=true
 .have e1:tDo u op x y=(u,(eP op x y).1):=by rw [Ih,if_pos c]
  have e2:tDo T op (aX s x) (aX s y)=(T,aX s (eP op x y).1):=by rw [Ih,e,if_pos c]
  rw [e1,e2];exact⟨s,t,h,λ_ _ _=>rfl,rfl,hx.simp hy op⟩
 .have k0:=agP ok (by rw [e];exact c);have e2:tDo T op (aX s x) (aX s y)=((aQ T (atD op (aX s x) (aX s y))).1,dx (aQ T (atD op (aX s x) (aX s y))).2):=by rw [Ih,e,if_neg c,if_neg ah]
  rw [e2]at hc ⊢;obtain⟨s',t',P,r0⟩:=h.amh hT (ab9 hop hx hy) (ab7 op x y) hl k0 hc (ab8 h.r hx hy op).symm;have e1:tDo u op x y=((aQ u (atD op x y)).1,dx (aQ u (atD op x y)).2):=by rw [Ih,if_neg c,if_neg ah]
  rw [e1];exact⟨s',t',P⟩
def OO(s:Int->Int){a:Atom}(h:a.kind≠4)(hx:a.x=[])(hy:a.y=[]):yQ s a=a:=by
 unfold yQ;rw [if_neg (λg=>h g.1),hx,hy,qN];cases a;dsimp only at*;rw [hx,hy]
structure LS(s t:Int->Int)(a A:SS):Prop where
 tr:TR s t a.t A.t
 regs:A.regs=a.regs.map (aX s)
 rr:RPs a.t.length a.regs
 vals:A.vals=a.vals.map (aX s)
 rv:RPs a.t.length a.vals
 ld:A.ld=a.ld
 inn:A.inn=a.inn
 evs:A.evs=a.evs.map (Kk s)
 re:RPE a.t.length a.evs
def LS.x{s t:Int->Int}{a A:SS}(h:LS s t a A)(o:IOp):xOf A o=aX s (xOf a o)/\RP a.t.length (xOf a o):=by
 unfold xOf;split
 .rw [h.vals,OM];exact⟨rfl,h.rv.at _⟩
 .exact⟨(qN s).symm,RP.nil _⟩
def LS.y{s t:Int->Int}{a A:SS}(h:LS s t a A)(o:IOp):yOf A o=aX s (yOf a o)/\RP a.t.length (yOf a o):=by
 unfold yOf;split
 .rw [h.vals,OM];exact⟨rfl,h.rv.at _⟩
 .exact⟨(qN s).symm,RP.nil _⟩
def LS.val{s t:Int->Int}{a A:SS}(h:LS s t a A)(hT:aF A.t){n:Int}{i:Nat}(si:SI n i a)(hn:n+i<200)(hi:i<200){o:IOp}(hk:o.kind=3->1<=o.k/\o.k<=5)(sA:SOK A o)(hc:nT A o=A.t):
  ∃s' t':Int->Int,St1 s s' t' a.t (nT a o) A.t (nV a o) (nV A o):=by
 have hl:=si.tl;have hl:a.t.length<200:=by omega
 have ea:aOf A o=aOf a o:=by unfold aOf;rw [h.ld,h.inn]
 have id:∀v V,V=aX s v->RP a.t.length v->nT a o=a.t->nV a o=v->nV A o=V->∃s' t':Int->Int,St1 s s' t' a.t (nT a o) A.t (nV a o) (nV A o):=λv V e r e1 e2 e3=>by
  rw [e1,e2,e3];exact⟨s,t,h.tr,λ_ _ _=>rfl,e,r⟩
 by_cases c3:o.kind=3
 .have e1:∀w:SS,nT w o=(tDo w.t o.k (xOf w o) (yOf w o)).1:=λw=>by unfold nT;rw [if_pos c3]
  have e2:∀w:SS,nV w o=(tDo w.t o.k (xOf w o) (yOf w o)).2:=λw=>by unfold nV;rw [if_neg ah,if_neg ah,if_pos c3]
  have ok:=(sA.d c3).ok;rw [e1]at hc;rw [(h.x o).1,(h.y o).1]at ok hc;rw [e1,e2,e2,(h.x o).1,(h.y o).1];exact h.tr.do1 hT (hk c3) (h.x o).2 (h.y o).2 hl ok hc
 .by_cases c4:o.kind=4\/o.kind=6
  .have e1:∀w:SS,nT w o=(aQ w.t (aOf w o)).1:=λw=>by unfold nT;rw [if_neg c3,if_pos c4]
   have e2:∀w:SS,nV w o=dx (aQ w.t (aOf w o)).2:=λw=>by unfold nV;rw [if_neg ah,if_neg ah,if_neg c3,if_pos c4]
   have k0:=sA.p c4;rw [e1]at hc;have f1:(aOf a o).kind≠4/\(aOf a o).x=[]/\(aOf a o).y=[]:=by unfold aOf;split<;>exact⟨by dsimp only;decide,rfl,rfl⟩
   obtain⟨s',t',P,_⟩:=h.tr.amh hT (QT si hi o _) (λg=>absurd g f1.1) hl k0 hc (by rw [ea,OO s f1.1 f1.2.1 f1.2.2]);rw [e1,e2,e2];exact⟨s',t',P⟩
  .have eT:nT a o=a.t:=by unfold nT;rw [if_neg c3,if_neg c4]
   by_cases c1:o.kind=1
   .exact id _ _ (vC o.k).symm (RP.const _ _) eT (by unfold nV;rw [if_pos c1]) (by unfold nV;rw [if_pos c1])
   .by_cases c2:o.kind=2
    .exact id _ _ rfl (h.rr.at o.k) eT (by unfold nV;rw [if_neg c1,if_pos c2]) (by unfold nV;rw [if_neg c1,if_pos c2,h.regs,OM])
    .exact id _ _ (qN s).symm (RP.nil _) eT (by unfold nV;rw [if_neg c1,if_neg c2,if_neg c3,if_neg c4]) (by unfold nV;rw [if_neg c1,if_neg c2,if_neg c3,if_neg c4])
def LS.step{s t:Int->Int}{a A:SS}(h:LS s t a A)(hT:aF A.t){n:Int}{i:Nat}(si:SI n i a)(hn:n+i<200)(hi:i<200){o:IOp}(hk:o.kind=3->1<=o.k/\o.k<=5)(sA:SOK A o)(hc:(stp A o).t=A.t):
  ∃s' t':Int->Int,LS s' t' (stp a o) (stp A o)/\∀j:Int,0<=j->j<a.t.length->s' j=s j:=by
 have hc:nT A o=A.t:=hc;obtain⟨s',t',P⟩:=h.val hT si hn hi hk sA hc;have le:(a.t.length:Int)<=(nT a o).length:=by have:=nZ (tT si hk hn hi).2.pre;exact Int.ofNat_le.2 this
 have ag:=P.ag;obtain⟨x1,x2⟩:=h.x o;obtain⟨y1,y2⟩:=h.y o;have x1':xOf A o=aX s' (xOf a o):=by rw [x1,kP ag x2]
 have y1':yOf A o=aX s' (yOf a o):=by rw [y1,kP ag y2]
 have r1':A.regs=a.regs.map (aX s'):=by rw [h.regs,xD ag h.rr]
 refine⟨s',t',⟨?_,?_,?_,?_,?_,?_,?_,?_,?_⟩,ag⟩
 .show TR s' t' (nT a o) (nT A o);rw [hc];exact P.tr
 .show nR A o=(nR a o).map (aX s');unfold nR;split
  .rw [List.map_set,<-r1',x1']
  .exact r1'
 .show RPs _ (nR a o);unfold nR;split
  .intro p hp;rcases List.mem_or_eq_of_mem_set hp with hp | rfl
   .exact(h.rr p hp).le le
   .exact x2.le le
  .exact h.rr.le le
 .show A.vals++ [nV A o]=(a.vals++ [nV a o]).map (aX s');rw [List.map_append,h.vals,xD ag h.rv,P.eq];rfl
 .show RPs _ (a.vals++ [nV a o]);intro p hp;rw [List.mem_append,List.mem_singleton]at hp;rcases hp with hp | rfl
  .exact(h.rv p hp).le le
  .exact P.rp
 .show(if o.kind=4 then A.ld+1 else A.ld)=if o.kind=4 then a.ld+1 else a.ld;rw [h.ld]
 .show(if o.kind=6 then A.inn+1 else A.inn)=if o.kind=6 then a.inn+1 else a.inn;rw [h.inn]
 .show nE A o=(nE a o).map (Kk s');unfold nE;have e0:A.evs=a.evs.map (Kk s'):=by rw [h.evs,Kl ag h.re]
  split
  .rw [List.map_append,e0,x1',y1',r1']
   congr 1
   show [_]=[Kk s' _];unfold Kk;dsimp only;split<;>rfl
  .exact e0
 .show RPE _ (nE a o);unfold nE;split
  .intro e he;rw [List.mem_append,List.mem_singleton]at he;rcases he with he | rfl
   .exact h.re.le le e he
   .refine⟨x2.le le,y2.le le,?_⟩;dsimp only;split
    .exact h.rr.le le
    .exact λp hp=>absurd hp (by simp)
  .exact h.re.le le
def Ye{α:Type}{a b c:List α}(h:a<+:b)(g:b<+:c)(e:c=a):b=a:=by
 subst e;exact g.eq_of_length (Nat.le_antisymm (nZ g) (nZ h))
def LS.run{n N:Int}:∀(ops:List IOp) (i:Nat) (s t:Int->Int) (a A:SS),LS s t a A->SI n i a->SI N i A->(∀o∈ops,o.kind=3->1<=o.k/\o.k<=5)->n+i+ops.length<=200->N+i+ops.length<=200->i+ops.length<=200->(ops.foldl stp A).t=A.t->
  ∃s' t':Int->Int,LS s' t' (ops.foldl stp a) (ops.foldl stp A)/\∀j:Int,0<=j->j<a.t.length->s' j=s j
 | [],_,s,t,_,_,h,_,_,_,_,_,_,_=>⟨s,t,h,λ_ _ _=>rfl⟩
 | o::r,i,s,t,a,A,h,si,SI,hk,h1,h2,h3,hc=>by
  rw [List.length_cons]at h1 h2 h3;have ko:=hk o List.mem_cons_self;obtain⟨a1,a2⟩:=tT si ko ah ah;obtain⟨A1,A2⟩:=tT SI ko ah ah;have kr:∀o∈r,o.kind=3->1<=o.k/\o.k<=5:=λo ho=>hk o (List.mem_cons_of_mem _ ho)
  rw [List.foldl_cons]at hc;obtain⟨_,B2⟩:=tV r (i+1) (stp A o) A1 kr ah ah;have e1:(stp A o).t=A.t:=Ye A2.pre B2 hc;obtain⟨s1,t1,g1,g2⟩:=h.step SI.tok si ah ah ko A2 e1;obtain⟨s2,t2,g3,g4⟩:=LS.run r (i+1) s1 t1 _ _ g1 a1 A1 kr ah ah ah (by rw [hc,e1]);rw [List.foldl_cons,List.foldl_cons];exact⟨s2,t2,g3,λj j0 j1=>by rw [g4 j j0 (by have:=nZ a2.pre;omega),g2 j j0 j1]⟩
structure YOK(n:Int)(y:Sym):Prop where
 e:RPE n y.events
 r:RPs n y.regs
 x:RP n y.x
 y:RP n y.y
def YOK.le{n m:Int}{y:Sym}(h:YOK n y)(hn:n<=m):YOK m y:=⟨h.e.le hn,h.r.le hn,h.x.le hn,h.y.le hn⟩
def TR.nil(T:List Atom):TR id id [] T:=by
 refine⟨⟨λk h1 h2=> ?_,λk h1 h2=> ?_⟩,pY,λk h1 h2=> ?_,λk h1 h2=> ?_⟩<;>exact absurd h2 (by simp;omega)
def agQ{p1 f1}(U1:Y13 p1 f1)(a:List (List aj))(ha:ShP a):Ng.F (p1,f1,()) (a,()) (λy=>y=(a,())):=by
 have hlen:=ha.1;dsimp only [Ng,gm];refine ak (λ(y:List (List aj)×Int×List (List aj)×Unit)=>y.1=a/\y.2.2.1=a.take y.2.1.toNat/\0<=y.2.1/\y.2.1<=a.length) (λy=>(a.length-y.2.1).toNat) ⟨rfl,by simp,by simp,by simp⟩ ?_;rintro⟨(l:List (List aj)),(i:Int),(o:List (List aj)),⟨⟩⟩ hI;dsimp only at hI ⊢;obtain⟨rfl,rfl,h1,h2⟩:=hI;simp (disch:=omega) only [RR,U1.hp _ (ha.at _),U1.hf _ (ha.at _)];refine⟨λh4=>⟨ah,ah,?_,⟨bI h1 h4 rfl,ah,ah⟩,ah⟩,λh4=>by rw [List.take_of_length_le ah]⟩;have:=List.length_take_le' i.toNat l;simp only [List.length_cons,List.length_nil];omega
def Yf(k:Int)(l:List (List aj)):MQ.F () (k,l,()) (λy=>y=(if k<0\/(l.length:Int)<=k then []else((l).getD (k).toNat default),l,())):=by
 dsimp only [MQ,gm];simp (disch:=omega) only [RR];refine⟨λh=>by rw [if_pos ah],λh=>⟨ah,ah,ah,ah,by rw [if_neg ah]⟩⟩
def oV(l:List Ev)(k:Int):Int:=((l.filter λe=>decide (e.kind=k)).length:Int)
def vD(l:List Ev)(e:Ev)(k:Int):oV (l++ [e]) k=if e.kind=k then oV l k+1 else oV l k:=by
 unfold oV;rw [List.filter_append,List.length_append];by_cases c:e.kind=k
 .rw [if_pos c,List.filter_cons_of_pos (by simpa using c)];simp
 .rw [if_neg c,List.filter_cons_of_neg (by simpa using c)];simp
def Yg(l:List Ev)(k:Int)(hl:l.length<1000000000):Nb.F () (l,k,()) (λy=>y=(oV l k,())):=by
 dsimp only [Nb,gm];refine ak (λ(y:List Ev×Int×Int×Int×Unit)=>y.1=l/\y.2.1=k/\y.2.2.1=oV (l.take y.2.2.2.1.toNat) k/\0<=y.2.2.2.1/\y.2.2.2.1<=l.length) (λy=>(l.length-y.2.2.2.1).toNat) ⟨rfl,rfl,by simp;rfl,by simp,by simp⟩ ?_;rintro⟨(l:List Ev),(k:Int),(n:Int),(i:Int),⟨⟩⟩ hI;dsimp only at hI ⊢;obtain⟨rfl,rfl,rfl,h1,h2⟩:=hI;have b:0<=oV (l.take i.toNat) k/\oV (l.take i.toNat) k<=i:=by
  unfold oV;have:=List.length_filter_le (λe:Ev=>decide (e.kind=k)) (l.take i.toNat);have:=List.length_take_le i.toNat l;omega
 simp (disch:=omega) only [RR,RB];refine⟨λh4=>⟨ah,ah,?_⟩,λh4=>by rw [List.take_of_length_le ah]⟩;have e:l.take (i+1).toNat=l.take i.toNat++ [((l).getD (i).toNat default)]:=by rw [show(i+1).toNat=i.toNat+1 by omega,List.take_succ_eq_append_getElem ah,getD_lt (show i.toNat<l.length by omega)]
 refine⟨λg=>⟨⟨?_,ah,ah⟩,ah⟩,λg=>⟨⟨?_,ah,ah⟩,ah⟩⟩
 .rw [e,vD,if_pos g]
 .rw [e,vD,if_neg g]
def agR{p1 f1 p2 f2}(U1:Y28 p1 f1)(U2:Y35 p2 f2){p3:List Ev×Int×Unit->Bool}{f3:List Ev×Int×Unit->Int×Unit}(hp3:∀l k,l.length<1000000000->p3 (l,k,())=true)(hf3:∀l k,l.length<1000000000->f3 (l,k,())=(oV l k,()))(l:List Ev)(k:Int)(t:List Atom)(hl:l.length<1000000000)(ht:ShT t)(hk:aF t):Nc.F (p1,f1,p2,f2,p3,f3,()) (l,k,t,()) (λy=>y=((aQ t ⟨if k=6 then 3 else 2,oV l k,[],[]⟩).1,dx (aQ t ⟨if k=6 then 3 else 2,oV l k,[],[]⟩).2,())):=by
 have sh:∀n:Int,ShA ⟨n,oV l k,[],[]⟩:=λn=>⟨⟨by simp,λm hm=>absurd hm (by simp)⟩,⟨by simp,λm hm=>absurd hm (by simp)⟩⟩
 dsimp only [Nc,gm];simp (disch:=omega) only [RR,hp3 l k hl,hf3 l k hl,U2.hp _ t (sh _) ht hk,U2.hf _ t (sh _) ht hk,U1.hp,U1.hf];exact⟨λh=>by rw [if_pos h],λh=>by rw [if_neg h]⟩
def agS{p1 f1 p2 f2}(U1:Y13 p1 f1)(U2:Y56 p2 f2)(o:IOp)(x y:List aj)(r:List (List aj))(hx:Sh x)(hy:Sh y)(hr:ShP r):Nh.F (p1,f1,p2,f2,()) (o,x,y,r,()) (λz=>z=(o.kind,o.at_,if o.kind=6 then []else x,if o.kind=5 then y else [],if o.kind=4\/o.kind=5 then r else [],())):=by
 dsimp only [Nh,gm];simp (disch:=omega) only [RR,RB,U1.hp x hx,U1.hf x hx,U1.hp y hy,U1.hf y hy,U2.hp r hr,U2.hf r hr];refine⟨λh=>⟨λg=> ?_,λg=> ?_⟩,λh=>⟨λg=> ?_,λg=> ?_⟩⟩
 all_goals refine⟨λk=> ?_,λk=> ?_⟩
 all_goals first | rw [if_pos h] | rw [if_neg h]
 all_goals first | rw [if_pos g] | rw [if_neg g]
 all_goals first | rw [if_pos k] | rw [if_neg ah]
def Yh(s:Sym)(k:Int):Nk.F () (s,k,()) (λy=>y=(s.events,s.regs,1,k,())):=by
 dsimp only [Nk,gm];simp (disch:=omega) only [RR,RB]
def Yi(b:Blk):Ni.F () (b,()) (λy=>y=(if b.fin=1 then-1 else b.x,())):=by
 dsimp only [Ni,gm];simp (disch:=omega) only [RR,RB];exact⟨λh=>by rw [if_pos h],λh=>by rw [if_neg h]⟩
def Yj(b:Blk):Nj.F () (b,()) (λy=>y=(if b.fin=1\/b.fin=2 then-1 else b.y,())):=by
 dsimp only [Nj,gm];simp (disch:=omega) only [RR,RB];exact⟨λh=>by rw [if_pos h],λh=>by rw [if_neg ah]⟩
structure ami(pp:Sym×Int×Unit->Bool)(ff:Sym×Int×Unit->List Ev×List (List aj)×Int×Int×Unit):Prop where
 hp:∀s k,pp (s,k,())=true
 hf:∀s k,ff (s,k,())=(s.events,s.regs,1,k,())
def agT{p1 f1 p2 f2 p3 f3}(U1:Y27 p1 f1)(U2:Y8 p2 f2)(U3:ami p3 f3)(s:Sym)(n:Int)(hs:ShY s)(hx:aJ s.x)(hy:aJ s.y)(hf:s.fin=3\/s.fin=4):Nl.F (p1,f1,p2,f2,p3,f3,()) (s,n,()) (λy=>y=(symEnd s n,())):=by
 dsimp only [Nl,gm];simp (disch:=omega) only [RR,RB,U1.hp _ hs.x,U1.hf _ hs.x,U1.hp _ hs.y,U1.hf _ hs.y,U2.hp _ _ hs.x,U2.hf _ _ hs.x,U3.hp,U3.hf];have z:eH s.x s.y=0↔s.x=s.y:=fF;have key:(bW s.x).2=true->(bW s.y).2=true->(bW s.x).1=(bW s.y).1->s.x=s.y:=λa b c=>(qK a).2.1.trans ((congrArg bR c).trans (qK b).2.1.symm)
 unfold symEnd;rw [aW ⟨hx,hy⟩,if_neg (show¬(true=false) by decide),if_neg (show¬(s.fin=2/\(bW s.x).2=true) by omega),if_neg (show¬(s.fin≠3/\s.fin≠4) by omega)];simp only [z];by_cases c:s.x=s.y
 .have l:¬(bW s.x).1< (bW s.y).1:=by rw [c];omega
  rcases hf with f | f<;>simp [c,f]
 .rcases hf with f | f<;>by_cases nx:(bW s.x).2=true<;>by_cases ny:(bW s.y).2=true<;>by_cases l:(bW s.x).1< (bW s.y).1<;>by_cases g:0<eH s.x s.y<;>simp [c,f,nx,ny,l,g]
  all_goals rw [if_neg λe=>c (key nx ny e)]
def agU{p1 f1 p2 f2 p3 f3 p4 f4 p6 f6}(U1:Y27 p1 f1)(U2:Y11 p2 f2)(U3:Y13 p3 f3)(U4:ami p4 f4){p5:Sym×Int×Unit->Bool}{f5:Sym×Int×Unit->Sym×Unit}(hp5:∀s n,ShY s->aJ s.x->aJ s.y->(s.fin=3\/s.fin=4)->p5 (s,n,())=true)(hf5:∀s n,ShY s->aJ s.x->aJ s.y->(s.fin=3\/s.fin=4)->f5 (s,n,())=(symEnd s n,()))(U6:Y56 p6 f6)(s:Sym)(n:Int)(hs:ShY s):Nn.F (p1,f1,p2,f2,p3,f3,p4,f4,p5,f5,p6,f6,()) (s,n,()) (λy=>y=(symEnd s n,())):=by
 dsimp only [Nn,gm];simp (disch:=omega) only [RR,RB,U2.hp _ hs.x,U2.hf _ hs.x,U2.hp _ hs.y,U2.hf _ hs.y];have le:=hs.e.1;have no:(bp (aJ s.x)=false\/bp (aJ s.y)=false)->symEnd s n=SA:=λh=>by
  unfold symEnd;rw [if_pos];rw [kL];rcases h with h | h<;>rw [h]<;>simp
 refine⟨λh=>by rw [no h];rfl,λh=> ?_⟩;have hx:=aO.1 h.1;have hy:=aO.1 h.2;refine ak (λ(y:Int×Int×Sym×Int×Int×List (List aj)×Int×List aj×List aj×Int×List Ev×Unit)=>y.1=n/\y.2.2.1=s/\y.2.2.2.2.2.2.1=s.fin/\y.2.2.2.2.2.2.2.2.2.1=s.k/\0<=y.2.1/\y.2.1<=s.events.length/\y.2.2.2.2.2.2.2.2.2.2.1=s.events.take y.2.1.toNat) (λy=>(s.events.length-y.2.1).toNat) ⟨rfl,rfl,rfl,rfl,by simp,by simp,by simp⟩ ?_;rintro⟨(n':Int),(i:Int),(s':Sym),(z1:Int),(z2:Int),(z3:List (List aj)),(fin:Int),(z4:List aj),(z5:List aj),(k:Int),(ev:List Ev),⟨⟩⟩ hI;dsimp only at hI ⊢;obtain⟨rfl,rfl,rfl,rfl,h1,h2,rfl⟩:=hI;have E:=hs.e.at i.toNat;have tl:=List.length_take_le' i.toNat s'.events;by_cases g:i<s'.events.length
 .simp (disch:=omega) only [RR,RB,g,U3.hp _ E.1,U3.hf _ E.1,U3.hp _ E.2.1,U3.hf _ E.2.1,U6.hp _ E.2.2,U6.hf _ E.2.2];exact⟨h1,by simp only [List.length_cons,List.length_nil];omega,⟨ah,ah,bI h1 g rfl⟩,ah⟩
 .have ef:s'.events.take i.toNat=s'.events:=List.take_of_length_le ah;rw [ef];simp (disch:=omega) only [RR,RB,g,U3.hp _ hs.x,U3.hf _ hs.x,U3.hp _ hs.y,U3.hf _ hs.y,U6.hp _ hs.r,U6.hf _ hs.r,U1.hp _ hs.x,U1.hf _ hs.x,U4.hp,U4.hf];have b:¬bp (aJ s'.x/\aJ s'.y)=false:=by rw [aW ⟨hx,hy⟩];decide
  have P:=λf=>hp5 s' n' hs hx hy f
  have F:=λf=>hf5 s' n' hs hx hy f
  have pl:s'.fin≠3/\s'.fin≠4->¬(s'.fin=2/\(bW s'.x).2=true)->symEnd s' n'=s':=λc d=>by unfold symEnd;rw [if_neg b,if_neg d,if_pos c]
  refine⟨λf=>⟨λg=> ?_,λg=> ?_⟩,λf=>⟨λk=>⟨λ_=>⟨P (Or.inl k),?_⟩,λe=>absurd k e⟩,λk=>⟨λl=>⟨P (Or.inr l),?_⟩,λl=> ?_⟩⟩⟩
  .unfold symEnd;rw [if_neg b,if_pos ⟨f,g⟩]
  .rw [pl ah (by rw [g];simp)]
  .exact congrArg (λz=>(z.1,())) (F (Or.inl k))
  .exact congrArg (λz=>(z.1,())) (F (Or.inr l))
  .rw [pl ⟨k,l⟩ (λh=>f h.1)]
structure Cn(s:SS):Prop where
 ld:s.ld=oV s.evs 4
 inn:s.inn=oV s.evs 6
def Cn.stp{s:SS}(h:Cn s)(o:IOp):Cn (stp s o):=by
 constructor
 .show(if o.kind=4 then s.ld+1 else s.ld)=oV (nE s o) 4;unfold nE;by_cases c:evO o
  .rw [if_pos c,vD,h.ld]
  .rw [if_neg c,if_neg (λe=>c (by unfold evO;omega)),h.ld]
 .show(if o.kind=6 then s.inn+1 else s.inn)=oV (nE s o) 6;unfold nE;by_cases c:evO o
  .rw [if_pos c,vD,h.inn]
  .rw [if_neg c,if_neg (λe=>c (by unfold evO;omega)),h.inn]
def Cn.run:∀(l:List IOp) (s:SS),Cn s->Cn (l.foldl Go.TX.F.stp s)
 | [],_,h=>h
 | o::r,s,h=>Cn.run r _ (h.stp o)
structure Pt2(t:List Atom)(b:Blk)(i:Nat)(tb:List Atom)(V:List (List aj))(ev:List Ev)(rg:List (List aj)):Prop where
 tb:tb=(SW t b i).t
 V:V=(SW t b i).vals
 ev:ev=(SW t b i).evs
 rg:rg=(SW t b i).regs
def Pt2.next{t:List Atom}{b:Blk}{i:Nat}{tb:List Atom}{V:List (List aj)}{ev:List Ev}{rg:List (List aj)}(h:Pt2 t b i tb V ev rg)(hi:i<b.ops.length){o:IOp}(ho:b.ops.getD i default=o)
  {v:List aj} {tb':List Atom} {ev':List Ev} {rg':List (List aj)} (h3:tb'=nT (SW t b i) o) (h4:v=nV (SW t b i) o) (h5:ev'=nE (SW t b i) o) (h6:rg'=nR (SW t b i) o):Pt2 t b (i+1) tb' (V++ [v]) ev' rg':=by
 have e:=QZ (t:=t) hi;rw [ho]at e;refine⟨?_,?_,?_,?_⟩<;>rw [e]
 .exact h3
 .rw [h.V,h4];rfl
 .exact h5
 .exact h6
def Ez{α:Type}{l:List α}{i:Nat}(h:i<l.length)(v:α):(l.set i v).take (i+1)=l.take i++ [v]:=by
 rw [List.take_succ_eq_append_getElem (by rw [List.length_set];exact h),List.getElem_set_self,List.take_set_of_le (Nat.le_refl _)]
structure apv(pp:Sym×Int×Unit->Bool)(ff:Sym×Int×Unit->Sym×Unit):Prop where
 hp:∀s n,ShY s->pp (s,n,())=true
 hf:∀s n,ShY s->ff (s,n,())=(symEnd s n,())
set_option maxHeartbeats 1000000 in
def agV{p1 f1 p2 f2 p3 f3 p4 f4 p5 f5 p6 f6 p7 f7 p8 f8 p10 f10 p14 f14}(U1:Y60 p1 f1)(U2:Y28 p2 f2)(U3:Y22 p3 f3)(U4:apv p4 f4)(U5:Y44 p5 f5)(U6:Y29 p6 f6)(U7:Y13 p7 f7)(U8:Y31 p8 f8){p9:Int×List aj×List aj×List Atom×Unit->Bool}{f9:Int×List aj×List aj×List Atom×Unit->List Atom×List aj×Unit}(hp9:∀op x y t,(1<=op/\op<=5)->Sh x->Sh y->ShT t->aF t->p9 (op,x,y,t,())=true)(hf9:∀op x y t,(1<=op/\op<=5)->Sh x->Sh y->ShT t->aF t->f9 (op,x,y,t,())=((tDo t op x y).1,(tDo t op x y).2,()))(U10:Y35 p10 f10){p11:List Ev×Int×List Atom×Unit->Bool}{f11:List Ev×Int×List Atom×Unit->List Atom×List aj×Unit}(abZ:∀l k t,l.length<1000000000->ShT t->aF t->p11 (l,k,t,())=true)(ab0:∀l k t,l.length<1000000000->ShT t->aF t->f11 (l,k,t,())=((aQ t ⟨if k=6 then 3 else 2,oV l k,[],[]⟩).1,dx (aQ t ⟨if k=6 then 3 else 2,oV l k,[],[]⟩).2,())){p12:IOp×List aj×List aj×List (List aj)×Unit->Bool}{f12:IOp×List aj×List aj×List (List aj)×Unit->Int×Int×List aj×List aj×List (List aj)×Unit}(OH:∀o x y r,Sh x->Sh y->ShP r->p12 (o,x,y,r,())=true)(OI:∀o x y r,Sh x->Sh y->ShP r->f12 (o,x,y,r,())=(o.kind,o.at_,if o.kind=6 then []else x,if o.kind=5 then y else [],if o.kind=4\/o.kind=5 then r else [],())){p13:Int×List (List aj)×Unit->Bool}{f13:Int×List (List aj)×Unit->List aj×List (List aj)×Unit}(Ii:∀k l,p13 (k,l,())=true)(acd:∀k l,f13 (k,l,())=(if k<0\/(l.length:Int)<=k then []else((l).getD (k).toNat default),l,()))(U14:Y56 p14 f14){p15:Blk×Unit->Bool}{f15:Blk×Unit->Int×Unit}(apw:∀b,p15 (b,())=true)(apx:∀b,f15 (b,())=(if b.fin=1 then-1 else b.x,())){p16:Blk×Unit->Bool}{f16:Blk×Unit->Int×Unit}(apy:∀b,p16 (b,())=true)(apz:∀b,f16 (b,())=(if b.fin=1\/b.fin=2 then-1 else b.y,()))(t:List Atom)(b:Blk)(ht:ShT t)(hb:b.ops.length<1000000000):Np.F (p1,f1,p2,f2,p3,f3,p4,f4,p5,f5,p6,f6,p7,f7,p8,f8,p9,f9,p10,f10,p11,f11,p12,f12,p13,f13,p14,f14,p15,f15,p16,f16,()) (t,b,()) (λy=>y=((bO t b).1,(bO t b).2,())):=by
 obtain⟨hp1,hf1⟩:=U1;obtain⟨hp2,hf2⟩:=U2;obtain⟨hp3,hf3⟩:=U3;obtain⟨hp4,hf4⟩:=U4;obtain⟨hp5,hf5⟩:=U5;obtain⟨hp6,hf6⟩:=U6;obtain⟨hp7,hf7⟩:=U7;obtain⟨hp8,hf8⟩:=U8;obtain⟨abY,agL⟩:=U10;obtain⟨apA,apB⟩:=U14;have hlt:=ht.1;dsimp only [Np,gm];simp (disch:=omega) only [RR,RB,hp6 t ht,hf6 t ht,hp1 b hb,hf1 b hb,hp8 t ht,hf8 t ht,hp5];by_cases c:aF t/\t.length<=100/\iD b
 case neg=>
  refine⟨λ_=> ?_,λh=> ?_⟩
  .unfold bO;rw [aY c];rfl
  .exact absurd ⟨aO.1 h.1.1,ah,aO.1 h.1.2⟩ c
 obtain⟨c1,c2,c3⟩:=c;simp (disch:=omega) only [RR,aW c1,aW c3];have sz:=c3.sz;have hop:=c3.op;have hk3:=c3.k3;have i0:=FD c1 ah;obtain⟨_,g5,_⟩:=hf5;refine⟨λh=>absurd h ah,λ_=> ?_⟩;refine ak (λ(y:Int×Blk×Int×Int×Int×Int×List (List aj)×List Atom×Unit)=>0<=y.1/\y.1<=4/\y.2.1=b/\y.2.2.2.2.1=b.fin/\y.2.2.2.2.2.1=b.k/\y.2.2.2.2.2.2.1.length=4/\y.2.2.2.2.2.2.1.take y.1.toNat=(rN t y.1.toNat).2/\y.2.2.2.2.2.2.2.1=(rN t y.1.toNat).1) (λy=>(4-y.1).toNat) ⟨by simp,by simp,rfl,rfl,rfl,g5,by simp;rfl,rfl⟩ ?_;rintro⟨(r:Int),(b':Blk),(z1:Int),(z2:Int),(fin:Int),(kk:Int),(rg:List (List aj)),(tb:List Atom),⟨⟩⟩ hI;dsimp only at hI ⊢;obtain⟨r0,r1,rfl,rfl,rfl,r4,r5,rfl⟩:=hI;have ok:=Ba c1 ah r.toNat ah;have okl:=ok.tl;by_cases h:r<4
 .have sA:ShA ⟨1,r,[],[]⟩:=⟨⟨by simp,λm hm=>absurd hm (by simp)⟩,⟨by simp,λm hm=>absurd hm (by simp)⟩⟩;have er:((r.toNat:Nat):Int)=r:=by omega
  simp (disch:=omega) only [RR,h,abY _ _ sA ok.tok.sh ok.tok,agL _ _ sA ok.tok.sh ok.tok,hp2,hf2,r4,List.length_set];have es:rN t (r+1).toNat=((aQ (rN t r.toNat).1 ⟨1,r,[],[]⟩).1,(rN t r.toNat).2++ [dx (aQ (rN t r.toNat).1 ⟨1,r,[],[]⟩).2]):=by
   rw [show(r+1).toNat=r.toNat+1 by omega,BO,er]
  refine⟨r0,ah,r0,ah,⟨ah,ah,?_,by rw [es]⟩,ah⟩;rw [es,show(r+1).toNat=r.toNat+1 by omega,Ez ah,r5]
 .have e4:r.toNat=4:=by omega
  rw [e4]at r5 ok;have eg:rg=(rN t 4).2:=by rw [<-r5,List.take_of_length_le ah]
  subst eg;rw [e4];simp (disch:=omega) only [RR,h];refine ak (λ(y:Int×Blk×Int×Int×Int×Int×List (List aj)×List (List aj)×List Atom×List Ev×Unit)=>0<=y.1/\y.1<=b'.ops.length/\y.2.1=b'/\y.2.2.2.2.1=b'.fin/\y.2.2.2.2.2.1=b'.k/\Pt2 t b' y.1.toNat y.2.2.2.2.2.2.2.2.1 y.2.2.2.2.2.2.2.1 y.2.2.2.2.2.2.2.2.2.1 y.2.2.2.2.2.2.1) (λy=>(b'.ops.length-y.1).toNat) ⟨by simp,by simp,rfl,rfl,rfl,⟨rfl,rfl,rfl,rfl⟩⟩ ?_;have siw:∀j:Nat,j<=b'.ops.length->SI (t.length+4) j (SW t b' j):=λj hj=>by
   have:=(tV (b'.ops.take j) 0 (s0 t) i0 (λo ho=>hk3 o (List.mem_of_mem_take ho)) (by rw [List.length_take];omega) (by rw [List.length_take];omega)).1;rw [List.length_take,Nat.min_eq_left hj,Nat.zero_add]at this;exact this
  rintro⟨(i:Int),(b:Blk),(z1:Int),(z2:Int),(fin:Int),(kk:Int),(rg:List (List aj)),(V:List (List aj)),(tb:List Atom),(ev:List Ev),⟨⟩⟩ hI;dsimp only at hI ⊢;obtain⟨h1,h2,rfl,rfl,rfl,hA⟩:=hI;have si:=siw i.toNat ah;have evl:=X3 (t:=t) (b:=b) i.toNat ah;have cn:=Cn.run (b.ops.take i.toNat) (s0 t) ⟨rfl,rfl⟩;have cn:Cn (SW t b i.toNat):=cn;by_cases h7:i<b.ops.length
  case neg=>
   have en:=c3.en;have hf:=en.f;have hpc:=c3.pc;have hln:=c3.ln;have ein:i.toNat=b.ops.length:=by omega
   have eS:SW t b i.toNat=gJ t b:=by unfold SW gJ;rw [ein,List.take_of_length_le (Nat.le_refl _)]
   obtain⟨a3,a4,a5,a6⟩:=hA;rw [eS]at a3 a4 a5 a6 si;subst a3 a4 a5 a6;have pk:=Ia (b:=b) si;have eR:=qM c1 c2 c3;have sh:ShY (yL b (gJ t b)):=by
    have hs:=H9 b.ops 0 (s0 t) i0 hk3 ah ah ⟨by simp [s0],λe he=>absurd he (by simp [s0])⟩;exact⟨⟨by have:=hs.1;show(b.ops.foldl stp (s0 t)).evs.length<_;omega,hs.2⟩,si.regs,pk.1.sh,pk.2.sh⟩
   have sl:=si.vl;have x1:=en.x1;have y1:=en.y1;have EX:f13 (if b.fin=1 then-1 else b.x,(gJ t b).vals,())=((yL b (gJ t b)).x,(gJ t b).vals,()):=by
    rw [acd];show _=(if b.fin=1 then []else(((gJ t b).vals).getD (b.x).toNat default),_);by_cases c:b.fin=1
    .rw [if_pos c,if_pos c,if_pos ah]
    .obtain⟨v1,v2,_⟩:=x1 c;rw [if_neg c,if_neg c,if_neg ah]
   have EY:f13 (if b.fin=1\/b.fin=2 then-1 else b.y,(gJ t b).vals,())=((yL b (gJ t b)).y,(gJ t b).vals,()):=by
    rw [acd];show _=(if 3<=b.fin then(((gJ t b).vals).getD (b.y).toNat default)else [],_);by_cases c:b.fin=1\/b.fin=2
    .rw [if_pos c,if_pos (Or.inl (by decide)),if_neg (show¬3<=b.fin by omega)]
    .obtain⟨v1,v2,_⟩:=y1 ah;rw [if_neg c,if_neg (show¬(b.y<0\/((gJ t b).vals.length:Int)<=b.y) by omega),if_pos (show 3<=b.fin by have:=hf;omega)]
   have shr:ShP (gJ t b).regs:=sh.r;simp (disch:=omega) only [RR,RB,h7,apA _ shr,apB _ shr,apw,apx,apy,apz,Ii,EX,EY,hp7 _ sh.x,hf7 _ sh.x,hp7 _ sh.y,hf7 _ sh.y];exact⟨hp4 _ _ sh,by rw [eR];exact congrArg (λz=>((gJ t b).t,z.1,())) (hf4 (yL b (gJ t b)) (b.pc+b.len) sh)⟩
  have hok:=hop i h1 h7;have nxt:=λ{v:List aj} {tb':List Atom} {ev':List Ev} {rg':List (List aj)}=>Pt2.next (o:=((b.ops).getD (i).toNat default)) hA ah rfl (v:=v) (tb':=tb') (ev':=ev') (rg':=rg')
  obtain⟨a3,a4,a5,a6⟩:=hA;have ei:(i+1).toNat=i.toNat+1:=by omega
  obtain⟨sn,so⟩:=tT (o:=((b.ops).getD (i).toNat default)) si hok.k3 ah ah;have vl:=si.vl;have shv:∀k:Int,Sh (if k<0\/(V.length:Int)<=k then []else((V).getD (k).toNat default)):=λk=>by
   split
   .exact⟨by simp,λm hm=>absurd hm (by simp)⟩
   .rw [a4];exact(xC si.vok k).1.sh
  obtain⟨X,eX⟩:∃X,X=if(((b.ops).getD (i).toNat default)).x<0\/(V.length:Int)<=(((b.ops).getD (i).toNat default)).x then []else((V).getD ((((b.ops).getD (i).toNat default)).x).toNat default):=⟨_,rfl⟩
  obtain⟨Y,eY⟩:∃Y,Y=if(((b.ops).getD (i).toNat default)).y<0\/(V.length:Int)<=(((b.ops).getD (i).toNat default)).y then []else((V).getD ((((b.ops).getD (i).toNat default)).y).toNat default):=⟨_,rfl⟩
  have F1:f13 ((((b.ops).getD (i).toNat default)).x,V,())=(X,V,()):=by rw [acd,eX]
  have F2:f13 ((((b.ops).getD (i).toNat default)).y,V,())=(Y,V,()):=by rw [acd,eY]
  have shx:Sh X:=eX▸shv _;have shy:Sh Y:=eY▸shv _;have ex:hX ((b.ops).getD (i).toNat default)->X=xOf (SW t b i.toNat) ((b.ops).getD (i).toNat default):=λh=>by
   have v:=hok.x1 h;have v2:=v.2.1;unfold xOf;rw [if_pos h,eX,if_neg (by rw [a4,vl];have:=v.1;omega),a4]
  have ey:hY ((b.ops).getD (i).toNat default)->Y=yOf (SW t b i.toNat) ((b.ops).getD (i).toNat default):=λh=>by
   have v:=hok.y1 h;have v2:=v.2.1;unfold yOf;rw [if_pos h,eY,if_neg (by rw [a4,vl];have:=v.1;omega),a4]
  clear eX eY shv
  have vl':V.length=i.toNat:=by rw [a4];exact vl
  generalize hs:SW t b i.toNat=s at*;generalize ho:((b.ops).getD (i).toNat default)=o at*;have kd:=hok.kd;subst a3 a5 a6;have r4:s.regs.length=4:=si.r4;have tsh:=si.tok.sh;have cnl:=cn.ld;have cni:=cn.inn;have rsh:ShP s.regs:=si.regs;have dn:=λ{v:List aj} {tb':List Atom} {ev':List Ev} {rg':List (List aj)} (h3:tb'=nT s o) (h4:v=nV s o) (h5:ev'=nE s o) (h6:rg'=nR s o)=>show((V.length:Int)+([v].length:Int)<=1073741824)/\(0<=i+1/\i+1<=b.ops.length/\Pt2 t b (i+1).toNat tb' (V++ [v]) ev' rg')/\(b.ops.length- (i+1)).toNat< (b.ops.length-i).toNat from⟨by simp only [List.length_cons,List.length_nil];omega,⟨ah,ah,by rw [ei];exact nxt h3 h4 h5 h6⟩,ah⟩
  have el1:∀e:Ev,(s.evs.length:Int)+([e].length:Int)<=1073741824:=λe=>by simp only [List.length_cons,List.length_nil];omega
  have T0:o.kind≠3->o.kind≠4->o.kind≠6->s.t=nT s o:=λh3 h4 h6=>by unfold nT;rw [if_neg h3,if_neg ah]
  have R0:o.kind≠8->s.regs=nR s o:=λh=>by unfold nR;rw [if_neg h]
  have E0:¬evO o->s.evs=nE s o:=λh=>by unfold nE;rw [if_neg h]
  have V0:o.kind=5\/o.kind=7\/o.kind=8->[]=nV s o:=λh=>by unfold nV;rw [if_neg ah,if_neg ah,if_neg ah,if_neg ah]
  rcases(by omega:o.kind=1\/o.kind=2\/o.kind=3\/o.kind=4\/o.kind=5\/o.kind=6\/o.kind=7\/o.kind=8)with c | c | c | c | c | c | c | c
  .simp (disch:=omega) only [RR,RB,ho,h7,Ii,F1,F2,c,Int.reduceEq,hp3,hf3];exact⟨h1,dn (T0 ah ah ah) (show bR o.k=nV s o by unfold nV;rw [if_pos c]) (E0 (by unfold evO;omega)) (R0 ah)⟩
  .have k2:=hok.k2 (Or.inl c);simp (disch:=omega) only [RR,RB,ho,h7,Ii,F1,F2,c,Int.reduceEq,r4];exact⟨h1,k2.1,ah,k2.1,ah,dn (T0 ah ah ah) (show((s.regs).getD (o.k).toNat default)=nV s o by unfold nV;rw [if_neg ah,if_pos c]) (E0 (by unfold evO;omega)) (R0 ah)⟩
  .have d9:=hok.k3 c;simp (disch:=omega) only [RR,RB,ho,h7,Ii,F1,F2,c,Int.reduceEq,hp9 o.k _ _ _ d9 shx shy tsh si.tok,hf9 o.k _ _ _ d9 shx shy tsh si.tok];have e1:=ex (by unfold hX;omega);have e2:=ey (by unfold hY;omega);exact⟨h1,dn (show(tDo s.t o.k X Y).1=nT s o by unfold nT;rw [if_pos c,e1,e2]) (show(tDo s.t o.k X Y).2=nV s o by unfold nV;rw [if_neg ah,if_neg ah,if_pos c,e1,e2]) (E0 (by unfold evO;omega)) (R0 ah)⟩
  .have el:s.evs.length<1000000000:=by omega
   have ea:aOf s o=⟨2,oV s.evs 4,[],[]⟩:=by unfold aOf;rw [if_pos c,cnl]
   have e1:=ex (by unfold hX;omega);have e2:yOf s o=[]:=by unfold yOf;rw [if_neg (by unfold hY;omega)]
   simp (disch:=omega) only [RR,RB,ho,h7,Ii,F1,F2,c,Int.reduceEq,abZ s.evs 4 s.t el tsh si.tok,ab0 s.evs 4 s.t el tsh si.tok,OH o X Y s.regs shx shy rsh,OI o X Y s.regs shx shy rsh,el1];exact⟨h1,dn (by unfold nT;rw [if_neg ah,if_pos (Or.inl c),ea]) (by unfold nV;rw [if_neg ah,if_neg ah,if_neg ah,if_pos (Or.inl c),ea]) (by unfold nE;rw [if_pos (by unfold evO;omega),if_pos (Or.inl c),c,e1,e2]) (R0 ah)⟩
  .have e1:=ex (by unfold hX;omega);have e2:=ey (by unfold hY;omega);simp (disch:=omega) only [RR,RB,ho,h7,Ii,F1,F2,c,Int.reduceEq,OH o X Y s.regs shx shy rsh,OI o X Y s.regs shx shy rsh,el1];exact⟨h1,dn (T0 ah ah ah) (V0 ah) (by unfold nE;rw [if_pos (by unfold evO;omega),if_pos (Or.inr c),c,e1,e2]) (R0 ah)⟩
  .have el:s.evs.length<1000000000:=by omega
   have ea:aOf s o=⟨3,oV s.evs 6,[],[]⟩:=by unfold aOf;rw [if_neg ah,cni]
   have e1:xOf s o=[]:=by unfold xOf;rw [if_neg (by unfold hX;omega)]
   have e2:yOf s o=[]:=by unfold yOf;rw [if_neg (by unfold hY;omega)]
   simp (disch:=omega) only [RR,RB,ho,h7,Ii,F1,F2,c,Int.reduceEq,abZ s.evs 6 s.t el tsh si.tok,ab0 s.evs 6 s.t el tsh si.tok,OH o X Y s.regs shx shy rsh,OI o X Y s.regs shx shy rsh,el1];exact⟨h1,dn (by unfold nT;rw [if_neg ah,if_pos (Or.inr c),ea]) (by unfold nV;rw [if_neg ah,if_neg ah,if_neg ah,if_pos (Or.inr c),ea]) (by unfold nE;rw [if_pos (by unfold evO;omega),if_neg ah,c,e1,e2]) (R0 ah)⟩
  .have e1:=ex (by unfold hX;omega);have e2:yOf s o=[]:=by unfold yOf;rw [if_neg (by unfold hY;omega)]
   simp (disch:=omega) only [RR,RB,ho,h7,Ii,F1,F2,c,Int.reduceEq,OH o X Y s.regs shx shy rsh,OI o X Y s.regs shx shy rsh,el1];exact⟨h1,dn (T0 ah ah ah) (V0 ah) (by unfold nE;rw [if_pos (by unfold evO;omega),if_neg ah,c,e1,e2]) (R0 ah)⟩
  .have k2:=hok.k2 (Or.inr c);have e1:=ex (by unfold hX;omega);simp (disch:=omega) only [RR,RB,ho,h7,Ii,F1,F2,c,Int.reduceEq,r4];exact⟨h1,k2.1,ah,k2.1,ah,dn (T0 ah ah ah) (V0 ah) (E0 (by unfold evO;omega)) (by unfold nR;rw [if_pos c,e1])⟩
def agW{α:Type}[Inhabited α](l:List α)(a:α)(i:Int)(h:0<=i):((l++ [a]).getD (i).toNat default)=if i=l.length then a else((l).getD (i).toNat default):=by
 by_cases c:i=l.length
 .rw [if_pos c,c,List.getD_eq_getElem?_getD];simp
 .rw [if_neg c,List.getD_eq_getElem?_getD,List.getD_eq_getElem?_getD];by_cases d:i.toNat<l.length
  .rw [List.getElem?_append_left d]
  .rw [List.getElem?_eq_none (by rw [List.length_append,List.length_singleton];omega),List.getElem?_eq_none ah]
def SL{n:Int}{t u:List Atom}(h:OA n t)(g:OA n u):t=u:=by
 obtain⟨h1,h2⟩:=h;obtain⟨g1,g2⟩:=g;exact jW ah λi i0 i1=>by
  have a:=h2 i i0 ah;have b:=g2 i i0 ah;exact a.trans b.symm
def Q8:∀n:Nat,n<=4->OA n (rN [] n).1
 | 0,_=>⟨rfl,All.zero⟩
 | n+1,hn=>by
  obtain⟨h1,h2⟩:=Q8 n ah;have ok:=Ba pY (by simp) n ah;have e:aQ (rN [] n).1 ⟨1,n,[],[]⟩=((rN [] n).1++ [⟨1,n,[],[]⟩],((rN [] n).1.length:Int)):=by
   rcases iL (rN [] n).1 ⟨1,n,[],[]⟩with⟨f1,f2⟩ | ⟨f1,f2,f3,_⟩
   .unfold aQ;rw [if_neg ah,if_neg];rintro(g | g)
    .exact g (by unfold fT;rw [if_neg (by simp)];exact⟨⟨rfl,rfl⟩,Or.inl ⟨rfl,by dsimp only;omega,by dsimp only;omega⟩⟩)
    .omega
   .exfalso;have a:=h2 _ f1 ah;dsimp only at a f3;rw [a]at f3;injection f3 with _ g;omega
  have e2:(rN [] (n+1)).1=(rN [] n).1++ [⟨1,n,[],[]⟩]:=by rw [BO,e]
  rw [e2];refine⟨by rw [List.length_append,List.length_singleton];omega,λi i0 i1=> ?_⟩;dsimp only;rw [agW _ _ _ i0];by_cases c:i=((rN [] n).1.length:Int)
  .rw [if_pos c,c,h1]
  .rw [if_neg c];exact h2 i i0 ah
def amj{t:List Atom}(h:OA 4 t):t=t4:=SL h (Q8 4 (Nat.le_refl _))
def agX{p1 f1}(U1:Y8 p1 f1)(a b:List (List aj))(ha:ShP a):Nq.F (p1,f1,()) (a,b,()) (λy=>y=(bp (a=b),())):=by
 have hlen:=ha.1;dsimp only [Nq,gm];simp (disch:=omega) only [RR];refine⟨λh=> ?_,λh=> ?_⟩
 .rw [aY (λe=>h (by rw [e]))]
 have hl:a.length=b.length:=by omega
 refine ak (λ(y:List (List aj)×List (List aj)×Int×Unit)=>y.1=a/\y.2.1=b/\0<=y.2.2.1/\y.2.2.1<=a.length/\All y.2.2.1 (λi=>a.getD i.toNat default=b.getD i.toNat default)) (λy=>(a.length-y.2.2.1).toNat) ⟨rfl,rfl,by simp,by simp,All.zero⟩ ?_;rintro⟨(l1:List (List aj)),(l2:List (List aj)),(i:Int),⟨⟩⟩ hI;dsimp only at hI ⊢;obtain⟨rfl,rfl,h1,h2,h3⟩:=hI;simp (disch:=omega) only [RR,U1.hp _ _ (ha.at _),U1.hf _ _ (ha.at _),fF];refine⟨λh4=>⟨ah,ah,ah,ah,λh5=> ?_,λh5=>⟨⟨ah,ah,h3.snoc h5⟩,ah⟩⟩,λh4=> ?_⟩
 .rw [aY];intro e;rw [e]at h5;exact h5 rfl
 .rw [aW (jW hl (h3.le ah))]
def agY{p1 f1 p2 f2}(U1:Y8 p1 f1)(U2:Y88 p2 f2)(a b:Ev)(ha:ShE a):Nr.F (p1,f1,p2,f2,()) (a,b,()) (λy=>y=(bp (a=b),())):=by
 dsimp only [Nr,gm];simp (disch:=omega) only [RR,RB,U1.hp _ _ ha.1,U1.hf _ _ ha.1,U1.hp _ _ ha.2.1,U1.hf _ _ ha.2.1,U2.hp _ _ ha.2.2,U2.hf _ _ ha.2.2,fF];simp only [Am,<-kL];refine Prod.ext (kM ?_) rfl;cases a;cases b;simp only [Ev.mk.injEq];constructor<;>(intro h;simp only [h,and_self])
def agZ{p1 f1 p2 f2 p3 f3}(U1:Y8 p1 f1)(U2:Y93 p2 f2)(U3:Y88 p3 f3)(a b:Sym)(ha:ShY a):Ns.F (p1,f1,p2,f2,p3,f3,()) (a,b,()) (λy=>y=(bp (a=b),())):=by
 dsimp only [Ns,gm];simp (disch:=omega) only [RR,RB,U1.hp _ _ ha.x,U1.hf _ _ ha.x,U1.hp _ _ ha.y,U1.hf _ _ ha.y,U3.hp _ _ ha.r,U3.hf _ _ ha.r,fF,aO,gB];have hlen:=ha.e.1;refine⟨λh=> ?_,λh=> ?_⟩
 .rw [aY];rintro rfl
  revert h;simp
 refine ak (λ(y:Int×Sym×Sym×Unit)=>y.2.1=a/\y.2.2.1=b/\0<=y.1/\y.1<=a.events.length/\All y.1 (λi=>a.events.getD i.toNat default=b.events.getD i.toNat default)) (λy=>(a.events.length-y.1).toNat) ⟨rfl,rfl,by simp,by simp,All.zero⟩ ?_;rintro⟨(i:Int),(a':Sym),(b':Sym),⟨⟩⟩ hI;dsimp only at hI ⊢;obtain⟨rfl,rfl,h1,h2,h3⟩:=hI;have hl:a'.events.length=b'.events.length:=by
  have:=h.1.1.1.1.1;omega
 simp (disch:=omega) only [RR,RB,U2.hp _ _ (ha.e.at _),U2.hf _ _ (ha.e.at _),aO,gB];refine⟨λh4=>⟨ah,ah,ah,ah,λh5=> ?_,λh5=>⟨⟨ah,ah,h3.snoc h5⟩,ah⟩⟩,λh4=> ?_⟩
 .rw [aY];rintro rfl;exact h5 rfl
 .rw [aW];obtain⟨⟨⟨⟨⟨g1,g2⟩,g3⟩,g4⟩,g5⟩,g6⟩:=h;exact Sym.ext (jW hl (h3.le ah)) g2 ah g5 g6 ah
def ag0{p1 f1 p2 f2 p3 f3 p4 f4 p5 f5}(U1:Y60 p1 f1)(U2:Y94 p2 f2)(U3:Y44 p3 f3)(U4:Y89 p4 f4)(U5:Y95 p5 f5)(b c:Blk)(hb:b.ops.length<1000000000)(hc:c.ops.length<1000000000):Nt.F (p1,f1,p2,f2,p3,f3,p4,f4,p5,f5,()) (b,c,()) (λy=>y=(chk b c,())):=by
 have s4:ShT t4:=QW.1.sh;have y1:=yN t4 b;have U3.hf:=amj U3.hf.1;dsimp only [Nt,gm];simp (disch:=omega) only [RR,RB,U1.hp b hb,U1.hf b hb,U1.hp c hc,U1.hf c hc,U2.hp b c hb,U2.hf b c hb,U3.hp,U3.hf,U4.hp t4 b s4 hb,U4.hf t4 b s4 hb,U4.hp _ c y1.2 hc,U4.hf _ c y1.2 hc,U5.hp _ _ y1.1,U5.hf _ _ y1.1,aO,gB];unfold chk;refine⟨λh=> ?_,λh=>⟨λe=> ?_,λe=> ?_⟩⟩
 .rw [aY];rintro⟨h1,h2,h3,h4,_⟩;simp_all
 .rw [aW];exact⟨h.1.1.1,h.1.1.2,by simp_all,by simp_all,Or.inl e⟩
 .refine Prod.ext (kM ⟨λg=>⟨h.1.1.1,h.1.1.2,by simp_all,by simp_all,Or.inr g⟩,λg=>g.2.2.2.2.resolve_left e⟩) rfl
def apC(q:Cer):Int×Int×Int×Int×Int×Int×Int×Int×Int×Int×Int×Int×List IOp×List IOp×Unit:=(q.base.pc,q.base.len,q.base.fin,q.base.x,q.base.y,q.base.k,q.made.pc,q.made.len,q.made.fin,q.made.x,q.made.y,q.made.k,q.base.ops,q.made.ops,())
def apD(l:List Cer)(q:Cer):List Cer:=(l++ [q]).drop (l.length+1-3)
structure aqB(pp:Cer×Unit->Bool)(ff:Cer×Unit->Int×Int×Int×Int×Int×Int×Int×Int×Int×Int×Int×Int×List IOp×List IOp×Unit):Prop where
 hp:∀q,q.base.ops.length<1000000->q.made.ops.length<1000000->pp (q,())=true
 hf:∀q,q.base.ops.length<1000000->q.made.ops.length<1000000->ff (q,())=apC q
structure aqC(pp:List Cer×Cer×Unit->Bool)(ff:List Cer×Cer×Unit->List Cer×Unit):Prop where
 hp:∀l q,ShC l->q.base.ops.length<1000000->q.made.ops.length<1000000->pp (l,q,())=true
 hf:∀l q,ShC l->q.base.ops.length<1000000->q.made.ops.length<1000000->ff (l,q,())=(apD l q,())
def opB(o:IOp):List Int:=[o.kind%256,o.x%256,o.y%256,o.k/256%256,o.k%256,o.at_%256]
def apE(b:Blk):List Int:=[b.pc%256,b.len%256,b.fin%256,b.x%256,b.y%256,b.k/256%256,b.k%256]++b.ops.flatMap opB
noncomputable def irB (b:Blk):List Int:=if bp (iD b)=true then apE b else []
def rdO(l:List Int)(p:Nat):IOp:=⟨l.getD p default,l.getD (p+1) default,l.getD (p+2) default,l.getD (p+3) default*256+l.getD (p+4) default,l.getD (p+5) default⟩
def apF(l:List Int)(n:Nat):List IOp:=(List.range n).map λi=>rdO l (7+6*i)
def rdB(l:List Int):Blk:=⟨l.getD 0 default,l.getD 1 default,apF l ((l.length-7)/6),l.getD 2 default,l.getD 3 default,l.getD 4 default,l.getD 5 default*256+l.getD 6 default⟩
def apG(l:List Int):Prop:=(7<=l.length/\(l.length-7)%6=0/\l.length<=295)/\irB (rdB l)=l
noncomputable def rdF (l:List Int):Int×Int×Int×Int×Int×Int×Bool×List IOp×Unit:=if bp (apG l)=true then((rdB l).pc,(rdB l).len,(rdB l).fin,(rdB l).x,(rdB l).y,(rdB l).k,true,(rdB l).ops,())else(0,0,0,0,0,0,false,[],())
structure OpR(o:IOp):Prop where
 kd:0<=o.kind/\o.kind<=255
 x:0<=o.x/\o.x<=255
 y:0<=o.y/\o.y<=255
 k:0<=o.k/\o.k<=65535
 at_:0<=o.at_/\o.at_<=255
structure aqD(pp:Blk×Unit->Bool)(ff:Blk×Unit->List Int×Unit):Prop where
 hp:∀b,b.ops.length<1000000000->pp (b,())=true
 hf:∀b,b.ops.length<1000000000->ff (b,())=(irB b,())
structure aqE(pp:List Int×Unit->Bool)(ff:List Int×Unit->Int×Int×Int×Int×Int×Int×Bool×List IOp×Unit):Prop where
 hp:∀l,By l->l.length<1000000000->pp (l,())=true
 hf:∀l,By l->l.length<1000000000->ff (l,())=rdF l
def o5(o:IOp):Int×Int×Int×Int×Int×Unit:=(o.kind,o.x,o.y,o.k,o.at_,())
def set_mid{α:Type}{l:List α}{z d x:α}{i:Int}(h0:0<=i)(h:i<l.length)(e:x=l.getD i.toNat d):(l.take i.toNat++List.replicate (l.length-i.toNat) z).set i.toNat x=l.take (i+1).toNat++List.replicate (l.length- (i+1).toNat) z:=by
 have ht:(l.take i.toNat).length=i.toNat:=by rw [List.length_take];omega
 rw [List.set_append_right _ _ ah,ht,Nat.sub_self,show l.length-i.toNat=(l.length- (i+1).toNat)+1 by omega,List.replicate_succ,List.set_cons_zero,<-bI h0 h e,List.append_assoc];rfl
def Ij{α:Type}{l:List α}{z:α}{i:Nat}(h:i<=l.length):(l.take i++List.replicate (l.length-i) z).length=l.length:=by
 rw [List.length_append,List.length_take,List.length_replicate];omega
def Yk(o:IOp):NP.F () (o,()) (λy=>y=o5 o):=by
 dsimp only [NP,gm];simp (disch:=omega) only [RR,RB];rfl
def ag1{p1:IOp×Unit->Bool}{f1:IOp×Unit->Int×Int×Int×Int×Int×Unit}(hp1:∀o,p1 (o,())=true)(hf1:∀o,f1 (o,())=o5 o)(l:List IOp)(h:l.length<1000000000):NQ.F (p1,f1,()) (l,()) (λy=>y=(l,())):=by
 dsimp only [NQ,gm];simp (disch:=omega) only [RR];refine⟨ah,ah,ak (λ(y:List IOp×Int×List IOp×Unit)=>y.1=l/\0<=y.2.1/\y.2.1<=l.length/\y.2.2.1=l.take y.2.1.toNat++List.replicate (l.length-y.2.1.toNat) ⟨0,0,0,0,0⟩) (λy=>(l.length-y.2.1).toNat) ⟨rfl,by simp,by simp,rfl⟩ ?_⟩;rintro⟨(l:List IOp),(i:Int),(o:List IOp),⟨⟩⟩ hI;dsimp only at hI ⊢;obtain⟨rfl,h1,h2,rfl⟩:=hI;have ml:=Ij (l:=l) (z:=(⟨0,0,0,0,0⟩:IOp)) (i:=i.toNat) ah;simp (disch:=omega) only [RR,hp1,hf1,ml];refine⟨λg=>⟨ah,ah,ah,ah,ah,ah,⟨ah,ah,set_mid h1 g rfl⟩,ah⟩,λg=> ?_⟩;rw [List.take_of_length_le ah,show l.length-i.toNat=0 by omega];simp
def ag2{p1:List IOp×Unit->Bool}{f1:List IOp×Unit->List IOp×Unit}(hp1:∀l,l.length<1000000000->p1 (l,())=true)(hf1:∀l,l.length<1000000000->f1 (l,())=(l,()))(b:Blk)(h:b.ops.length<1000000000):NR.F (p1,f1,()) (b,()) (λy=>y=bk7 b):=by
 dsimp only [NR,gm];simp (disch:=omega) only [RR,RB,hp1 _ h,hf1 _ h]
def adl(a b:IOp):Xi.F () (a,b,()) (λy=>y=(bp (a=b),())):=by
 dsimp only [Xi,gm];simp (disch:=omega) only [RR,RB];refine⟨λh=> ?_,λh=>⟨λh2=> ?_,λh2=>⟨λh3=> ?_,λh3=>⟨λh4=> ?_,λh4=>⟨λh5=> ?_,λh5=> ?_⟩⟩⟩⟩⟩
 all_goals first | (rw [aY];rintro rfl;simp_all;done) | (rw [aW];cases a;cases b;simp_all)
def amk{p1:IOp×IOp×Unit->Bool}{f1:IOp×IOp×Unit->Bool×Unit}(hp1:∀a b,p1 (a,b,())=true)(hf1:∀a b,f1 (a,b,())=(bp (a=b),()))(a b:List IOp)(hlen:a.length<1000000000):Xj.F (p1,f1,()) (a,b,()) (λy=>y=(bp (a=b),())):=by
 dsimp only [Xj,gm];simp (disch:=omega) only [RR];refine⟨λh=> ?_,λh=> ?_⟩
 .rw [aY (λe=>h (by rw [e]))]
 have hl:a.length=b.length:=by omega
 refine ak (λ(y:List IOp×List IOp×Int×Unit)=>y.1=a/\y.2.1=b/\0<=y.2.2.1/\y.2.2.1<=a.length/\All y.2.2.1 (λi=>a.getD i.toNat default=b.getD i.toNat default)) (λy=>(a.length-y.2.2.1).toNat) ⟨rfl,rfl,by simp,by simp,All.zero⟩ ?_;rintro⟨(l1:List IOp),(l2:List IOp),(i:Int),⟨⟩⟩ hI;dsimp only at hI ⊢;obtain⟨rfl,rfl,h1,h2,h3⟩:=hI;simp (disch:=omega) only [RR,hp1,hf1,aO,gB];refine⟨λh4=>⟨ah,ah,ah,ah,λh5=> ?_,λh5=>⟨⟨ah,ah,h3.snoc h5⟩,ah⟩⟩,λh4=> ?_⟩
 .rw [aY];intro e;rw [e]at h5;exact h5 rfl
 .rw [aW (jW hl (h3.le ah))]
def aml{p1 f1}(U1:Y92 p1 f1)(a b:Blk)(h:a.ops.length<1000000000):Xk.F (p1,f1,()) (a,b,()) (λy=>y=(bp (a=b),())):=by
 dsimp only [Xk,gm];simp (disch:=omega) only [RR,RB,U1.hp _ b.ops h,U1.hf _ b.ops h,aO,gB];have e:a=b↔a.pc=b.pc/\a.len=b.len/\a.ops=b.ops/\a.fin=b.fin/\a.x=b.x/\a.y=b.y/\a.k=b.k:=by
  cases a;cases b;simp only [Blk.mk.injEq]
 by_cases e1:a.pc=b.pc
 .by_cases e2:a.len=b.len
  .by_cases e3:a.ops=b.ops
   .by_cases e4:a.fin=b.fin
    .by_cases e5:a.x=b.x
     .by_cases e6:a.y=b.y
      .by_cases e7:a.k=b.k
       .rw [aW (e.2 ⟨e1,e2,e3,e4,e5,e6,e7⟩)];simp [e1,e2,e3,e4,e5,e6,e7]
       .rw [aY (λg=>e7 (e.1 g).2.2.2.2.2.2)];simp [e7]
      .rw [aY (λg=>e6 (e.1 g).2.2.2.2.2.1)];simp [e6]
     .rw [aY (λg=>e5 (e.1 g).2.2.2.2.1)];simp [e5]
    .rw [aY (λg=>e4 (e.1 g).2.2.2.1)];simp [e4]
   .rw [aY (λg=>e3 (e.1 g).2.2.1)];simp [e3]
  .rw [aY (λg=>e2 (e.1 g).2.1)];simp [e2]
 .rw [aY (λg=>e1 (e.1 g).1)];simp [e1]
def szL(n m:Int):Int:=if m-n<0 then-1 else m-n
def adn(l:List IOp)(m:Int)(h:l.length<9223372036854775808)(h0:0<=m)(h1:m<=1048576):VE.F () (l,m,()) (λy=>y=(szL l.length m,())):=by
 dsimp only [VE,gm];simp (disch:=omega) only [RR];unfold szL;refine⟨λg=>by rw [if_pos g],λg=>by rw [if_neg ah]⟩
def Eb{n:Nat}{m:Int}(h1:m<=1048576):(szL n m<0->szL n m= -1)/\(0<=szL n m->(n:Int)<=1048576/\szL n m<=1048576):=by
 unfold szL;split<;>exact⟨λ_=>by omega,λ_=>by omega⟩
def amm{p1:List IOp×Int×Unit->Bool}{f1:List IOp×Int×Unit->Int×Unit}(hp1:∀l m,l.length<9223372036854775808->0<=m->m<=1048576->p1 (l,m,())=true)(hf1:∀l m,l.length<9223372036854775808->0<=m->m<=1048576->f1 (l,m,())=(szL l.length m,()))(b:Blk)(m:Int)(h:b.ops.length<9223372036854775808)(h0:0<=m)(h1:m<=1048576):VF.F (p1,f1,()) (b,m,()) (λy=>y=(szL b.ops.length m,())):=by
 dsimp only [VF,gm];simp (disch:=omega) only [RR,RB,hp1 _ m h h0 h1,hf1 _ m h h0 h1];exact λg=>by rw [(Eb h1).1 g]
structure apH(pp:Blk×Int×Unit->Bool)(ff:Blk×Int×Unit->Int×Unit):Prop where
 hp:∀b m,b.ops.length<9223372036854775808->0<=m->m<=1048576->pp (b,m,())=true
 hf:∀b m,b.ops.length<9223372036854775808->0<=m->m<=1048576->ff (b,m,())=(szL b.ops.length m,())
def szP(q:Cer)(m:Int):Int:=if szL q.base.ops.length m<0 then-1 else szL q.made.ops.length (szL q.base.ops.length m)
def ShI(q:Cer):Prop:=q.base.ops.length<9223372036854775808/\q.made.ops.length<9223372036854775808
def amn:List Cer->Int->Int
 | [],m=>m
 | q::l,m=>if szP q m<0 then-1 else amn l (szP q m)
def amo(l:List Cer)(m:Int):Int:=if m-l.length<0 then-1 else amn l (m-l.length)
structure aqF(pp:List Cer×List Cer×Unit->Bool)(ff:List Cer×List Cer×Unit->Bool×Unit):Prop where
 hp:∀a b,ShD a->pp (a,b,())=true
 hf:∀a b,ShD a->ff (a,b,())=(bp (a=b),())
structure aqG(pp:List Cer×Int×Unit->Bool)(ff:List Cer×Int×Unit->Int×Unit):Prop where
 hp:∀l m,(l.length<9223372036854775808/\∀q∈l,ShI q)->0<=m->m<=1048576->pp (l,m,())=true
 hf:∀l m,(l.length<9223372036854775808/\∀q∈l,ShI q)->0<=m->m<=1048576->ff (l,m,())=(amo l m,())
structure aqH(pp:List Cer×Unit->Bool)(ff:List Cer×Unit->List Cer×Unit):Prop where
 hp:∀l,ShD l->pp (l,())=true
 hf:∀l,ShD l->ff (l,())=(l,())
def Wo(n:Int):Prop:=0<=n/\n<=65535
def Wos(l:List Int):Prop:=∀n∈l,Wo n
structure MOK(m:bL):Prop where
 r4:m.regs.length=4
 rw:Wos m.regs
 m64:m.mem.length=64
 mw:Wos m.mem
 pc:Wo m.pc
 sv:Wo m.save
 iw:Wos m.ins
 ow:Wos m.outs
 ha:0<=m.halt/\m.halt<=4
 ct:0<=m.count/\m.count<=1000000
def amq(r a b:Int):Bool:=inB a 0 65535&&inB b 0 65535&&decide (r=1/\a=b\/r=2/\a<b)
structure MS where
 m:bL
 vals:List Int
 left:Bool
def vx(s:MS)(o:IOp):Int:=if hX o then((s.vals).getD (o.x).toNat default)else 0
def vy(s:MS)(o:IOp):Int:=if hY o then((s.vals).getD (o.y).toNat default)else 0
def mV(s:MS)(o:IOp):Int:=if o.kind=1 then o.k else if o.kind=2 then((s.m.regs).getD (o.k).toNat default)else if o.kind=3 then wdo o.k (vx s o) (vy s o)else if o.kind=4 then((s.m.mem).getD (vx s o).toNat default)else if o.kind=6 then s.m.ins.getD 0 default else 0
def mM(s:MS)(o:IOp):bL:=if o.kind=5 then {s.m with mem:=s.m.mem.set (vx s o).toNat (vy s o)}else if o.kind=6 then {s.m with ins:=s.m.ins.drop 1}else if o.kind=7 then {s.m with outs:=s.m.outs++ [vx s o]}else if o.kind=8 then {s.m with regs:=s.m.regs.set o.k.toNat (vx s o)}else s.m
def leave(m:bL)(n:Int)(h:Int):bL:={m with halt:=h,pc:=m.pc+n,count:=m.count+n}
def FN(b:Blk)(s:MS)(o:IOp):MS:=
 if s.left=true then s
 else if(o.kind=4\/o.kind=5)/\64<=vx s o then⟨leave s.m o.at_ 3,s.vals,true⟩
 else if o.kind=5/\b.pc+o.at_+1<=vx s o/\vx s o<=b.pc+b.len-1 then⟨leave (mM s o) (o.at_+1) (mM s o).halt,s.vals,true⟩
 else⟨mM s o,s.vals++ [mV s o],false⟩
def apI(b:Blk)(s:MS):bL:=if s.left=true then s.m else {s.m with count:=s.m.count+b.len,pc:=if b.fin=1 then b.k else if b.fin=2 then((s.vals).getD (b.x).toNat default)else if amq (b.fin-2) ((s.vals).getD (b.x).toNat default) ((s.vals).getD (b.y).toNat default)=true then b.k else b.pc+b.len}
def ace:bL:=⟨[],0,[],0,false,false,0,[],[],0⟩
noncomputable def amr (b:Blk) (m:bL):bL×Bool:=if bp (iD b/\MOK m)=true then(if m.halt≠0\/m.pc≠b.pc\/1000000-b.len<m.count then(m,false)else(apI b (b.ops.foldl (FN b) ⟨m,[],false⟩),true))else(ace,false)
def dK(i:Ins):Prop:=(0<=i.op/\i.op<=15)/\(0<=i.d/\i.d<=3)/\(0<=i.a/\i.a<=3)/\0<=i.k/\
 (i.op=0->i.d=0/\i.a=0/\i.k<=3)/\(i.op=1->i.a=0/\i.k<=255)/\(i.op=2->i.k=0)/\(3<=i.op/\i.op<=7->i.k<=3)/\(i.op=8->i.k<=15)/\(9<=i.op/\i.op<=12->i.k<=255)/\(i.op=13->i.d=0/\i.k=0)/\(14<=i.op->i.a=0/\i.k=0)
def ag3(i:Ins):Int:=i.op*4096+i.d*1024+i.a*256+i.k
def iY(w:Int):Ins:=⟨w/4096,w/1024%4,w/256%4,w%256⟩
structure qb(pc:Int)(l:List Ins):Prop where
 ln:1<=l.length/\l.length<=8
 pc:0<=pc/\pc<=64-l.length
 ok:∀i:Nat,i<l.length->dK (l.getD i default)/\(l.getD i default).op≠0/\(11<=(l.getD i default).op/\(l.getD i default).op<=13->i+1=l.length)
def fU(n b:Int)(i:Ins):List IOp:=
 if i.op=1 then [⟨1,0,0,i.k,0⟩,⟨8,b,0,i.d,0⟩]
 else if i.op=2 then [⟨2,0,0,i.a,0⟩,⟨8,b,0,i.d,0⟩]
 else if i.op=8 then [⟨2,0,0,i.a,0⟩,⟨1,0,0,2^i.k.toNat,0⟩,⟨3,b,b+1,3,0⟩,⟨8,b+2,0,i.d,0⟩]
 else if i.op=9 then [⟨2,0,0,i.a,0⟩,⟨1,0,0,i.k,0⟩,⟨3,b,b+1,1,0⟩,⟨4,b+2,0,0,n⟩,⟨8,b+3,0,i.d,0⟩]
 else if i.op=10 then [⟨2,0,0,i.a,0⟩,⟨1,0,0,i.k,0⟩,⟨3,b,b+1,1,0⟩,⟨2,0,0,i.d,0⟩,⟨5,b+2,b+3,0,n⟩]
 else if i.op=14 then [⟨2,0,0,i.d,0⟩,⟨7,b,0,0,n⟩]
 else if i.op=15 then [⟨6,0,0,0,n⟩,⟨8,b,0,i.d,0⟩]
 else if i.op=11\/i.op=12 then [⟨2,0,0,i.d,0⟩,⟨2,0,0,i.a,0⟩]
 else if i.op=13 then [⟨2,0,0,i.a,0⟩]
 else [⟨2,0,0,i.a,0⟩,⟨2,0,0,i.k,0⟩,⟨3,b,b+1,i.op-2,0⟩,⟨8,b+2,0,i.d,0⟩]
def eZ(n:Int)(b:Blk)(i:Ins):Blk:=
 if i.op=11\/i.op=12 then {b with ops:=b.ops++fU n b.ops.length i,fin:=i.op-8,x:=b.ops.length,y:=b.ops.length+1,k:=i.k}
 else if i.op=13 then {b with ops:=b.ops++fU n b.ops.length i,fin:=2,x:=b.ops.length,k:=0}
 else {b with ops:=b.ops++fU n b.ops.length i}
def nD:Int->Blk->List Ins->Blk
 | _,b,[]=>b
 | n,b,i::r=>nD (n+1) (eZ n b i) r
def tY(pc:Int)(l:List Ins):Blk:=⟨pc,l.length,[],1,0,0,pc+l.length⟩
noncomputable def lower (pc:Int) (l:List Ins):Blk:=if bp (qb pc l)=true then nD 0 (tY pc l) l else SF
def adr(m:bL)(i:Ins):Int:=(((m.regs).getD (i.a).toNat default)+i.k)%65536
def eff(m:bL)(i:Ins):bL:=
 if i.op=1 then {m with regs:=m.regs.set i.d.toNat i.k}
 else if i.op=2 then {m with regs:=m.regs.set i.d.toNat ((m.regs).getD (i.a).toNat default)}
 else if i.op=8 then {m with regs:=m.regs.set i.d.toNat (((m.regs).getD (i.a).toNat default)*2^i.k.toNat%65536)}
 else if i.op=9 then {m with regs:=m.regs.set i.d.toNat ((m.mem).getD (adr m i).toNat default)}
 else if i.op=10 then {m with mem:=m.mem.set (adr m i).toNat ((m.regs).getD (i.d).toNat default)}
 else if i.op=14 then {m with outs:=m.outs++ [((m.regs).getD (i.d).toNat default)]}
 else if i.op=15 then {m with regs:=m.regs.set i.d.toNat (m.ins.getD 0 default),ins:=m.ins.drop 1}
 else if i.op=0 then(if i.k=0 then {m with halt:=1}else if i.k=1 then {m with nA:=true}else {m with nA:=decide (i.k=2)})
 else if 11<=i.op then m
 else {m with regs:=m.regs.set i.d.toNat (wdo (i.op-2) ((m.regs).getD (i.a).toNat default) ((m.regs).getD (i.k).toNat default))}
def nxt(m:bL)(i:Ins):Int:=
 if i.op=0/\i.k=1 then m.save
 else if(i.op=11\/i.op=12)/\amq (i.op-10) ((m.regs).getD (i.d).toNat default) ((m.regs).getD (i.a).toNat default)=true then i.k
 else if i.op=13 then((m.regs).getD (i.a).toNat default)
 else(m.pc+1)%65536
def exec(m:bL)(i:Ins):bL:=if(i.op=9\/i.op=10)/\64<=adr m i then {m with halt:=3}else {eff m i with pc:=nxt m i,count:=m.count+1}
noncomputable def stepM (m:bL) (irq:Bool):bL:=
 let w:=m.waits || irq
 let m1:bL:=if w=true/\m.nA=true then {m with waits:=false,nA:=false,save:=m.pc,pc:=48}else {m with waits:=w}
 if 64<=m1.pc then {m1 with halt:=4}
 else if bp (dK (iY ((m1.mem).getD (m1.pc).toNat default)))=false then {m1 with halt:=2}
 else exec m1 (iY ((m1.mem).getD (m1.pc).toNat default))
theorem Wos.at{l:List Int}(h:Wos l)(i:Int):Wo ((l).getD (i).toNat default):=by
 by_cases c:i.toNat<l.length
 .rw [getD_lt c];exact h _ (List.getElem_mem _)
 .rw [List.getD_eq_getElem?_getD,List.getElem?_eq_none ah];exact⟨by decide,by decide⟩
theorem OP{k:Int}(h0:0<=k)(h1:k<=15):Wo (2^k.toNat):=by
 obtain⟨j,rfl⟩:∃j:Nat,k=j:=⟨k.toNat,ah⟩;have:j<=15:=by omega
 rw [show((j:Int)).toNat=j from rfl];have h:(2:Nat)^j<=2^15:=Nat.pow_le_pow_right (by decide) this;have e:((2:Int)^j)=((2^j:Nat):Int):=by simp
 rw [e];have h15:(2:Nat)^15=32768:=by decide
 rw [h15]at h;generalize (2:Nat)^j=z at h;exact⟨ah,ah⟩
section
variable (B:Blk) (m:bL) (v:List Int)
theorem st2(k:Int):FN B ⟨m,v,false⟩ ⟨2,0,0,k,0⟩=⟨m,v++ [((m.regs).getD (k).toNat default)],false⟩:=by simp [FN,mM,mV]
end
end Go.TX.F
namespace Go.TX.F
open Go Go.AE Go.TX
def MSh(m:bL):Prop:=m.regs.length<1000000000/\m.mem.length<1000000000/\m.ins.length<1000000000/\m.outs.length<1000000000
abbrev m10(m : bL) : Int × Int × Bool × Bool × Int × Int × List Int × List Int × List Int × List Int × Unit := (m.pc, m.save, m.nA, m.waits, m.halt, m.count, m.regs, m.mem, m.ins, m.outs, ())
abbrev mB(m : bL) : Int × Int × Bool × Bool × Int × List Int × Int × List Int × List Int × List Int × Unit := (m.pc, m.save, m.nA, m.waits, m.halt, m.ins, m.count, m.regs, m.mem, m.outs, ())
abbrev mR(x : bL × Bool) : Int × Int × Bool × Bool × Int × Int × Bool × List Int × List Int × List Int × List Int × Unit := (x.1.pc, x.1.save, x.1.nA, x.1.waits, x.1.halt, x.1.count, x.2, x.1.regs, x.1.mem, x.1.ins, x.1.outs, ())
def Ik{a b c:Int}:inB a b c=bp (b<=a/\a<=c):=by rw [kL];simp only [inB,Am]
structure aqI(pp:List Int×Unit->Bool)(ff:List Int×Unit->Bool×Unit):Prop where
 hp:∀l,l.length<1000000000->pp (l,())=true
 hf:∀l,l.length<1000000000->ff (l,())=(bp (Wos l),())
structure aqJ(pp:List Int×Unit->Bool)(ff:List Int×Unit->List Int×Unit):Prop where
 hp:∀l,l.length<=1073741824->pp (l,())=true
 hf:∀l,l.length<=1073741824->ff (l,())=(l,())
def Wos.set{l:List Int}(h:Wos l){n:Int}(w:Wo n)(i:Nat):Wos (l.set i n):=λx hx=>(List.mem_or_eq_of_mem_set hx).elim (h x) (λe=>e▸w)
def Wos.drop{l:List Int}(h:Wos l)(i:Nat):Wos (l.drop i):=λx hx=>h x (List.mem_of_mem_drop hx)
def Wos.snoc{l:List Int}(h:Wos l){n:Int}(w:Wo n):Wos (l++ [n]):=λx hx=>by
 rw [List.mem_append,List.mem_singleton]at hx;exact hx.elim (h x) (λe=>e▸w)
def wo0:Wo 0:=⟨by decide,by decide⟩
def ado{s:MS}(h:Wos s.vals)(o:IOp):Wo (vx s o):=by
 unfold vx;split
 .exact h.at _
 .exact wo0
def ams{s:MS}(h:Wos s.vals)(o:IOp):Wo (vy s o):=by
 unfold vy;split
 .exact h.at _
 .exact wo0
def Wos.hd{l:List Int}(h:Wos l):Wo (l.getD 0 default):=h.at 0
def amt{s:MS}{o:IOp}(h:Wos s.vals)(k:MOK s.m)(k1:o.kind=1->0<=o.k/\o.k<=65535):Wo (mV s o):=by
 unfold mV;split
 .exact k1 ‹_›
 split
 .exact k.rw.at _
 split
 .exact QK _ _ _
 split
 .exact k.mw.at _
 split
 .exact k.iw.hd
 .exact wo0
def amu{s:MS}(h:Wos s.vals)(k:MOK s.m)(o:IOp):MOK (mM s o):=by
 unfold mM;split
 .exact {k with m64:=by rw [List.length_set];exact k.m64,mw:=k.mw.set (ams h o) _}
 split
 .exact {k with iw:=k.iw.drop 1}
 split
 .exact {k with ow:=k.ow.snoc (ado h o)}
 split
 .exact {k with r4:=by rw [List.length_set];exact k.r4,rw:=k.rw.set (ado h o) _}
 .exact k
def amv(s:MS)(o:IOp):(mM s o).ins.length<=s.m.ins.length/\(mM s o).outs.length<=s.m.outs.length+1/\(mM s o).regs.length=s.m.regs.length/\(mM s o).mem.length=s.m.mem.length:=by
 unfold mM;split
 .exact⟨Nat.le_refl _,Nat.le_succ _,rfl,List.length_set⟩
 split
 .exact⟨by rw [List.length_drop];omega,Nat.le_succ _,rfl,rfl⟩
 split
 .exact⟨Nat.le_refl _,by rw [List.length_append];exact Nat.le_refl _,rfl,rfl⟩
 split
 .exact⟨Nat.le_refl _,Nat.le_succ _,List.length_set,rfl⟩
 .exact⟨Nat.le_refl _,Nat.le_succ _,rfl,rfl⟩
def SM(b:Blk)(m0:bL)(i:Nat):MS:=(b.ops.take i).foldl (FN b) ⟨m0,[],false⟩
structure RJ(b:Blk)(m0:bL)(i:Nat)(S:MS):Prop where
 e:S=SM b m0 i
 lf:S.left=false
 ln:S.vals.length=i
 wv:Wos S.vals
 ok:MOK S.m
 li:S.m.ins.length<1000000000
 lo:S.m.outs.length<=m0.outs.length+i
def acf{b:Blk}{m0:bL}{i:Nat}(hi:i<b.ops.length):SM b m0 (i+1)=FN b (SM b m0 i) (b.ops.getD i default):=by
 unfold SM;rw [List.take_succ_eq_append_getElem hi,List.foldl_append,getD_lt hi];rfl
def RJ.next{b:Blk}{m0:bL}{i:Nat}{S:MS}{o:IOp}(h:RJ b m0 i S)(hi:i<b.ops.length)(ho:b.ops.getD i default=o)(k1:o.kind=1->0<=o.k/\o.k<=65535)
  (c1:¬((o.kind=4\/o.kind=5)/\64<=vx S o)) (c2:¬(o.kind=5/\b.pc+o.at_+1<=vx S o/\vx S o<=b.pc+b.len-1)):RJ b m0 (i+1) ⟨mM S o,S.vals++ [mV S o],false⟩:=by
 have l:=amv S o;refine⟨?_,rfl,by rw [List.length_append,h.ln];rfl,h.wv.snoc (amt h.wv h.ok k1),amu h.wv h.ok o,by have:=h.li;dsimp only;omega,by have:=h.lo;dsimp only;omega⟩;rw [acf hi,<-h.e,ho];unfold FN;rw [if_neg (by rw [h.lf];decide),if_neg c1,if_neg c2]
def RT(b:Blk)(m0:bL)(y:List IOp×Int×Int×Int×Int×Bool×Bool×Int×List Int×Int×List Int×List Int×Blk×List Int×List Int×Unit):Prop:=
 ∃(i:Nat) (S:MS),i<=b.ops.length/\RJ b m0 i S/\y=(b.ops,(b.ops.length:Int),(i:Int),S.m.pc,S.m.save,S.m.nA,S.m.waits,S.m.halt,S.m.ins,S.m.count,S.m.regs,S.m.mem,b,S.vals++List.replicate (b.ops.length-i) 0,S.m.outs,())
def RT.next{b:Blk}{m0:bL}{i:Nat}{S:MS}{o:IOp}{y:List IOp×Int×Int×Int×Int×Bool×Bool×Int×List Int×Int×List Int×List Int×Blk×List Int×List Int×Unit}(h:RJ b m0 i S)(hi:i<b.ops.length)(ho:b.ops.getD i default=o)(k1:o.kind=1->0<=o.k/\o.k<=65535)
  (c1:¬((o.kind=4\/o.kind=5)/\64<=vx S o)) (c2:¬(o.kind=5/\b.pc+o.at_+1<=vx S o/\vx S o<=b.pc+b.len-1))
  (e:y=(b.ops,(b.ops.length:Int),(i:Int)+1,(mM S o).pc,(mM S o).save,(mM S o).nA,(mM S o).waits,(mM S o).halt,(mM S o).ins,(mM S o).count,(mM S o).regs,(mM S o).mem,b,(S.vals++ [mV S o])++List.replicate (b.ops.length- (i+1)) 0,(mM S o).outs,())):
  RT b m0 y/\(b.ops.length-y.2.2.1).toNat< (b.ops.length- (i:Int)).toNat:=by
 subst e;exact⟨⟨i+1,_,hi,h.next hi ho k1 c1 c2,rfl⟩,by dsimp only;omega⟩
structure aqK(pp:Int×Int×Bool×Bool×Int×List Int×Int×List Int×List Int×List Int×Unit->Bool)(ff:Int×Int×Bool×Bool×Int×List Int×Int×List Int×List Int×List Int×Unit->Int×Int×Int×Bool×Bool×Int×List Int×Int×List Int×List Int×List Int×Unit):Prop where
 hp:∀(pc sv:Int) (lt wt:Bool) (ha:Int) (ins:List Int) (ct:Int) (regs mem outs:List Int),ins.length<1000000000->pp (pc,sv,lt,wt,ha,ins,ct,regs,mem,outs,())=true
 hf:∀(pc sv:Int) (lt wt:Bool) (ha:Int) (ins:List Int) (ct:Int) (regs mem outs:List Int),ins.length<1000000000->ff (pc,sv,lt,wt,ha,ins,ct,regs,mem,outs,())=(ins.getD 0 default,pc,sv,lt,wt,ha,ins.drop 1,ct,regs,mem,outs,())
structure aqL(pp:bL×Unit->Bool)(ff:bL×Unit->Int×Int×Bool×Bool×Int×Int×List Int×List Int×List Int×List Int×Unit):Prop where
 hp:∀m,MSh m->pp (m,())=true
 hf:∀m,MSh m->ff (m,())=m10 m
structure aqM(pp:bL×Unit->Bool)(ff:bL×Unit->Bool×Unit):Prop where
 hp:∀m,MSh m->pp (m,())=true
 hf:∀m,MSh m->ff (m,())=(bp (MOK m),())
def amw{n:Int}(h0:0<=n)(h1:n<=15):(tu.getD n.toNat default).d=decide (n≠0/\n≠13)/\(tu.getD n.toNat default).a=decide (n≠0/\n≠1/\n≠14/\n≠15)/\
  (tu.getD n.toNat default).most=(if n=0 then 3 else if n=1 then 255 else if n=2 then 0 else if n<=7 then 3 else if n=8 then 15 else if n<=12 then 255 else 0):=by
 rcases(by omega:n=0\/n=1\/n=2\/n=3\/n=4\/n=5\/n=6\/n=7\/n=8\/n=9\/n=10\/n=11\/n=12\/n=13\/n=14\/n=15)with h | h | h | h | h | h | h | h | h | h | h | h | h | h | h | h<;>subst h<;>exact⟨rfl,rfl,rfl⟩
theorem ag4:(tu.length:Int)=16:=rfl
theorem amx{p1 f1 p2 f2}(U1:Y1 p1 f1)(U2:Y17 p2 f2)(i:Ins):VK.F (p1,f1,p2,f2,()) (i,()) (λy=>y=(bp (dK i),())):=by
 have RI':(∀i:Ins,fJ .ins 0 i=i.op)/\(∀i:Ins,fJ .ins 1 i=i.d)/\(∀i:Ins,fJ .ins 2 i=i.a)/\(∀i:Ins,fJ .ins 3 i=i.k)/\(∀f:Form,abh .form 0 f=f.d)/\(∀f:Form,abh .form 1 f=f.a)/\(∀f:Form,fJ .form 2 f=f.most):=⟨λ_=>rfl,λ_=>rfl,λ_=>rfl,λ_=>rfl,λ_=>rfl,λ_=>rfl,λ_=>rfl⟩;have gl:Qq .form=tu:=rfl;dsimp only [VK,gm];simp (disch:=omega) only [RR,RI',U1.hp,U1.hf,U2.hp,U2.hf,gl,ag4,bM,jU];refine⟨λh=>by rw [aY (λg=>h ⟨g.1.1,g.1.2⟩)],λh=> ?_⟩;obtain⟨f1',f2',f3'⟩:=amw h.1 h.2;rw [f1',f2',f3'];refine⟨h.1,ah,Prod.ext ?_ rfl⟩;simp only [Ik,Am];have ob:∀P Q:Prop,(bp P || bp Q)=bp (P\/Q):=λP Q=>by by_cases h1:P<;>by_cases h2:Q<;>simp [bp,h1,h2]
 simp only [ob,<-kL];refine kM ?_;unfold dK;obtain⟨g0,g1⟩:=h;rcases(by omega:i.op=0\/i.op=1\/i.op=2\/(3<=i.op/\i.op<=7)\/i.op=8\/(9<=i.op/\i.op<=12)\/i.op=13\/i.op=14\/i.op=15)with h | h | h | h | h | h | h | h | h
 all_goals (constructor<;>intro g<;>(repeat' split at g)<;>(repeat' split)<;>omega)
def amy{p1 f1}(U1:Y1 p1 f1)(a:Int):VO.F (p1,f1,()) (a,()) (λy=>y=(inB a 11 13,())):=by
 dsimp only [VO,gm];simp (disch:=omega) only [RR,U1.hp,U1.hf]
structure ag5(pp:Int×Unit->Bool)(ff:Int×Unit->Bool×Unit):Prop where
 hp:∀a,pp (a,())=true
 hf:∀a,ff (a,())=(inB a 11 13,())
structure Yl(pp:Ins×Unit->Bool)(ff:Ins×Unit->Bool×Unit):Prop where
 hp:∀i,pp (i,())=true
 hf:∀i,ff (i,())=(bp (dK i),())
theorem apJ{p1 f1 p2 f2 p3 f3}(U1:ag5 p1 f1)(U2:Yl p2 f2)(U3:Y1 p3 f3)(pc:Int)(l:List Ins)(hl:l.length<1000000000):afw.F (p1,f1,p2,f2,p3,f3,()) (pc,l,()) (λy=>y=(bp (qb pc l),())):=by
 have io:∀i:Ins,fJ .ins 0 i=i.op:=λ_=>rfl
 dsimp only [afw,gm];simp (disch:=omega) only [RR,io,U1.hp,U1.hf,U2.hp,U2.hf,U3.hp,U3.hf,bM,jU];refine⟨λh=> ?_,λh=> ?_⟩
 .rw [aY];intro g;have a:=g.ln;have c:=g.pc;omega
 refine ak (λ(y:List Ins×List Ins×Int×Int×Unit)=>y.1=l/\y.2.1=l/\y.2.2.1=l.length/\0<=y.2.2.2.1/\y.2.2.2.1<=l.length/\∀j:Nat,j<y.2.2.2.1->dK (l.getD j default)/\(l.getD j default).op≠0/\(11<=(l.getD j default).op/\(l.getD j default).op<=13->j+1=l.length)) (λy=>(l.length-y.2.2.2.1).toNat) ⟨rfl,rfl,rfl,by simp,by simp,λj hj=>absurd hj (by dsimp only;omega)⟩ ?_;rintro⟨(l1:List Ins),(l2:List Ins),(n:Int),(i:Int),⟨⟩⟩ hI;dsimp only at hI ⊢;obtain⟨rfl,rfl,rfl,h1,h2,h3⟩:=hI;simp (disch:=omega) only [RR,io,U1.hp,U1.hf,U2.hp,U2.hf,bM,jU,aO,gB];refine⟨λg=>⟨h1,g,λe=> ?_,λe=>⟨⟨ah,ah,λj hj=> ?_⟩,ah⟩⟩,λg=> ?_⟩
 .rw [aY];intro v;have:=v.ok i.toNat ah;rcases e with(e | e) | e
  .exact e this.1
  .exact this.2.1 e
  .have:=this.2.2 e.1;omega
 .by_cases c:j<i
  .exact h3 j c
  .have ej:j=i.toNat:=by omega
   subst ej;obtain⟨⟨e1,e2⟩,e3⟩:=e;refine⟨e1,e2,λq=> ?_⟩;rw [bM.2 q,Bool.true_and]at e3;have:=of_decide_eq_false e3;omega
 .rw [aW];exact⟨ah,ah,λj hj=>h3 j ah⟩
theorem adp{p1 f1}(U1:Y61 p1 f1)(kd x y k a1 a2 a3 a4 a5 a6 a:Int)(ops:List IOp)(h:ops.length<1000000):W9.F (p1,f1,()) (kd,x,y,k,a1,a2,a3,a4,a5,a6,a,ops,()) (λy'=>y'=((ops.length:Int),a1,a2,a3,a4,a5,a6,a,ops++ [⟨kd,x,y,k,if 4<=kd/\kd<=7 then a else 0⟩],())):=by
 have mk:∀a b c d e:Int,Co.mk .iop (a,b,c,d,e,())=⟨a,b,c,d,e⟩:=λ_ _ _ _ _=>rfl
 dsimp only [W9,gm];simp (disch:=omega) only [RR,mk,U1.hp,U1.hf,evO,List.length_cons,List.length_nil,List.length_append];refine⟨λc=>⟨ah,?_⟩,λc=>⟨ah,?_⟩⟩
 .rw [if_pos c,show((ops.length+(0+1):Nat):Int)-1=ops.length by omega]
 .rw [if_neg c,show((ops.length+(0+1):Nat):Int)-1=ops.length by omega]
structure Ym(pp:Int×Int×Int×Int×Int×Int×Int×Int×Int×Int×Int×List IOp×Unit->Bool)(ff:Int×Int×Int×Int×Int×Int×Int×Int×Int×Int×Int×List IOp×Unit->Int×Int×Int×Int×Int×Int×Int×Int×List IOp×Unit):Prop where
 hp:∀(kd x y k a1 a2 a3 a4 a5 a6 a:Int) (ops:List IOp),ops.length<1000000->pp (kd,x,y,k,a1,a2,a3,a4,a5,a6,a,ops,())=true
 hf:∀(kd x y k a1 a2 a3 a4 a5 a6 a:Int) (ops:List IOp),ops.length<1000000->ff (kd,x,y,k,a1,a2,a3,a4,a5,a6,a,ops,())=((ops.length:Int),a1,a2,a3,a4,a5,a6,a,ops++ [⟨kd,x,y,k,if 4<=kd/\kd<=7 then a else 0⟩],())
def adq{p1 f1}(U1:Ym p1 f1)(k a1 a2 a3 a4 a5 a6 a:Int)(ops:List IOp)(h:ops.length<1000000):Xb.F (p1,f1,()) (k,a1,a2,a3,a4,a5,a6,a,ops,()) (λy=>y=((ops.length:Int),a1,a2,a3,a4,a5,a6,a,ops++ [⟨1,0,0,k,0⟩],())):=by
 dsimp only [Xb,gm];simp (disch:=omega) only [RR,U1.hp 1 0 0 k a1 a2 a3 a4 a5 a6 a ops h,U1.hf 1 0 0 k a1 a2 a3 a4 a5 a6 a ops h];rfl
def ads{p1 f1}(U1:Ym p1 f1)(k a1 a2 a3 a4 a5 a6 a:Int)(ops:List IOp)(h:ops.length<1000000):Xc.F (p1,f1,()) (k,a1,a2,a3,a4,a5,a6,a,ops,()) (λy=>y=((ops.length:Int),a1,a2,a3,a4,a5,a6,a,ops++ [⟨2,0,0,k,0⟩],())):=by
 dsimp only [Xc,gm];simp (disch:=omega) only [RR,U1.hp 2 0 0 k a1 a2 a3 a4 a5 a6 a ops h,U1.hf 2 0 0 k a1 a2 a3 a4 a5 a6 a ops h];rfl
def adt{p1 f1}(U1:Ym p1 f1)(op x y a1 a2 a3 a4 a5 a6 a:Int)(ops:List IOp)(h:ops.length<1000000):Xd.F (p1,f1,()) (op,x,y,a1,a2,a3,a4,a5,a6,a,ops,()) (λz=>z=((ops.length:Int),a1,a2,a3,a4,a5,a6,a,ops++ [⟨3,x,y,op,0⟩],())):=by
 dsimp only [Xd,gm];simp (disch:=omega) only [RR,U1.hp 3 x y op a1 a2 a3 a4 a5 a6 a ops h,U1.hf 3 x y op a1 a2 a3 a4 a5 a6 a ops h];rfl
theorem amA{p1 f1}(U1:Ym p1 f1)(v:Int)(i:Ins)(a1 a2 a3 a4 a5 a6 a:Int)(ops:List IOp)(h:ops.length<1000000):Xa.F (p1,f1,()) (v,i,a1,a2,a3,a4,a5,a6,a,ops,()) (λy=>y=(i,a1,a2,a3,a4,a5,a6,a,ops++ [⟨8,v,0,i.d,0⟩],())):=by
 have io:fJ .ins 1 i=i.d:=rfl;dsimp only [Xa,gm];simp (disch:=omega) only [RR,io,U1.hp 8 v 0 i.d a1 a2 a3 a4 a5 a6 a ops h,U1.hf 8 v 0 i.d a1 a2 a3 a4 a5 a6 a ops h];rfl
def acg{k:Int}(h0:0<=k)(h1:k<=15):gP .shl .i64 1 k=2^k.toNat:=by
 have p:=OP h0 h1;unfold Wo at p;show IntKind.i64.wrap (1*2^ (min k.toNat 64))=_;rw [Nat.min_eq_left ah,Int.one_mul,w64 ah ah]
set_option maxHeartbeats 1000000 in
def amB{p4 f4}{p1:Int×Int×Int×Int×Int×Int×Int×Int×Int×Int×List IOp×Unit->Bool}{f1:Int×Int×Int×Int×Int×Int×Int×Int×Int×Int×List IOp×Unit->Int×Int×Int×Int×Int×Int×Int×Int×List IOp×Unit}(hp1:∀(op x y a1 a2 a3 a4 a5 a6 a:Int) (ops:List IOp),ops.length<1000000->p1 (op,x,y,a1,a2,a3,a4,a5,a6,a,ops,())=true)(hf1:∀(op x y a1 a2 a3 a4 a5 a6 a:Int) (ops:List IOp),ops.length<1000000->f1 (op,x,y,a1,a2,a3,a4,a5,a6,a,ops,())=((ops.length:Int),a1,a2,a3,a4,a5,a6,a,ops++ [⟨3,x,y,op,0⟩],())){p2:Int×Int×Int×Int×Int×Int×Int×Int×List IOp×Unit->Bool}{f2:Int×Int×Int×Int×Int×Int×Int×Int×List IOp×Unit->Int×Int×Int×Int×Int×Int×Int×Int×List IOp×Unit}(hp2:∀(k a1 a2 a3 a4 a5 a6 a:Int) (ops:List IOp),ops.length<1000000->p2 (k,a1,a2,a3,a4,a5,a6,a,ops,())=true)(hf2:∀(k a1 a2 a3 a4 a5 a6 a:Int) (ops:List IOp),ops.length<1000000->f2 (k,a1,a2,a3,a4,a5,a6,a,ops,())=((ops.length:Int),a1,a2,a3,a4,a5,a6,a,ops++ [⟨2,0,0,k,0⟩],())){p3:Int×Ins×Int×Int×Int×Int×Int×Int×Int×List IOp×Unit->Bool}{f3:Int×Ins×Int×Int×Int×Int×Int×Int×Int×List IOp×Unit->Ins×Int×Int×Int×Int×Int×Int×Int×List IOp×Unit}(hp3:∀(v:Int) (i:Ins) (a1 a2 a3 a4 a5 a6 a:Int) (ops:List IOp),ops.length<1000000->p3 (v,i,a1,a2,a3,a4,a5,a6,a,ops,())=true)(hf3:∀(v:Int) (i:Ins) (a1 a2 a3 a4 a5 a6 a:Int) (ops:List IOp),ops.length<1000000->f3 (v,i,a1,a2,a3,a4,a5,a6,a,ops,())=(i,a1,a2,a3,a4,a5,a6,a,ops++ [⟨8,v,0,i.d,0⟩],()))(U4:Ym p4 f4){p5:Int×Int×Int×Int×Int×Int×Int×Int×List IOp×Unit->Bool}{f5:Int×Int×Int×Int×Int×Int×Int×Int×List IOp×Unit->Int×Int×Int×Int×Int×Int×Int×Int×List IOp×Unit}(hp5:∀(k a1 a2 a3 a4 a5 a6 a:Int) (ops:List IOp),ops.length<1000000->p5 (k,a1,a2,a3,a4,a5,a6,a,ops,())=true)(hf5:∀(k a1 a2 a3 a4 a5 a6 a:Int) (ops:List IOp),ops.length<1000000->f5 (k,a1,a2,a3,a4,a5,a6,a,ops,())=((ops.length:Int),a1,a2,a3,a4,a5,a6,a,ops++ [⟨1,0,0,k,0⟩],()))(i:Ins)(B:Blk)(a:Int)(h:B.ops.length<900000)(h8:i.op=8->0<=i.k/\i.k<=15)(h0:0<=i.op/\i.op<=15):Xe.F (p1,f1,p2,f2,p3,f3,p4,f4,p5,f5,()) (i,B.pc,B.len,B.fin,B.x,B.y,B.k,a,B.ops,()) (λy=>y=((eZ a B i).pc,(eZ a B i).len,(eZ a B i).fin,(eZ a B i).x,(eZ a B i).y,(eZ a B i).k,a,(eZ a B i).ops,())):=by
 have io:(∀i:Ins,fJ .ins 0 i=i.op)/\(∀i:Ins,fJ .ins 1 i=i.d)/\(∀i:Ins,fJ .ins 2 i=i.a)/\(∀i:Ins,fJ .ins 3 i=i.k):=⟨λ_=>rfl,λ_=>rfl,λ_=>rfl,λ_=>rfl⟩;have a2:∀n:Int,n+1+1=n+2:=λn=>by omega
 have a3:∀n:Int,n+2+1=n+3:=λn=>by omega
 have a4:∀n:Int,n-3+1=n-2:=λn=>by omega
 obtain⟨h00,h01⟩:=h0;have n1:∀(l:List IOp) (o:IOp),((l++ [o]).length:Int)=l.length+1:=λl o=>by rw [List.length_append];rfl
 have m1:∀(l:List IOp) (o:IOp),l.length<990000->(l++ [o]).length<1000000:=λl o h=>by rw [List.length_append];simp only [List.length_cons,List.length_nil];omega
 have m2:∀(l:List IOp) (o o2:IOp),l.length<990000->((l++ [o])++ [o2]).length<1000000:=λl o o2 h=>by simp only [List.length_append,List.length_cons,List.length_nil];omega
 have m3:∀(l:List IOp) (o o2 o3:IOp),l.length<990000->(((l++ [o])++ [o2])++ [o3]).length<1000000:=λl o o2 o3 h=>by simp only [List.length_append,List.length_cons,List.length_nil];omega
 have m4:∀(l:List IOp) (o o2 o3 o4:IOp),l.length<990000->((((l++ [o])++ [o2])++ [o3])++ [o4]).length<1000000:=λl o o2 o3 o4 h=>by simp only [List.length_append,List.length_cons,List.length_nil];omega
 dsimp only [Xe,gm];unfold eZ fU;by_cases e1:i.op=1
 .simp (disch:=first | omega | (apply m1;omega) | (apply m2;omega) | (apply m3;omega) | (apply m4;omega)) only [RR,io,e1,hp1,hf1,hp2,hf2,hp3,hf3,U4.hp,U4.hf,hp5,hf5,n1,Int.reduceEq,Int.reduceAdd,Int.reduceSub,Int.reduceLE,or_self,true_and,and_true,and_self,false_and,and_false]
  try simp [a2,a3]
 by_cases e2:i.op=2
 .simp (disch:=first | omega | (apply m1;omega) | (apply m2;omega) | (apply m3;omega) | (apply m4;omega)) only [RR,io,e2,hp1,hf1,hp2,hf2,hp3,hf3,U4.hp,U4.hf,hp5,hf5,n1,Int.reduceEq,Int.reduceAdd,Int.reduceSub,Int.reduceLE,or_self,true_and,and_true,and_self,false_and,and_false]
  try simp [a2,a3]
 by_cases e8:i.op=8
 .simp (disch:=first | omega | (apply m1;omega) | (apply m2;omega) | (apply m3;omega) | (apply m4;omega)) only [RR,io,e8,hp1,hf1,hp2,hf2,hp3,hf3,U4.hp,U4.hf,hp5,hf5,n1,Int.reduceEq,Int.reduceAdd,Int.reduceSub,Int.reduceLE,or_self,true_and,and_true,and_self,false_and,and_false,acg (h8 e8).1 (h8 e8).2,(h8 e8).1]
  try simp [a2,a3]
 by_cases e9:i.op=9
 .simp (disch:=first | omega | (apply m1;omega) | (apply m2;omega) | (apply m3;omega) | (apply m4;omega)) only [RR,io,e9,hp1,hf1,hp2,hf2,hp3,hf3,U4.hp,U4.hf,hp5,hf5,n1,Int.reduceEq,Int.reduceAdd,Int.reduceSub,Int.reduceLE,or_self,true_and,and_true,and_self,false_and,and_false]
  try simp [a2,a3]
 by_cases e10:i.op=10
 .simp (disch:=first | omega | (apply m1;omega) | (apply m2;omega) | (apply m3;omega) | (apply m4;omega)) only [RR,io,e10,hp1,hf1,hp2,hf2,hp3,hf3,U4.hp,U4.hf,hp5,hf5,n1,Int.reduceEq,Int.reduceAdd,Int.reduceSub,Int.reduceLE,or_self,true_and,and_true,and_self,false_and,and_false]
  try simp [a2,a3]
 by_cases e14:i.op=14
 .simp (disch:=first | omega | (apply m1;omega) | (apply m2;omega) | (apply m3;omega) | (apply m4;omega)) only [RR,io,e14,hp1,hf1,hp2,hf2,hp3,hf3,U4.hp,U4.hf,hp5,hf5,n1,Int.reduceEq,Int.reduceAdd,Int.reduceSub,Int.reduceLE,or_self,true_and,and_true,and_self,false_and,and_false]
  try simp [a2,a3]
 by_cases e15:i.op=15
 .simp (disch:=first | omega | (apply m1;omega) | (apply m2;omega) | (apply m3;omega) | (apply m4;omega)) only [RR,io,e15,hp1,hf1,hp2,hf2,hp3,hf3,U4.hp,U4.hf,hp5,hf5,n1,Int.reduceEq,Int.reduceAdd,Int.reduceSub,Int.reduceLE,or_self,true_and,and_true,and_self,false_and,and_false]
  try simp [a2,a3]
 by_cases e11:i.op=11
 .simp (disch:=first | omega | (apply m1;omega) | (apply m2;omega) | (apply m3;omega) | (apply m4;omega)) only [RR,io,e11,hp1,hf1,hp2,hf2,hp3,hf3,U4.hp,U4.hf,hp5,hf5,n1,Int.reduceEq,Int.reduceAdd,Int.reduceSub,Int.reduceLE,or_self,true_and,and_true,and_self,false_and,and_false]
  try simp [a2,a3]
 by_cases e12:i.op=12
 .simp (disch:=first | omega | (apply m1;omega) | (apply m2;omega) | (apply m3;omega) | (apply m4;omega)) only [RR,io,e12,hp1,hf1,hp2,hf2,hp3,hf3,U4.hp,U4.hf,hp5,hf5,n1,Int.reduceEq,Int.reduceAdd,Int.reduceSub,Int.reduceLE,or_self,true_and,and_true,and_self,false_and,and_false]
  try simp [a2,a3]
 by_cases e13:i.op=13
 .simp (disch:=first | omega | (apply m1;omega) | (apply m2;omega) | (apply m3;omega) | (apply m4;omega)) only [RR,io,e13,hp1,hf1,hp2,hf2,hp3,hf3,U4.hp,U4.hf,hp5,hf5,n1,Int.reduceEq,Int.reduceAdd,Int.reduceSub,Int.reduceLE,or_self,true_and,and_true,and_self,false_and,and_false]
  try simp [a2,a3]
 simp (disch:=first | omega | (apply m1;omega) | (apply m2;omega) | (apply m3;omega) | (apply m4;omega)) only [RR,io,e1,e2,e8,e9,e10,e14,e15,e11,e12,e13,hp1,hf1,hp2,hf2,hp3,hf3,U4.hp,U4.hf,hp5,hf5,n1,Int.reduceEq,Int.reduceAdd,Int.reduceSub,Int.reduceLE,or_self,true_and,and_true,and_self,false_and,and_false]
 try simp [a2,a3,a4]
def Yn(n b:Int)(i:Ins):(fU n b i).length<=5:=by
 unfold fU;repeat' split
 all_goals simp only [List.length_cons,List.length_nil]
 all_goals omega
def Yo(n:Int)(b:Blk)(i:Ins):(eZ n b i).ops.length<=b.ops.length+5:=by
 have:=Yn n b.ops.length i;unfold eZ;repeat' split
 all_goals (dsimp only;rw [List.length_append];omega)
def vE:∀(l:List Ins) (n:Int) (b:Blk) (i:Ins),nD n b (l++ [i])=eZ (n+l.length) (nD n b l) i
 | [],n,b,i=>by simp [nD]
 | j::l,n,b,i=>by
  show nD (n+1) (eZ n b j) (l++ [i])=eZ _ (nD (n+1) (eZ n b j) l) i;rw [vE l (n+1) (eZ n b j) i,List.length_cons,show n+1+(l.length:Int)=n+((l.length+1:Nat):Int) by omega]
def yR:∀(l:List Ins) (n:Int) (b:Blk),(nD n b l).ops.length<=b.ops.length+5*l.length
 | [],_,_=>Nat.le_refl _
 | i::l,n,b=>by
  show(nD (n+1) (eZ n b i) l).ops.length<=_;have:=yR l (n+1) (eZ n b i);have:=Yo n b i;rw [List.length_cons];omega
structure amC(pp:Int×List Ins×Unit->Bool)(ff:Int×List Ins×Unit->Bool×Unit):Prop where
 hp:∀pc l,l.length<1000000000->pp (pc,l,())=true
 hf:∀pc l,l.length<1000000000->ff (pc,l,())=(bp (qb pc l),())
theorem apK{p1 f1 p2 f2}(U1:amC p1 f1)(U2:Y99 p2 f2){p3:Ins×Int×Int×Int×Int×Int×Int×Int×List IOp×Unit->Bool}{f3:Ins×Int×Int×Int×Int×Int×Int×Int×List IOp×Unit->Int×Int×Int×Int×Int×Int×Int×List IOp×Unit}(hp3:∀(i:Ins) (B:Blk) (a:Int),B.ops.length<900000->(i.op=8->0<=i.k/\i.k<=15)->(0<=i.op/\i.op<=15)->p3 (i,B.pc,B.len,B.fin,B.x,B.y,B.k,a,B.ops,())=true)(hf3:∀(i:Ins) (B:Blk) (a:Int),B.ops.length<900000->(i.op=8->0<=i.k/\i.k<=15)->(0<=i.op/\i.op<=15)->f3 (i,B.pc,B.len,B.fin,B.x,B.y,B.k,a,B.ops,())=((eZ a B i).pc,(eZ a B i).len,(eZ a B i).fin,(eZ a B i).x,(eZ a B i).y,(eZ a B i).k,a,(eZ a B i).ops,()))(pc:Int)(l:List Ins)(hl:l.length<1000000000):afB.F (p1,f1,p2,f2,p3,f3,()) (pc,l,()) (λy=>y=bk7 (lower pc l)):=by
 have mE:∀c:Blk,Co.mk .blk (c.pc,c.len,c.ops,c.fin,c.x,c.y,c.k,())=c:=λ_=>rfl
 dsimp only [afB,gm,zQ];simp (disch:=omega) only [RR,U1.hp pc l hl,U1.hf pc l hl,aO,gB];unfold lower;refine⟨λh=>by rw [aY h,if_neg (by decide)];rfl,λh=> ?_⟩;rw [aW h,if_pos rfl];have ln:=h.ln;have pp:=h.pc;refine ak (λ(y:List Ins×Int×Int×Int×Int×Int×Int×Int×Int×Int×Int×Int×Int×Int×Int×Int×List IOp×Unit)=>y.1=l/\y.2.1=l.length/\0<=y.2.2.1/\y.2.2.1<=l.length/\∃B:Blk,B=nD 0 (tY pc l) (l.take y.2.2.1.toNat)/\y.2.2.2.2.2.2.2.2.2.1=B.pc/\y.2.2.2.2.2.2.2.2.2.2.1=B.len/\y.2.2.2.2.2.2.2.2.2.2.2.1=B.fin/\y.2.2.2.2.2.2.2.2.2.2.2.2.1=B.x/\y.2.2.2.2.2.2.2.2.2.2.2.2.2.1=B.y/\y.2.2.2.2.2.2.2.2.2.2.2.2.2.2.1=B.k/\y.2.2.2.2.2.2.2.2.2.2.2.2.2.2.2.2.1=B.ops) (λy=>(l.length-y.2.2.1).toNat) ⟨rfl,rfl,by simp,by simp,_,rfl,rfl,rfl,rfl,rfl,rfl,w64 ah ah,rfl⟩ ?_;rintro⟨(l':List Ins),(n:Int),(i:Int),z1,z2,z3,z4,z5,z6,q1,q2,q3,q4,q5,q6,q7,q8,⟨⟩⟩ hI;dsimp only at hI ⊢;obtain⟨rfl,rfl,h1,h2,B,eB,rfl,rfl,rfl,rfl,rfl,rfl,rfl⟩:=hI;have bl:B.ops.length<=40:=by
  have:=yR (l'.take i.toNat) 0 (tY pc l');rw [<-eB]at this;have t:=List.length_take_le i.toNat l';have:(tY pc l').ops.length=0:=rfl;omega
 by_cases c:i<l'.length
 .obtain⟨o1,o2,o3⟩:=h.ok i.toNat ah;have H8:(((l').getD (i).toNat default)).op=8->0<=(((l').getD (i).toNat default)).k/\(((l').getD (i).toNat default)).k<=15:=λe=>⟨o1.2.2.2.1,o1.2.2.2.2.2.2.2.2.1 e⟩
  have H0:=o1.1;simp (disch:=omega) only [RR,c,hp3 (((l').getD (i).toNat default)) B i ah H8 H0,hf3 (((l').getD (i).toNat default)) B i ah H8 H0];refine⟨h1,⟨ah,ah,eZ i B (((l').getD (i).toNat default)),?_,rfl,rfl,rfl,rfl,rfl,rfl,rfl⟩,ah⟩;rw [<-bI (d:=default) h1 c rfl,vE,<-eB,List.length_take,show(0:Int)+((min i.toNat l'.length:Nat):Int)=i by omega]
 .rw [List.take_of_length_le ah]at eB;simp (disch:=omega) only [RR,c,mE,U2.hp B ah,U2.hf B ah,<-eB]
def OKS(ops:List IOp)(len:Int):Prop:=∀j:Int,0<=j->j<ops.length->nC ops len j ((ops).getD (j).toNat default)
theorem amD{ops w:List IOp}{x:Int}(h0:0<=x)(h:x<ops.length):((ops++w).getD (x).toNat default)=((ops).getD (x).toNat default):=by
 rw [List.getD_eq_getElem?_getD,List.getElem?_append_left ah,<-List.getD_eq_getElem?_getD]
theorem amE{ops w:List IOp}{t:Nat}:((ops++w).getD ((ops.length:Int)+t).toNat default)=w.getD t default:=by
 rw [List.getD_eq_getElem?_getD,List.getElem?_append_right ah,<-List.getD_eq_getElem?_getD,show((ops.length:Int)+t).toNat-ops.length=t by omega]
theorem Vl.mono{ops w:List IOp}{x n n':Int}(h:Vl ops x n)(h1:n<=ops.length)(h2:n<=n'):Vl (ops++w) x n':=by
 obtain⟨a,b,c⟩:=h;exact⟨a,ah,by rw [amD a ah];exact c⟩
theorem nC.mono{ops w:List IOp}{len i:Int}{o:IOp}(h:nC ops len i o)(h1:i<=ops.length):nC (ops++w) len i o:=
 {h with x1:=λg=>(h.x1 g).mono h1 (Int.le_refl _),y1:=λg=>(h.y1 g).mono h1 (Int.le_refl _)}
theorem OKS.app{ops w:List IOp}{len:Int}(h:OKS ops len)(hw:∀t:Nat,t<w.length->nC (ops++w) len ((ops.length:Int)+t) (w.getD t default)):OKS (ops++w) len:=λj j0 j1=>by
 rw [List.length_append]at j1;by_cases c:j<ops.length
 .rw [amD j0 c];exact(h j j0 c).mono ah
 .obtain⟨t,rfl⟩:∃t:Nat,j=(ops.length:Int)+t:=⟨(j-ops.length).toNat,ah⟩;rw [amE];exact hw t ah
theorem Q9(ops w:List IOp)(s t:Nat)(h:s<t)(m:mkV (w.getD s default)):Vl (ops++w) ((ops.length:Int)+s) ((ops.length:Int)+t):=⟨ah,ah,by rw [amE];exact m⟩
section
variable {ops:List IOp} {len i x y k n:Int}
theorem ok1(h:0<=k/\k<=65535):nC ops len i ⟨1,0,0,k,0⟩:=by constructor<;>simp [hX,hY,evO]<;>omega
theorem ok2(h:0<=k/\k<=3):nC ops len i ⟨2,0,0,k,0⟩:=by constructor<;>simp [hX,hY,evO]<;>omega
theorem ok3(h:1<=k/\k<=5)(hx:Vl ops x i)(hy:Vl ops y i):nC ops len i ⟨3,x,y,k,0⟩:=by constructor<;>simp [hX,hY,evO,hx,hy]<;>omega
theorem ok4(h:0<=n/\n<len)(hx:Vl ops x i):nC ops len i ⟨4,x,0,0,n⟩:=by constructor<;>simp [hX,hY,evO,hx]<;>omega
theorem ok5(h:0<=n/\n<len)(hx:Vl ops x i)(hy:Vl ops y i):nC ops len i ⟨5,x,y,0,n⟩:=by constructor<;>simp [hX,hY,evO,hx,hy]<;>omega
theorem ok6(h:0<=n/\n<len):nC ops len i ⟨6,0,0,0,n⟩:=by constructor<;>simp [hX,hY,evO]<;>omega
theorem ok7(h:0<=n/\n<len)(hx:Vl ops x i):nC ops len i ⟨7,x,0,0,n⟩:=by constructor<;>simp [hX,hY,evO,hx]<;>omega
theorem ok8(h:0<=k/\k<=3)(hx:Vl ops x i):nC ops len i ⟨8,x,0,k,0⟩:=by constructor<;>simp [hX,hY,evO,hx]<;>omega
end
theorem Ra{ops:List IOp}{len n:Int}{i:Ins}(h:OKS ops len)(hi:dK i)(h0:i.op≠0)(hn:0<=n/\n<len):OKS (ops++fU n ops.length i) len/\
  (i.op=11\/i.op=12->Vl (ops++fU n ops.length i) ops.length ((ops++fU n ops.length i).length)/\Vl (ops++fU n ops.length i) (ops.length+1) ((ops++fU n ops.length i).length))/\
  (i.op=13->Vl (ops++fU n ops.length i) ops.length ((ops++fU n ops.length i).length)):=by
 obtain⟨⟨o0,o1⟩,⟨d0,d1⟩,⟨a0,a1⟩,k0,_,r1,r2,r3,r8,r9,r13,r14⟩:=hi;have v0:=λ(w:List IOp) (t:Nat) (h:0<t) (m:mkV (w.getD 0 default))=>show Vl (ops++w) (ops.length:Int) ((ops.length:Int)+t)from by have:=Q9 ops w 0 t h m;rwa [Int.natCast_zero,Int.add_zero]at this
 have v1:=λ(w:List IOp) (t:Nat) (h:1<t) (m:mkV (w.getD 1 default))=>Q9 ops w 1 t h m
 have v2:=λ(w:List IOp) (t:Nat) (h:2<t) (m:mkV (w.getD 2 default))=>Q9 ops w 2 t h m
 have v3:=λ(w:List IOp) (t:Nat) (h:3<t) (m:mkV (w.getD 3 default))=>Q9 ops w 3 t h m
 have m1:∀a b c d:Int,mkV ⟨1,a,b,c,d⟩:=λ_ _ _ _=>by unfold mkV;dsimp only;omega
 have m2:∀a b c d:Int,mkV ⟨2,a,b,c,d⟩:=λ_ _ _ _=>by unfold mkV;dsimp only;omega
 have m3:∀a b c d:Int,mkV ⟨3,a,b,c,d⟩:=λ_ _ _ _=>by unfold mkV;dsimp only;omega
 have m4:∀a b c d:Int,mkV ⟨4,a,b,c,d⟩:=λ_ _ _ _=>by unfold mkV;dsimp only;omega
 have m6:∀a b c d:Int,mkV ⟨6,a,b,c,d⟩:=λ_ _ _ _=>Or.inr rfl
 rcases(by omega:i.op=1\/i.op=2\/(3<=i.op/\i.op<=7)\/i.op=8\/i.op=9\/i.op=10\/(i.op=11\/i.op=12)\/i.op=13\/i.op=14\/i.op=15)with c | c | c | c | c | c | c | c | c | c
 .have e:fU n ops.length i=[⟨1,0,0,i.k,0⟩,⟨8,ops.length,0,i.d,0⟩]:=by unfold fU;rw [if_pos c]
  rw [e];refine⟨h.app λt ht=> ?_,λg=>by omega,λg=>by omega⟩;rcases t with _ | _ | t
  .exact ok1 (by have:=r1 c;omega)
  .exact ok8 ⟨d0,d1⟩ (v0 _ 1 (by decide) (m1 _ _ _ _))
  .simp only [List.length_cons,List.length_nil]at ht;omega
 .have e:fU n ops.length i=[⟨2,0,0,i.a,0⟩,⟨8,ops.length,0,i.d,0⟩]:=by unfold fU;rw [if_neg ah,if_pos c]
  rw [e];refine⟨h.app λt ht=> ?_,λg=>by omega,λg=>by omega⟩;rcases t with _ | _ | t
  .exact ok2 ⟨a0,a1⟩
  .exact ok8 ⟨d0,d1⟩ (v0 _ 1 (by decide) (m2 _ _ _ _))
  .simp only [List.length_cons,List.length_nil]at ht;omega
 .have e:fU n ops.length i=[⟨2,0,0,i.a,0⟩,⟨2,0,0,i.k,0⟩,⟨3,ops.length,ops.length+1,i.op-2,0⟩,⟨8,ops.length+2,0,i.d,0⟩]:=by
   unfold fU
   iterate 9 rw [if_neg ah]
  rw [e];refine⟨h.app λt ht=> ?_,λg=>by omega,λg=>by omega⟩;rcases t with _ | _ | _ | _ | t
  .exact ok2 ⟨a0,a1⟩
  .exact ok2 ⟨k0,r3 c⟩
  .exact ok3 ah (v0 _ 2 (by decide) (m2 _ _ _ _)) (v1 _ 2 (by decide) (m2 _ _ _ _))
  .exact ok8 ⟨d0,d1⟩ (v2 _ 3 (by decide) (m3 _ _ _ _))
  .simp only [List.length_cons,List.length_nil]at ht;omega
 .have e:fU n ops.length i=[⟨2,0,0,i.a,0⟩,⟨1,0,0,2^i.k.toNat,0⟩,⟨3,ops.length,ops.length+1,3,0⟩,⟨8,ops.length+2,0,i.d,0⟩]:=by
   unfold fU;rw [if_neg ah,if_neg ah,if_pos c]
  rw [e];refine⟨h.app λt ht=> ?_,λg=>by omega,λg=>by omega⟩;rcases t with _ | _ | _ | _ | t
  .exact ok2 ⟨a0,a1⟩
  .exact ok1 (OP k0 (r8 c))
  .exact ok3 (by decide) (v0 _ 2 (by decide) (m2 _ _ _ _)) (v1 _ 2 (by decide) (m1 _ _ _ _))
  .exact ok8 ⟨d0,d1⟩ (v2 _ 3 (by decide) (m3 _ _ _ _))
  .simp only [List.length_cons,List.length_nil]at ht;omega
 .have e:fU n ops.length i=[⟨2,0,0,i.a,0⟩,⟨1,0,0,i.k,0⟩,⟨3,ops.length,ops.length+1,1,0⟩,⟨4,ops.length+2,0,0,n⟩,⟨8,ops.length+3,0,i.d,0⟩]:=by
   unfold fU;rw [if_neg ah,if_neg ah,if_neg ah,if_pos c]
  have r:=r9 ah;rw [e];refine⟨h.app λt ht=> ?_,λg=>by omega,λg=>by omega⟩;rcases t with _ | _ | _ | _ | _ | t
  .exact ok2 ⟨a0,a1⟩
  .exact ok1 ah
  .exact ok3 (by decide) (v0 _ 2 (by decide) (m2 _ _ _ _)) (v1 _ 2 (by decide) (m1 _ _ _ _))
  .exact ok4 hn (v2 _ 3 (by decide) (m3 _ _ _ _))
  .exact ok8 ⟨d0,d1⟩ (v3 _ 4 (by decide) (m4 _ _ _ _))
  .simp only [List.length_cons,List.length_nil]at ht;omega
 .have e:fU n ops.length i=[⟨2,0,0,i.a,0⟩,⟨1,0,0,i.k,0⟩,⟨3,ops.length,ops.length+1,1,0⟩,⟨2,0,0,i.d,0⟩,⟨5,ops.length+2,ops.length+3,0,n⟩]:=by
   unfold fU;rw [if_neg ah,if_neg ah,if_neg ah,if_neg ah,if_pos c]
  have r:=r9 ah;rw [e];refine⟨h.app λt ht=> ?_,λg=>by omega,λg=>by omega⟩;rcases t with _ | _ | _ | _ | _ | t
  .exact ok2 ⟨a0,a1⟩
  .exact ok1 ah
  .exact ok3 (by decide) (v0 _ 2 (by decide) (m2 _ _ _ _)) (v1 _ 2 (by decide) (m1 _ _ _ _))
  .exact ok2 ⟨d0,d1⟩
  .exact ok5 hn (v2 _ 4 (by decide) (m3 _ _ _ _)) (v3 _ 4 (by decide) (m2 _ _ _ _))
  .simp only [List.length_cons,List.length_nil]at ht;omega
 .have e:fU n ops.length i=[⟨2,0,0,i.d,0⟩,⟨2,0,0,i.a,0⟩]:=by
   unfold fU
   iterate 7 rw [if_neg ah]
   rw [if_pos c]
  have el:∀a b:IOp,(((ops++ [a,b]).length:Nat):Int)=(ops.length:Int)+((2:Nat):Int):=λa b=>by rw [List.length_append];rfl
  rw [e];refine⟨h.app λt ht=> ?_,λg=> ?_,λg=>by omega⟩
  .rcases t with _ | _ | t
   .exact ok2 ⟨d0,d1⟩
   .exact ok2 ⟨a0,a1⟩
   .simp only [List.length_cons,List.length_nil]at ht;omega
  .rw [el];exact⟨v0 _ 2 (by decide) (m2 _ _ _ _),v1 _ 2 (by decide) (m2 _ _ _ _)⟩
 .have e:fU n ops.length i=[⟨2,0,0,i.a,0⟩]:=by
   unfold fU
   iterate 8 rw [if_neg ah]
   rw [if_pos c]
  have el:∀a:IOp,(((ops++ [a]).length:Nat):Int)=(ops.length:Int)+((1:Nat):Int):=λa=>by rw [List.length_append];rfl
  rw [e];refine⟨h.app λt ht=> ?_,λg=>by omega,λg=> ?_⟩
  .rcases t with _ | t
   .exact ok2 ⟨a0,a1⟩
   .simp only [List.length_cons,List.length_nil]at ht;omega
  .rw [el];exact v0 _ 1 (by decide) (m2 _ _ _ _)
 .have e:fU n ops.length i=[⟨2,0,0,i.d,0⟩,⟨7,ops.length,0,0,n⟩]:=by
   unfold fU
   iterate 5 rw [if_neg ah]
   rw [if_pos c]
  rw [e];refine⟨h.app λt ht=> ?_,λg=>by omega,λg=>by omega⟩;rcases t with _ | _ | t
  .exact ok2 ⟨d0,d1⟩
  .exact ok7 hn (v0 _ 1 (by decide) (m2 _ _ _ _))
  .simp only [List.length_cons,List.length_nil]at ht;omega
 .have e:fU n ops.length i=[⟨6,0,0,0,n⟩,⟨8,ops.length,0,i.d,0⟩]:=by
   unfold fU
   iterate 6 rw [if_neg ah]
   rw [if_pos c]
  rw [e];refine⟨h.app λt ht=> ?_,λg=>by omega,λg=>by omega⟩;rcases t with _ | _ | t
  .exact ok6 hn
  .exact ok8 ⟨d0,d1⟩ (v0 _ 1 (by decide) (m6 _ _ _ _))
  .simp only [List.length_cons,List.length_nil]at ht;omega
end Go.TX.F
namespace Go.TX.F
open Go Go.AE Go.TX
def Mid(i:Ins):Prop:=dK i/\i.op≠0/\¬(11<=i.op/\i.op<=13)
def Yp{n:Int}{b:Blk}{i:Ins}(h:Mid i):eZ n b i={b with ops:=b.ops++fU n b.ops.length i}:=by
 obtain⟨_,_,h3⟩:=h;unfold eZ;rw [if_neg ah,if_neg ah]
def Km:∀(r:List Ins) (n:Int) (b:Blk),(∀i∈r,Mid i)->OKS b.ops b.len->0<=n->n+r.length<=b.len->OKS (nD n b r).ops b.len/\nD n b r={b with ops:=(nD n b r).ops}
 | [],n,b,_,h,_,_=>⟨h,rfl⟩
 | i::r,n,b,hr,h,h0,h1=>by
  have hi:=hr i (List.mem_cons_self ..);simp only [List.length_cons]at h1;have k:=Ra (n:=n) h hi.1 hi.2.1 ⟨h0,ah⟩;have e:=Yp (n:=n) (b:=b) hi;show OKS (nD (n+1) (eZ n b i) r).ops b.len/\nD (n+1) (eZ n b i) r={b with ops:=(nD (n+1) (eZ n b i) r).ops};have ih:=Km r (n+1) (eZ n b i) (λj hj=>hr j (List.mem_cons_of_mem _ hj)) (by rw [e];exact k.1) ah (by rw [e];dsimp only;omega);rw [e]at ih ⊢;exact ih
def Yq(n:Int)(b:Blk)(i:Ins):(eZ n b i).ops=b.ops++fU n b.ops.length i:=by
 unfold eZ;split
 .rfl
 split<;>rfl
def SN{pc:Int}{l:List Ins}(h:qb pc l):∃r i,l=r++ [i]/\(∀j∈r,Mid j)/\dK i/\i.op≠0:=by
 have ln:=h.ln;rcases List.eq_nil_or_concat l with e | ⟨r,i,e⟩
 .subst e;simp at ln
 rw [List.concat_eq_append]at e;subst e;refine⟨r,i,rfl,λj hj=> ?_,?_,?_⟩
 .obtain⟨t,ht,rfl⟩:=List.getElem_of_mem hj;have:=h.ok t (by rw [List.length_append];omega);rw [List.getD_eq_getElem?_getD,List.getElem?_append_left ht,List.getElem?_eq_getElem ht]at this;obtain⟨a,b,c⟩:=this;refine⟨a,b,λg=> ?_⟩;have:=c g;rw [List.length_append,List.length_singleton]at this;omega
 .have:=h.ok r.length (by rw [List.length_append,List.length_singleton];omega);rw [List.getD_eq_getElem?_getD,List.getElem?_append_right (Nat.le_refl _),Nat.sub_self]at this;exact this.1
 .have:=h.ok r.length (by rw [List.length_append,List.length_singleton];omega);rw [List.getD_eq_getElem?_getD,List.getElem?_append_right (Nat.le_refl _),Nat.sub_self]at this;exact this.2.1
theorem OQ{pc:Int}{l:List Ins}(h:qb pc l):iD (lower pc l):=by
 have ln:=h.ln;have hp:=h.pc;have e0:lower pc l=nD 0 (tY pc l) l:=by unfold lower;rw [aW h,if_pos rfl]
 have sz:=yR l 0 (tY pc l);obtain⟨r,i,e,hr,hi,h0⟩:=SN h;have rl:l.length=r.length+1:=by rw [e,List.length_append,List.length_singleton]
 have k0:OKS (tY pc l).ops (tY pc l).len:=λj j0 j1=>absurd j1 (by show¬j< ((0:Nat):Int);omega)
 obtain⟨a1,a2⟩:=Km r 0 (tY pc l) hr k0 ah (by show 0+(r.length:Int)<=(l.length:Int);omega);have e1:lower pc l=eZ r.length (nD 0 (tY pc l) r) i:=by
  rw [e0]
  conv=>lhs;rw [e]
  rw [vE,<-e];simp
 obtain⟨b1,b2,b3⟩:=Ra (n:=r.length) a1 hi h0 ⟨ah,by show(r.length:Int)< (l.length:Int);omega⟩;have eo:=Yq r.length (nD 0 (tY pc l) r) i;rw [<-e0]at sz;generalize hB:(nD 0 (tY pc l) r).ops=ops at*;have z0:(tY pc l).ops.length=0:=rfl;have F:(lower pc l).pc=pc/\(lower pc l).len=l.length:=by
  rw [e1,a2];unfold eZ;split
  .exact⟨rfl,rfl⟩
  split<;>exact⟨rfl,rfl⟩
 have O:(lower pc l).ops=ops++fU r.length ops.length i:=by rw [e1];exact eo
 refine⟨by rw [F.2];omega,by rw [F.1,F.2];omega,ah,?_,?_⟩
 .rw [O,F.2];exact λj j0 j1=>b1 j j0 j1
 .by_cases c:i.op=11\/i.op=12
  .obtain⟨v1,v2⟩:=b2 c;have E:lower pc l=⟨pc,l.length,ops++fU r.length ops.length i,i.op-8,ops.length,ops.length+1,i.k⟩:=by rw [e1,a2];unfold eZ;rw [if_pos c];rfl
   have kk:=hi.2.2.2.2.2.2.2.2.2.1;rw [E];refine⟨by dsimp only;omega,λ_=>v1,λg=>by dsimp only at g;omega,λ_=>v2,λg=>by dsimp only at g;omega,λ_=> ?_,λg=>by dsimp only at g;omega⟩;have:=hi.2.2.2.1;have:=kk ah;dsimp only;omega
  by_cases d:i.op=13
  .have v1:=b3 d;have E:lower pc l=⟨pc,l.length,ops++fU r.length ops.length i,2,ops.length,0,0⟩:=by rw [e1,a2];unfold eZ;rw [if_neg c,if_pos d];rfl
   rw [E];exact⟨by dsimp only;omega,λ_=>v1,λg=>by dsimp only at g;omega,λg=>by dsimp only at g;omega,λ_=>rfl,λg=>absurd rfl g,λ_=>rfl⟩
  .have E:lower pc l=⟨pc,l.length,ops++fU r.length ops.length i,1,0,0,pc+l.length⟩:=by rw [e1,a2];unfold eZ;rw [if_neg c,if_neg d];rfl
   rw [E];exact⟨by dsimp only;omega,λg=>absurd rfl g,λ_=>rfl,λg=>by dsimp only at g;omega,λ_=>rfl,λ_=>by dsimp only;omega,λg=>by dsimp only at g;omega⟩
def ag6{m:bL}(h:MOK m){i:Ins}(hi:dK i):MOK (eff m i):=by
 obtain⟨⟨o0,o1⟩,⟨d0,d1⟩,⟨a0,a1⟩,k0,r0,r1,r2,r3,r8,r9,r13,r14⟩:=hi;have rs:∀(j:Nat) (v:Int),Wo v->MOK {m with regs:=m.regs.set j v}:=λj v w=> {h with r4:=by rw [List.length_set];exact h.r4,rw:=h.rw.set w j}
 unfold eff;split
 .exact rs _ _ ⟨k0,by have:=r1 ‹_›;omega⟩
 split
 .exact rs _ _ (h.rw.at _)
 split
 .exact rs _ _ (by unfold Wo;omega)
 split
 .exact rs _ _ (h.mw.at _)
 split
 .exact {h with m64:=by rw [List.length_set];exact h.m64,mw:=h.mw.set (h.rw.at _) _}
 split
 .exact {h with ow:=h.ow.snoc (h.rw.at _)}
 split
 .exact {rs i.d.toNat (m.ins.getD 0 default) h.iw.hd with iw:=h.iw.drop 1}
 split
 .split
  .exact {h with ha:=⟨show(0:Int)<=1 by decide,show(1:Int)<=4 by decide⟩}
  split
  .exact {h with}
  .exact {h with}
 split
 .exact h
 .exact rs _ _ (QK _ _ _)
abbrev upd(m : bL)(u v : Int) : bL := { m with count := u, pc := v }
abbrev mD(y : Blk × Int × List Int × Int × Bool × Bool × Int × List Int × Int × List Int × List Int × Unit) : bL := ⟨y.2.2.2.2.2.2.2.2.2.1, y.2.1, y.2.2.1, y.2.2.2.1, y.2.2.2.2.1, y.2.2.2.2.2.1, y.2.2.2.2.2.2.1, y.2.2.2.2.2.2.2.1, y.2.2.2.2.2.2.2.2.2.2.1, y.2.2.2.2.2.2.2.2.1⟩
structure apL(pp:Int×List Ins×Unit->Bool)(ff:Int×List Ins×Unit->Int×Int×Int×Int×Int×Int×List IOp×Unit):Prop where
 hp:∀pc l,l.length<1000000000->pp (pc,l,())=true
 hf:∀pc l,l.length<1000000000->ff (pc,l,())=bk7 (lower pc l)
structure aqN(pp:Blk×bL×Unit->Bool)(ff:Blk×bL×Unit->Int×Int×Bool×Bool×Int×Int×Bool×List Int×List Int×List Int×List Int×Unit):Prop where
 hp:∀b m,b.ops.length<1000000000->MSh m->m.outs.length<900000000->pp (b,m,())=true
 hf:∀b m,b.ops.length<1000000000->MSh m->m.outs.length<900000000->ff (b,m,())=mR (amr b m)
structure aqO(pp:bL×bL×Unit->Bool)(ff:bL×bL×Unit->Bool×Unit):Prop where
 hp:∀a b,MSh a->pp (a,b,())=true
 hf:∀a b,MSh a->ff (a,b,())=(bp (a=b),())
structure aqP(pp:List Int×Unit->Bool)(ff:List Int×Unit->Int×List Ins×Unit):Prop where
 hp:∀c,By c->c.length<1000000000->pp (c,())=true
 hf:∀c,By c->c.length<1000000000->(ff (c,())).2.1.length<1000
structure aqQ(pp:List Int×Unit->Bool)(ff:List Int×Unit->Blk×Int×List Int×Int×Bool×Bool×Int×List Int×Int×List Int×List Int×Unit):Prop where
 hp:∀c,By c->c.length<1000000000->pp (c,())=true
 hf:∀c,By c->c.length<1000000000->MSh (mD (ff (c,())))/\(mD (ff (c,()))).outs.length<800000000/\(ff (c,())).1.ops.length<1000000
structure aqR(pp:Int×Int×Bool×Bool×Int×List Int×Int×Int×List Int×List Int×List Int×Unit->Bool)(ff:Int×Int×Bool×Bool×Int×List Int×Int×Int×List Int×List Int×List Int×Unit->Int×Int×Bool×Bool×Int×List Int×Int×List Int×List Int×List Int×Unit):Prop where
 hp:∀(m:bL) (n:Int),(0<=m.count/\m.count<=1000000)->pp (m.pc,m.save,m.nA,m.waits,m.halt,m.ins,m.count,n,m.regs,m.mem,m.outs,())=true
 hf:∀(m:bL) (n:Int),(0<=m.count/\m.count<=1000000)->ff (m.pc,m.save,m.nA,m.waits,m.halt,m.ins,m.count,n,m.regs,m.mem,m.outs,())=mB {m with pc:=n%65536,count:=m.count+1}
def IR:(∀i:Ins,fJ .ins 0 i=i.op)/\(∀i:Ins,fJ .ins 1 i=i.d)/\(∀i:Ins,fJ .ins 2 i=i.a)/\(∀i:Ins,fJ .ins 3 i=i.k):=⟨λ_=>rfl,λ_=>rfl,λ_=>rfl,λ_=>rfl⟩
structure aqS(pp:Int×Int×Bool×Bool×Int×List Int×Int×Int×List Int×List Int×List Int×Unit->Bool)(ff:Int×Int×Bool×Bool×Int×List Int×Int×Int×List Int×List Int×List Int×Unit->Int×Int×Bool×Bool×Int×List Int×Int×List Int×List Int×List Int×Unit):Prop where
 hp:∀(m:bL) (h:Int),pp (m.pc,m.save,m.nA,m.waits,m.halt,m.ins,m.count,h,m.regs,m.mem,m.outs,())=true
 hf:∀(m:bL) (h:Int),ff (m.pc,m.save,m.nA,m.waits,m.halt,m.ins,m.count,h,m.regs,m.mem,m.outs,())=mB {m with halt:=h}
structure aqT(pp:Int×Int×Bool×Bool×Int×List Int×Int×Int×Int×List Int×List Int×List Int×Unit->Bool)(ff:Int×Int×Bool×Bool×Int×List Int×Int×Int×Int×List Int×List Int×List Int×Unit->Int×Int×Bool×Bool×Int×List Int×Int×List Int×List Int×List Int×Unit):Prop where
 hp:∀(m:bL) (d v:Int),MOK m->0<=d->d<=3->pp (m.pc,m.save,m.nA,m.waits,m.halt,m.ins,m.count,d,v,m.regs,m.mem,m.outs,())=true
 hf:∀(m:bL) (d v:Int),MOK m->0<=d->d<=3->ff (m.pc,m.save,m.nA,m.waits,m.halt,m.ins,m.count,d,v,m.regs,m.mem,m.outs,())=mB {m with regs:=m.regs.set d.toNat v,pc:=(m.pc+1)%65536,count:=m.count+1}
def fm(i:Ins):Bool:=if i.op=0 then decide (i.d=0)&&decide (i.a=0)&&decide (i.k<=3)else if i.op=1 then decide (i.a=0)else if i.op=2 then decide (i.k=0)else if 3<=i.op/\i.op<=7 then decide (i.k<4)else if i.op=8 then decide (i.k<16)else if i.op=13 then decide (i.d=0)&&decide (i.k=0)else if i.op=14\/i.op=15 then decide (i.a=0)&&decide (i.k=0)else true
def apM(b:Bool):bp (b=true)=b:=by
 cases b with
 | true=>exact aW rfl
 | false=>exact aY (by decide)
def ag7(i:Ins):(inB i.op 0 15&&inB i.d 0 3&&inB i.a 0 3&&inB i.k 0 255&&fm i)=bp (dK i):=by
 have h:((0<=i.op/\i.op<=15)/\(0<=i.d/\i.d<=3)/\(0<=i.a/\i.a<=3)/\(0<=i.k/\i.k<=255)/\fm i=true)↔dK i:=by
  unfold dK fm;split
  .simp only [Bool.and_eq_true,decide_eq_true_eq];omega
  split
  .simp only [decide_eq_true_eq];omega
  split
  .simp only [decide_eq_true_eq];omega
  split
  .simp only [decide_eq_true_eq];omega
  split
  .simp only [decide_eq_true_eq];omega
  split
  .simp only [Bool.and_eq_true,decide_eq_true_eq];omega
  split
  .simp only [Bool.and_eq_true,decide_eq_true_eq];omega
  .simp only [eq_self,and_true];omega
 rw [<-kM h];simp only [Ik,kL,Bool.and_assoc,apM]
def tZ(i:Ins):Ma.F () (i,()) (λy=>y=(fm i,())):=by
 dsimp only [Ma,gm];rcases(by omega:(i.op=0\/i.op=1\/i.op=2\/i.op=3\/i.op=4\/i.op=5\/i.op=6\/i.op=7\/i.op=8\/i.op=13\/i.op=14\/i.op=15)\/(¬(0<=i.op/\i.op<=8)/\¬(13<=i.op/\i.op<=15)))with(e | e | e | e | e | e | e | e | e | e | e | e) | ⟨n1,n2⟩
 case inr=>
  have n:∀z:Int,(0<=z/\z<=8)\/(13<=z/\z<=15)->¬i.op=z:=λz g q=>by omega
  have n3:¬(3<=i.op/\i.op<=7):=λq=>by omega
  simp (disch:=omega) only [RR,IR,n];unfold fm;simp (disch:=omega) only [n,n3,if_false,or_self]
 all_goals simp (disch:=omega) only [RR,IR,e,Int.reduceEq]
 all_goals unfold fm
 all_goals simp [e]
def EA{p1 f1}(U1:Y1 p1 f1){p2:Ins×Unit->Bool}{f2:Ins×Unit->Bool×Unit}(hp2:∀i,p2 (i,())=true)(hf2:∀i,f2 (i,())=(fm i,()))(i:Ins):Mc.F (p1,f1,p2,f2,()) (i,()) (λy=>y=(bp (dK i),())):=by
 dsimp only [Mc,gm];simp (disch:=omega) only [RR,IR,U1.hp,U1.hf,hp2,hf2];rw [ag7]
noncomputable def tkI (w:Int):Int×Int×Int×Int×Bool×Unit:=if bp (Wo w/\dK (iY w))=true then((iY w).op,(iY w).d,(iY w).a,(iY w).k,true,())else(0,0,0,0,false,())
theorem ag8{p1 f1 p2 f2}(U1:Yl p1 f1)(U2:Y9 p2 f2)(w:Int):Md.F (p1,f1,p2,f2,()) (w,()) (λy=>y=tkI w):=by
 dsimp only [Md,gm];simp (disch:=omega) only [RR,U1.hp,U1.hf,U2.hp,U2.hf,Ik];by_cases h:Wo w
 .obtain⟨w0,w1⟩:=id h;have e:∀x y z u:Int,Co.mk .ins (x,y,z,u,())=⟨x,y,z,u⟩:=λ_ _ _ _=>rfl
  have q:∀n:Int,0<n->0<=w/n/\w/n<=65535:=λn hn=>⟨Int.ediv_nonneg w0 ah,Int.le_trans (Int.ediv_le_self _ w0) w1⟩
  have q1:=q 4096 (by decide);have q2:=q 1024 (by decide);have q3:=q 256 (by decide);rw [aW (show 0<=w/\w<=65535 from h)];simp (disch:=omega) only [RR,e,Int.tdiv_eq_ediv_of_nonneg,Int.tmod_eq_emod_of_nonneg];have ed:(⟨w/4096,w/1024%4,w/256%4,w%256⟩:Ins)=iY w:=rfl;unfold tkI;by_cases k:dK (iY w)
  .rw [ed,aW k,aW ⟨h,k⟩];simp;rfl
  .rw [ed,aY k,aY (λg=>k g.2)];simp
 .rw [aY (show¬(0<=w/\w<=65535)from h)];unfold tkI;rw [aY (λg=>h g.1)];simp
noncomputable def amF (i:Ins):Int:=if bp (dK i)=true then ag3 i else 0
structure aqU(pp:Ins×Unit->Bool)(ff:Ins×Unit->Int×Unit):Prop where
 hp:∀i,pp (i,())=true
 hf:∀i,ff (i,())=(amF i,())
noncomputable def Il (w i:List Int):bL:=if bp (w.length<=64/\Wos w/\Wos i)=true then⟨[0,0,0,0],0,w++List.replicate (64-w.length) 0,0,false,false,0,i,[],0⟩else ace
def ag9{m:bL}(h:MOK m){i:Ins}(hi:dK i):Wo (nxt m i):=by
 obtain⟨_,_,_,k0,_,_,_,_,_,r9,_⟩:=hi;unfold nxt;split
 .exact h.sv
 split
 .rename_i c;exact⟨k0,by have:=r9 ah;omega⟩
 split
 .exact h.rw.at _
 .unfold Wo;omega
def nW{m:bL}(h:MOK m){i:Ins}(hi:dK i)(c:m.count<1000000):MOK (exec m i):=by
 unfold exec;split
 .exact {h with ha:=⟨show(0:Int)<=3 by decide,show(3:Int)<=4 by decide⟩}
 .have:=h.ct;exact {ag6 h hi with pc:=ag9 h hi,ct:=⟨show 0<=m.count+1 by omega,show m.count+1<=1000000 by omega⟩}
noncomputable def stS (m:bL) (b:Bool):bL:=if bp (MOK m)=true then(if m.halt≠0\/m.count=1000000 then m else stepM m b)else ace
structure amG(pp:Int×Unit->Bool)(ff:Int×Unit->Int×Int×Int×Int×Bool×Unit):Prop where
 hp:∀w,pp (w,())=true
 hf:∀w,ff (w,())=tkI w
noncomputable def aha (q:List Int):Nat->bL->bL
 | 0,m=>m
 | k+1,m=>if m.halt=0/\m.count<1000000 then aha q k (stepM m (bp (m.count∈q)))else m
noncomputable def Gn (q:List Int) (n:Int) (m:bL):bL:=if bp (MOK m/\n<=400)=true then aha q n.toNat m else ace
structure aqV(pp:bL×Bool×Unit->Bool)(ff:bL×Bool×Unit->Int×Int×Bool×Bool×Int×List Int×Int×List Int×List Int×List Int×Unit):Prop where
 hp:∀m b,MSh m->m.outs.length<900000000->pp (m,b,())=true
 hf:∀m b,MSh m->m.outs.length<900000000->ff (m,b,())=mB (stS m b)
structure aqW(pp:List Int×Int×Unit->Bool)(ff:List Int×Int×Unit->Bool×Unit):Prop where
 hp:∀l n,l.length<1000000000->pp (l,n,())=true
 hf:∀l n,l.length<1000000000->ff (l,n,())=(bp (n∈l),())
structure ImD(b:List Int)(p:Int)(y:List Int×Int×List Int×Unit):Prop where
 b:y.1=b
 lo:p<=y.2.1
 hi:y.2.1<=p+8000
 len:y.2.2.1.length<=64
 w:Wos y.2.2.1
structure aqX(pp:List Ins×Unit->Bool)(ff:List Ins×Unit->List Int×Unit):Prop where
 hp:∀l,l.length<1000000->pp (l,())=true
 hf:∀l,l.length<1000000->ff (l,())=(l.map amF,())
abbrev YMc:=Int×Int×Bool×Bool×Int×List Int×Int×List Int×Int×List Int×List Int×List Int×Unit
abbrev mE(y : YMc) : bL := ⟨y.2.2.2.2.2.2.2.2.2.1, y.1, y.2.2.2.2.2.2.2.2.2.2.1, y.2.1, y.2.2.1, y.2.2.2.1, y.2.2.2.2.1, y.2.2.2.2.2.1, y.2.2.2.2.2.2.2.2.2.2.2.1, y.2.2.2.2.2.2.1⟩
structure McD(b:List Int)(p:Int)(y:YMc):Prop where
 b:y.2.2.2.2.2.2.2.1=b
 lo:p<=y.2.2.2.2.2.2.2.2.1
 hi:y.2.2.2.2.2.2.2.2.1<=p+9500
 ok:MOK (mE y)
 i:(mE y).ins.length<=10
 o:(mE y).outs.length<=100
structure aqY(pp:List Int×List Int×Unit->Bool)(ff:List Int×List Int×Unit->Int×Int×Bool×Bool×Int×Int×List Int×List Int×List Int×Unit):Prop where
 hp:∀w i,w.length<1000000->i.length<1000000->pp (w,i,())=true
 hf:∀w i,w.length<1000000->i.length<1000000->ff (w,i,())=((Il w i).pc,(Il w i).save,(Il w i).nA,(Il w i).waits,(Il w i).halt,(Il w i).count,(Il w i).regs,(Il w i).mem,(Il w i).ins,())
structure aqZ(pp:List Int×Int×Unit->Bool)(ff:List Int×Int×Unit->List Int×Int×List Int×Unit):Prop where
 hp:∀b p,Bt b->0<=p->p<600000000->pp (b,p,())=true
 hf:∀b p,Bt b->0<=p->p<600000000->ImD b p (ff (b,p,()))
structure aq0(pp:List Int×Int×Unit->Bool)(ff:List Int×Int×Unit->List Int×Int×List Int×Unit):Prop where
 hp:∀b p,Bt b->0<=p->p<900000000->pp (b,p,())=true
 hf:∀b p,Bt b->0<=p->p<900000000->(ff (b,p,())).1=b/\p<=(ff (b,p,())).2.1/\(ff (b,p,())).2.1<=p+10/\(ff (b,p,())).2.2.1.length<=5
structure aq1(pp:Int×List Int×Int×Unit->Bool)(ff:Int×List Int×Int×Unit->List Int×Int×List Int×Unit):Prop where
 hp:∀n b p,Bt b->(0<=n/\n<=100)->0<=p->p<800000000->pp (n,b,p,())=true
 hf:∀n b p,Bt b->(0<=n/\n<=100)->0<=p->p<800000000->(ff (n,b,p,())).1=b/\p<=(ff (n,b,p,())).2.1/\(ff (n,b,p,())).2.1<=p+300/\(ff (n,b,p,())).2.2.1.length=n/\wOK (ff (n,b,p,())).2.2.1
abbrev YMo:=Int×List Int×Int×Bool×Bool×Int×List Int×Int×List Int×Int×List Int×List Int×Unit
structure MoD(b:List Int)(p:Int)(y:YMo):Prop where
 b:y.2.2.2.2.2.2.2.2.1=b
 lo:p<=y.2.2.2.2.2.2.2.2.2.1
 hi:y.2.2.2.2.2.2.2.2.2.1<=p+9600
 r:y.2.2.2.2.2.2.2.2.2.2.1.length<=10
 m:y.2.1.length<=64
 i:y.2.2.2.2.2.2.1.length<=10
 o:y.2.2.2.2.2.2.2.2.2.2.2.1.length<=110
structure aq2(pp:List Int×Int×Unit->Bool)(ff:List Int×Int×Unit->YMc):Prop where
 hp:∀b p,Bt b->0<=p->p<500000000->pp (b,p,())=true
 hf:∀b p,Bt b->0<=p->p<500000000->McD b p (ff (b,p,()))
structure MaD(b:List Int)(p:Int)(y:YMc):Prop where
 b:y.2.2.2.2.2.2.2.1=b
 lo:p<=y.2.2.2.2.2.2.2.2.1
 hi:y.2.2.2.2.2.2.2.2.1<=p+9700
 r:(mE y).regs.length=4
 m:(mE y).mem.length=64
 i:(mE y).ins.length<=10
 o:(mE y).outs.length<=100
def vQ(a1 a2 a3 a4 a5 a6:Int)(o:IOp)(ops:List IOp)(h:ops.length<1000000):Nu.F () (a1,a2,a3,a4,a5,a6,o,ops,()) (λy=>y=(a1,a2,a3,a4,a5,a6,(ops.length:Int),ops++ [o],())):=by
 dsimp only [Nu,gm];simp (disch:=omega) only [RR,List.length_append,List.length_cons,List.length_nil];rw [show((ops.length+(0+1):Nat):Int)-1=ops.length by omega];exact⟨ah,rfl⟩
structure Yr(pp:Int×Int×Int×Int×Int×Int×IOp×List IOp×Unit->Bool)(ff:Int×Int×Int×Int×Int×Int×IOp×List IOp×Unit->Int×Int×Int×Int×Int×Int×Int×List IOp×Unit):Prop where
 hp:∀(a1 a2 a3 a4 a5 a6:Int) (o:IOp) (ops:List IOp),ops.length<1000000->pp (a1,a2,a3,a4,a5,a6,o,ops,())=true
 hf:∀(a1 a2 a3 a4 a5 a6:Int) (o:IOp) (ops:List IOp),ops.length<1000000->ff (a1,a2,a3,a4,a5,a6,o,ops,())=(a1,a2,a3,a4,a5,a6,(ops.length:Int),ops++ [o],())
def vR{p1 f1}(U1:Yr p1 f1)(a1 a2 a3 a4 a5 a6 k:Int)(ops:List IOp)(h:ops.length<1000000):Nw.F (p1,f1,()) (a1,a2,a3,a4,a5,a6,k,ops,()) (λy=>y=(a1,a2,a3,a4,a5,a6,(ops.length:Int),ops++ [⟨2,0,0,k,0⟩],())):=by
 dsimp only [Nw,gm];simp (disch:=omega) only [RR,U1.hp,U1.hf,h];rfl
def vS{p1 f1}(U1:Yr p1 f1)(a1 a2 a3 a4 a5 a6 k x:Int)(ops:List IOp)(h:ops.length<1000000):Nv.F (p1,f1,()) (a1,a2,a3,a4,a5,a6,k,x,ops,()) (λy=>y=(a1,a2,a3,a4,a5,a6,ops++ [⟨8,x,0,k,0⟩],())):=by
 dsimp only [Nv,gm];simp (disch:=omega) only [RR,U1.hp,U1.hf,h];rfl
def n1a(l:List IOp)(o:IOp):((l++ [o]).length:Int)=l.length+1:=by rw [List.length_append];rfl
structure ach(pp:Int×Int×Int×Int×Int×Int×Int×List IOp×Unit->Bool)(ff:Int×Int×Int×Int×Int×Int×Int×List IOp×Unit->Int×Int×Int×Int×Int×Int×Int×List IOp×Unit):Prop where
 hp:∀(a1 a2 a3 a4 a5 a6 k:Int) (ops:List IOp),ops.length<1000000->pp (a1,a2,a3,a4,a5,a6,k,ops,())=true
 hf:∀(a1 a2 a3 a4 a5 a6 k:Int) (ops:List IOp),ops.length<1000000->ff (a1,a2,a3,a4,a5,a6,k,ops,())=(a1,a2,a3,a4,a5,a6,(ops.length:Int),ops++ [⟨2,0,0,k,0⟩],())
def Aq{p1 f1 p2 f2}(U1:ach p1 f1)(U2:Yr p2 f2)(a1 a2 a3 a4 a5 a6 k a:Int)(o:IOp)(ops:List IOp)(h:ops.length<990000):Ny.F (p1,f1,p2,f2,()) (a1,a2,a3,a4,a5,a6,k,a,o,ops,()) (λy=>y=(a1,a2,a3,a4,a5,a6,(ops.length:Int)+2,ops++ [⟨2,0,0,a,0⟩,o,⟨3,ops.length,ops.length+1,k,0⟩],())):=by
 have m1:∀(l:List IOp) (o:IOp),l.length<990000->(l++ [o]).length<1000000:=λl o h=>by rw [List.length_append];simp only [List.length_cons,List.length_nil];omega
 have m2:∀(l:List IOp) (o o2:IOp),l.length<990000->((l++ [o])++ [o2]).length<1000000:=λl o o2 h=>by simp only [List.length_append,List.length_cons,List.length_nil];omega
 dsimp only [Ny,gm];simp (disch:=first | omega | (apply m1;omega) | (apply m2;omega)) only [RR,U1.hp,U1.hf,U2.hp,U2.hf,n1a];simp;rfl
structure amH(pp:Int×Int×Int×Int×Int×Int×Int×Int×IOp×List IOp×Unit->Bool)(ff:Int×Int×Int×Int×Int×Int×Int×Int×IOp×List IOp×Unit->Int×Int×Int×Int×Int×Int×Int×List IOp×Unit):Prop where
 hp:∀(a1 a2 a3 a4 a5 a6 k a:Int) (o:IOp) (ops:List IOp),ops.length<990000->pp (a1,a2,a3,a4,a5,a6,k,a,o,ops,())=true
 hf:∀(a1 a2 a3 a4 a5 a6 k a:Int) (o:IOp) (ops:List IOp),ops.length<990000->ff (a1,a2,a3,a4,a5,a6,k,a,o,ops,())=(a1,a2,a3,a4,a5,a6,(ops.length:Int)+2,ops++ [⟨2,0,0,a,0⟩,o,⟨3,ops.length,ops.length+1,k,0⟩],())
structure amI(pp:Int×Int×Int×Int×Int×Int×Int×Int×List IOp×Unit->Bool)(ff:Int×Int×Int×Int×Int×Int×Int×Int×List IOp×Unit->Int×Int×Int×Int×Int×Int×List IOp×Unit):Prop where
 hp:∀(a1 a2 a3 a4 a5 a6 k x:Int) (ops:List IOp),ops.length<1000000->pp (a1,a2,a3,a4,a5,a6,k,x,ops,())=true
 hf:∀(a1 a2 a3 a4 a5 a6 k x:Int) (ops:List IOp),ops.length<1000000->ff (a1,a2,a3,a4,a5,a6,k,x,ops,())=(a1,a2,a3,a4,a5,a6,ops++ [⟨8,x,0,k,0⟩],())
def BD{p1 f1 p2 f2 p3 f3 p4 f4}(U1:ach p1 f1)(U2:Yr p2 f2)(U3:amH p3 f3)(U4:amI p4 f4)(a1 a2 a3 a4 a5 a6:Int)(i:Ins)(n:Int)(ops:List IOp)(hi:i.op=9\/i.op=10)(h:ops.length<950000):NA.F (p1,f1,p2,f2,p3,f3,p4,f4,()) (a1,a2,a3,a4,a5,a6,i,n,ops,()) (λy=>y=(a1,a2,a3,a4,a5,a6,ops++fU n ops.length i,())):=by
 have m3:∀(l:List IOp) (o1 o2 o3:IOp),l.length<950000->(l++ [o1,o2,o3]).length<1000000:=λl o1 o2 o3 h=>by simp only [List.length_append,List.length_cons,List.length_nil];omega
 have m4:∀(l:List IOp) (o1 o2 o3 o4:IOp),l.length<950000->((l++ [o1,o2,o3])++ [o4]).length<1000000:=λl o1 o2 o3 o4 h=>by simp only [List.length_append,List.length_cons,List.length_nil];omega
 have n3:∀(l:List IOp) (o1 o2 o3:IOp),((l++ [o1,o2,o3]).length:Int)=l.length+3:=λl o1 o2 o3=>by rw [List.length_append];rfl
 dsimp only [NA,gm];simp (disch:=first | omega | (apply m3;omega) | (apply m4;omega)) only [RR,IR,U1.hp,U1.hf,U2.hp,U2.hf,U3.hp,U3.hf,U4.hp,U4.hf,n3];unfold fU;refine⟨λe=> ?_,λe=> ?_⟩
 .rw [if_neg ah,if_neg ah,if_neg ah,if_pos e];simp;rfl
 .rw [if_neg ah,if_neg ah,if_neg ah,if_neg ah,if_pos ah];simp;rfl
def rC(k:Int)(k0:0<=k)(k1:k<=15):Nz.F () (k,()) (λy=>y=(2^k.toNat,())):=by
 dsimp only [Nz,gm];simp (disch:=omega) only [RR];refine ak (λ(y:Int×Int×Int×Unit)=>y.1=k/\0<=y.2.2.1/\y.2.2.1<=k/\y.2.1=2^y.2.2.1.toNat) (λy=>(k-y.2.2.1).toNat) ⟨rfl,by simp,k0,rfl⟩ ?_;rintro⟨(z:Int),(a:Int),(i:Int),⟨⟩⟩ hI;dsimp only at hI ⊢;obtain⟨rfl,j1,j2,rfl⟩:=hI;have pw:=OP j1 ah;unfold Wo at pw;simp (disch:=omega) only [RR];refine⟨λg=>⟨⟨ah,ah,?_⟩,ah⟩,λg=>by rw [show i=z by omega]⟩;rw [show(i+1).toNat=i.toNat+1 by omega,Int.pow_succ];omega
def Ec{p1 f1}(U1:ach p1 f1)(B:Blk)(i:Ins)(hi:11<=i.op/\i.op<=13)(h:B.ops.length<950000):NC.F (p1,f1,()) (B.pc,B.len,B.fin,B.x,B.y,B.k,i,B.ops,()) (λy=>y=bk7 (eZ 0 B i)):=by
 have m1:∀(l:List IOp) (o:IOp),l.length<950000->(l++ [o]).length<1000000:=λl o h=>by rw [List.length_append];simp only [List.length_cons,List.length_nil];omega
 dsimp only [NC,gm];unfold eZ fU;rcases(by omega:i.op=11\/i.op=12\/i.op=13)with e | e | e
 all_goals
  simp (disch:=first | omega | (apply m1;omega)) only [RR,IR,e,U1.hp,U1.hf,n1a,Int.reduceEq,or_self,true_or,or_true]
  try simp
def EB{p1 f1 p3 f3 p5 f5 p6 f6}(U1:ach p1 f1){p2:Int×Int×Int×Int×Int×Int×Ins×List IOp×Unit->Bool}{f2:Int×Int×Int×Int×Int×Int×Ins×List IOp×Unit->Int×Int×Int×Int×Int×Int×List IOp×Unit}(hp2:∀(B:Blk) (i:Ins),(11<=i.op/\i.op<=13)->B.ops.length<950000->p2 (B.pc,B.len,B.fin,B.x,B.y,B.k,i,B.ops,())=true)(hf2:∀(B:Blk) (i:Ins),(11<=i.op/\i.op<=13)->B.ops.length<950000->f2 (B.pc,B.len,B.fin,B.x,B.y,B.k,i,B.ops,())=bk7 (eZ 0 B i))(U3:Yr p3 f3){p4:Int×Int×Int×Int×Int×Int×Ins×Int×List IOp×Unit->Bool}{f4:Int×Int×Int×Int×Int×Int×Ins×Int×List IOp×Unit->Int×Int×Int×Int×Int×Int×List IOp×Unit}(hp4:∀(a1 a2 a3 a4 a5 a6:Int) (i:Ins) (n:Int) (ops:List IOp),(i.op=9\/i.op=10)->ops.length<950000->p4 (a1,a2,a3,a4,a5,a6,i,n,ops,())=true)(hf4:∀(a1 a2 a3 a4 a5 a6:Int) (i:Ins) (n:Int) (ops:List IOp),(i.op=9\/i.op=10)->ops.length<950000->f4 (a1,a2,a3,a4,a5,a6,i,n,ops,())=(a1,a2,a3,a4,a5,a6,ops++fU n ops.length i,()))(U5:amH p5 f5)(U6:amI p6 f6){p7:Int×Unit->Bool}{f7:Int×Unit->Int×Unit}(hp7:∀k,0<=k->k<=15->p7 (k,())=true)(hf7:∀k,0<=k->k<=15->f7 (k,())=(2^k.toNat,()))(B:Blk)(i:Ins)(n:Int)(hi:dK i)(h0:i.op≠0)(h:B.ops.length<900000):ND.F (p1,f1,p2,f2,p3,f3,p4,f4,p5,f5,p6,f6,p7,f7,()) (B.pc,B.len,B.fin,B.x,B.y,B.k,i,n,B.ops,()) (λy=>y=bk7 (eZ n B i)):=by
 have m1:∀(l:List IOp) (o:IOp),l.length<950000->(l++ [o]).length<1000000:=λl o h=>by rw [List.length_append];simp only [List.length_cons,List.length_nil];omega
 have m3:∀(l:List IOp) (o1 o2 o3:IOp),l.length<950000->(l++ [o1,o2,o3]).length<1000000:=λl o1 o2 o3 h=>by simp only [List.length_append,List.length_cons,List.length_nil];omega
 obtain⟨⟨o0,o1⟩,_,_,k0,_,_,_,r3,r8,_⟩:=hi;have P2:=hp2 B i;have H2:=hf2 B i;dsimp only [ND,gm];rcases(by omega:i.op=1\/i.op=2\/i.op=8\/(i.op=9\/i.op=10)\/i.op=14\/i.op=15\/(i.op=11\/i.op=12\/i.op=13)\/(3<=i.op/\i.op<=7))with e | e | e | e | e | e | e | e
 case inr.inr.inr.inl=>
  have e':eZ n B i={B with ops:=B.ops++fU n B.ops.length i}:=by unfold eZ;rw [if_neg ah,if_neg ah]
  rw [e'];have P4:=hp4 B.pc B.len B.fin B.x B.y B.k i n B.ops e ah;have H4:=hf4 B.pc B.len B.fin B.x B.y B.k i n B.ops e ah;rcases e with e | e<;>simp (disch:=omega) only [RR,IR,e,Int.reduceEq,P4,H4,or_true,true_or]
 case inr.inr.inr.inr.inr.inr.inl=>
  have e':eZ n B i=eZ 0 B i:=by unfold eZ fU;rcases e with e | e | e<;>simp [e]
  rw [e'];have P2:=P2 ah ah;have H2:=H2 ah ah;rcases e with e | e | e<;>simp (disch:=omega) only [RR,IR,e,Int.reduceEq,P2,H2,or_true,true_or]
 case inr.inr.inr.inr.inr.inr.inr=>
  have n0:∀z:Int,z<3\/7<z->¬i.op=z:=λz g q=>by omega
  have e':eZ n B i={B with ops:=B.ops++ [⟨2,0,0,i.a,0⟩,⟨2,0,0,i.k,0⟩,⟨3,B.ops.length,B.ops.length+1,i.op-2,0⟩,⟨8,B.ops.length+2,0,i.d,0⟩]}:=by
   unfold eZ fU;simp (disch:=omega) only [n0,if_false,or_self]
  rw [e'];simp (disch:=first | omega | (apply m3;omega)) only [RR,IR,n0,U5.hp,U5.hf,U6.hp,U6.hf,or_self];simp;rw [show i.op-3+1=i.op-2 by omega];rfl
 all_goals
  unfold eZ fU;simp (disch:=first | omega | (apply m1;omega) | (apply m3;omega)) only [RR,IR,e,Int.reduceEq,U1.hp,U1.hf,U3.hp,U3.hf,U5.hp,U5.hf,U6.hp,U6.hf,hp7 i.k k0,hf7 i.k k0,r8,n1a,or_self,true_and,and_true]
  try simp
  try rfl
def rD(a:Int):Mf.F () (a,()) (λy=>y=(inB a 11 13,())):=by
 dsimp only [Mf,gm];refine Prod.ext ?_ rfl;dsimp only;rw [Bool.eq_iff_iff,bM];simp [Xo];omega
def BF{p1 f1 p2 f2}(U1:ag5 p1 f1)(U2:Yl p2 f2)(i:Ins):Mg.F (p1,f1,p2,f2,()) (i,()) (λy=>y=(bp (dK i)&& !decide (i.op=0)&& !inB i.op 11 13,())):=by
 dsimp only [Mg,gm];simp (disch:=omega) only [RR,IR,U1.hp,U1.hf,U2.hp,U2.hf]
def EC{p1 f1 p2 f2 p3 f3}(U1:ag5 p1 f1)(U2:Yl p2 f2)(U3:Y1 p3 f3){p4:Ins×Unit->Bool}{f4:Ins×Unit->Bool×Unit}(hp4:∀i,p4 (i,())=true)(hf4:∀i,f4 (i,())=(bp (dK i)&& !decide (i.op=0)&& !inB i.op 11 13,()))(pc:Int)(l:List Ins)(hl:(l.length:Int)<1000000000):Mh.F (p1,f1,p2,f2,p3,f3,p4,f4,()) (pc,l,()) (λy=>y=(bp (qb pc l),())):=by
 dsimp only [Mh,gm];simp (disch:=omega) only [RR,IR,U1.hp,U1.hf,U2.hp,U2.hf,U3.hp,U3.hf,hp4,hf4,bM,jU];refine⟨λh=> ?_,λh=> ?_⟩
 .rw [aY];intro g;have a:=g.ln;have c:=g.pc;omega
 refine ak (λ(y:List Ins×Int×Unit)=>y.1=l/\0<=y.2.1/\y.2.1<=l.length/\∀j:Nat,j<y.2.1->dK (l.getD j default)/\(l.getD j default).op≠0/\(11<=(l.getD j default).op/\(l.getD j default).op<=13->j+1=l.length)) (λy=>(l.length-y.2.1).toNat) ⟨rfl,by simp,by simp,λj hj=>absurd hj (by dsimp only;omega)⟩ ?_;rintro⟨(l:List Ins),(i:Int),⟨⟩⟩ hI;dsimp only at hI ⊢;obtain⟨rfl,h1,h2,h3⟩:=hI;by_cases g:i<l.length
 .have nx:dK ((l).getD (i).toNat default)/\(((l).getD (i).toNat default)).op≠0/\(11<=(((l).getD (i).toNat default)).op/\(((l).getD (i).toNat default)).op<=13->i+1=l.length)->∀j:Nat,(j:Int)<i+1->dK (l.getD j default)/\(l.getD j default).op≠0/\(11<=(l.getD j default).op/\(l.getD j default).op<=13->j+1=l.length):=λq j hj=>by
   by_cases c:(j:Int)<i
   .exact h3 j c
   .obtain rfl:j=i.toNat:=by omega
    exact⟨q.1,q.2.1,λz=>by have:=q.2.2 z;omega⟩
  have bad:¬(dK ((l).getD (i).toNat default)/\(((l).getD (i).toNat default)).op≠0/\(11<=(((l).getD (i).toNat default)).op/\(((l).getD (i).toNat default)).op<=13->i+1=l.length))->bp (qb pc l)=false:=λq=>aY λv=>q (by
   have:=v.ok i.toNat ah;exact⟨this.1,this.2.1,λz=>by have:=this.2.2 z;omega⟩)
  have gi:(i< (l.length:Int)-1)↔¬(i+1=l.length):=by omega
  simp (disch:=omega) only [RR,IR,U1.hp,U1.hf,U2.hp,U2.hf,hp4,hf4,g];refine⟨h1,Or.inr h1,Or.inr h1,λe=> ?_,λe=>⟨⟨ah,ah,nx ?_⟩,ah⟩⟩
  .rw [bad];rintro⟨q1,q2,q3⟩;rw [aW q1,decide_eq_false q2]at e;have e1:=bM.1 (show inB (((l).getD (i).toNat default)).op 11 13=true by simpa using e.1);have:=q3 e1;rcases e.2 with(z | z) | z
   .omega
   .cases z
   .exact z e1
  .have a:dK ((l).getD (i).toNat default):=Classical.byContradiction λn=>by rw [aY n]at e;simp at e
   refine⟨a,λz=> ?_,λq=> ?_⟩
   .rw [z]at e;simp [inB]at e
   .rw [aW a,bM.2 q]at e;simp at e;omega
 .simp (disch:=omega) only [RR,g];rw [aW ⟨ah,ah,λj hj=>h3 j ah⟩]
structure amJ(pp:Int×List Ins×Unit->Bool)(ff:Int×List Ins×Unit->Bool×Unit):Prop where
 hp:∀(pc:Int) (l:List Ins),(l.length:Int)<1000000000->pp (pc,l,())=true
 hf:∀(pc:Int) (l:List Ins),(l.length:Int)<1000000000->ff (pc,l,())=(bp (qb pc l),())
theorem Ar{p1 f1}(U1:amJ p1 f1){p2:Int×Int×Int×Int×Int×Int×Ins×Int×List IOp×Unit->Bool}{f2:Int×Int×Int×Int×Int×Int×Ins×Int×List IOp×Unit->Int×Int×Int×Int×Int×Int×List IOp×Unit}(hp2:∀(B:Blk) (i:Ins) (n:Int),dK i->i.op≠0->B.ops.length<900000->p2 (B.pc,B.len,B.fin,B.x,B.y,B.k,i,n,B.ops,())=true)(hf2:∀(B:Blk) (i:Ins) (n:Int),dK i->i.op≠0->B.ops.length<900000->f2 (B.pc,B.len,B.fin,B.x,B.y,B.k,i,n,B.ops,())=bk7 (eZ n B i))(pc:Int)(l:List Ins)(hl:(l.length:Int)<1000000000):NG.F (p1,f1,p2,f2,()) (pc,l,()) (λy=>y=bk7 (lower pc l)):=by
 dsimp only [NG,gm];simp (disch:=omega) only [RR,U1.hp pc l hl,U1.hf pc l hl,aO,gB];unfold lower;refine⟨λh=>by rw [aY h,if_neg (by decide)];rfl,λh=> ?_⟩;rw [aW h,if_pos rfl];have ln:=h.ln;have pp:=h.pc;refine ak (λ(y:List Ins×Int×Int×Int×Int×Int×Int×Int×Int×Int×Int×Int×Int×Int×List IOp×Unit)=>y.1=l/\0<=y.2.1/\y.2.1<=l.length/\y.2.2.2.2.2.2.2.2=bk7 (nD 0 (tY pc l) (l.take y.2.1.toNat))) (λy=>(l.length-y.2.1).toNat) ⟨rfl,by simp,by simp,by rw [w64 ah ah];rfl⟩ ?_;rintro⟨(l':List Ins),(i:Int),z1,z2,z3,z4,z5,z6,q1,q2,q3,q4,q5,q6,q7,⟨⟩⟩ hI;dsimp only at hI ⊢;obtain⟨rfl,h1,h2,h3⟩:=hI;generalize eB:nD 0 (tY pc l') (l'.take i.toNat)=B at h3;simp only [bk7,Prod.mk.injEq,and_true]at h3;obtain⟨rfl,rfl,rfl,rfl,rfl,rfl,rfl⟩:=h3;have bl:B.ops.length<=40:=by
  have:=yR (l'.take i.toNat) 0 (tY pc l');rw [eB]at this;have t:=List.length_take_le i.toNat l';have:(tY pc l').ops.length=0:=rfl;omega
 by_cases c:i<l'.length
 .obtain⟨o1,o2,o3⟩:=h.ok i.toNat ah;simp (disch:=omega) only [RR,c,hp2 B (((l').getD (i).toNat default)) i o1 o2 ah,hf2 B (((l').getD (i).toNat default)) i o1 o2 ah];refine⟨h1,⟨ah,ah,?_⟩,ah⟩;rw [<-bI (d:=default) h1 c rfl,vE,eB,List.length_take,show(0:Int)+((min i.toNat l'.length:Nat):Int)=i by omega]
 .rw [List.take_of_length_le ah]at eB;simp (disch:=omega) only [RR,c,eB]
def Kn(pc:Int)(l:List Ins):((lower pc l).ops.length:Int)<=5000:=by
 by_cases h:qb pc l
 .have:=(OQ h).sz;omega
 .have e:lower pc l=SF:=by unfold lower;rw [aY h,if_neg (by decide)]
  rw [e];decide
def aci{pc:Int}{l:List Ins}{y:Int×Int×Int×Int×Int×Int×List IOp×Unit}(h:y=bk7 (lower pc l)):(y.2.2.2.2.2.2.1.length:Int)<=5000:=by rw [h];exact Kn pc l
abbrev YOw:=Int×Int×Int×Int×Int×Int×Int×Int×Bool×Bool×Int×List Int×Int×List Int×Int×List IOp×List Int×List Int×List Int×Unit
structure OwD(b:List Int)(p:Int)(y:YOw):Prop where
 b:y.2.2.2.2.2.2.2.2.2.2.2.2.2.1=b
 lo:p<=y.2.2.2.2.2.2.2.2.2.2.2.2.2.2.1
 hi:y.2.2.2.2.2.2.2.2.2.2.2.2.2.2.1<=p+12000
 r:y.2.2.2.2.2.2.2.2.2.2.2.2.2.2.2.2.1.length=4
 m:y.2.2.2.2.2.2.2.2.2.2.2.2.2.2.2.2.2.1.length=64
 i:y.2.2.2.2.2.2.2.2.2.2.2.1.length<=10
 o:y.2.2.2.2.2.2.2.2.2.2.2.2.2.2.2.2.2.2.1.length<=100
 k:y.2.2.2.2.2.2.2.2.2.2.2.2.2.2.2.1.length<1000000
structure apN(pp:Int×List Ins×Unit->Bool)(ff:Int×List Ins×Unit->Int×Int×Int×Int×Int×Int×List IOp×Unit):Prop where
 hp:∀(pc:Int) (l:List Ins),(l.length:Int)<1000000000->pp (pc,l,())=true
 hf:∀(pc:Int) (l:List Ins),(l.length:Int)<1000000000->ff (pc,l,())=bk7 (lower pc l)
structure aq3(pp:Blk×List Int×Int×Unit->Bool)(ff:Blk×List Int×Int×Unit->YMc):Prop where
 hp:∀c b p,Bt b->0<=p->p<400000000->pp (c,b,p,())=true
 hf:∀c b p,Bt b->0<=p->p<400000000->MaD b p (ff (c,b,p,()))
structure aq4(pp:Int×List Int×Int×Unit->Bool)(ff:Int×List Int×Int×Unit->YMo):Prop where
 hp:∀n b p,Bt b->0<=p->p<400000000->pp (n,b,p,())=true
 hf:∀n b p,Bt b->0<=p->p<400000000->MoD b p (ff (n,b,p,()))
def adu(x:Int)(n:Nat)(hn:n<=16)(m:Int)(hm:m=2^n-1):kC .and .i64 x m=x%2^n:=by
 have h2:((2^IntKind.i64.bits:Nat):Int)=18446744073709551616:=by decide
 have p:2^n<=2^16:=Nat.pow_le_pow_right (by decide) hn;have p0:0<2^n:=Nat.pow_pos (by decide);have p16:(2:Nat)^16=65536:=by decide
 have c:((2:Int)^n)=((2^n:Nat):Int):=by simp
 have d:18446744073709551616=2^n*2^ (64-n):=by rw [<-Nat.pow_add,show n+(64-n)=64 by omega]
 rw [c]at hm ⊢;unfold kC;dsimp only;rw [BitVec.toNat_and,BitVec.toNat_ofInt,BitVec.toNat_ofInt,h2,show(m%18446744073709551616).toNat=2^n-1 by omega,Nat.and_two_pow_sub_one_eq_mod];have l:=Nat.mod_lt (x%18446744073709551616).toNat p0;rw [w64 ah ah];have e:(((x%18446744073709551616).toNat%2^n:Nat):Int)=x%18446744073709551616% ((2^n:Nat):Int):=by
  rw [Int.natCast_emod];congr 1;omega
 rw [e,Int.emod_emod_of_dvd];exact⟨((2^ (64-n):Nat):Int),by rw [<-Int.natCast_mul,<-d];rfl⟩
def OT(x:Int)(n:Nat)(hn:n<=64)(h:0<=x):gP .shr .i64 x (n:Int)=x/2^n:=by
 show x.fdiv (2^ (min (n:Int).toNat 64))=_;rw [show(n:Int).toNat=n from rfl,Nat.min_eq_left hn,Int.fdiv_eq_ediv_of_nonneg];exact Int.le_of_lt (Int.pow_pos (by decide))
theorem amK{p1 f1 p2 f2}(U1:Yl p1 f1)(U2:Y9 p2 f2)(w:Int):VN.F (p1,f1,p2,f2,()) (w,()) (λy=>y=tkI w):=by
 dsimp only [VN,gm];simp (disch:=omega) only [RR,U1.hp,U1.hf,U2.hp,U2.hf,Ik];by_cases h:Wo w
 .obtain⟨w0,w1⟩:=id h;have e:∀x y z u:Int,Co.mk .ins (x,y,z,u,())=⟨x,y,z,u⟩:=λ_ _ _ _=>rfl
  have s12:gP .shr .i64 w 12=w/4096:=OT w 12 (by decide) w0;have s10:gP .shr .i64 w 10=w/1024:=OT w 10 (by decide) w0;have s8:gP .shr .i64 w 8=w/256:=OT w 8 (by decide) w0;have m3:∀x,kC .and .i64 x 3=x%4:=λx=>adu x 2 (by decide) 3 (by decide)
  have m8:∀x,kC .and .i64 x 255=x%256:=λx=>adu x 8 (by decide) 255 (by decide)
  rw [aW (show 0<=w/\w<=65535 from h)];simp only [Hq,s12,s10,s8,m3,m8,e];have ed:(⟨w/4096,w/1024%4,w/256%4,w%256⟩:Ins)=iY w:=rfl;unfold tkI;by_cases k:dK (iY w)
  .rw [ed,aW k,aW ⟨h,k⟩];simp;rfl
  .rw [ed,aY k,aY (λg=>k g.2)];simp
 .rw [aY (show¬(0<=w/\w<=65535)from h)];unfold tkI;rw [aY (λg=>h g.1)];simp
structure PS where
 m:bL
 L:List Int
 I:List Int
 left:Bool
section
variable (T:List Atom) (r0:List Int) (pc len:Int)
def pv(s:PS):List Int:=tv r0 s.L s.I T
end
theorem Yt{α β:Type}[Inhabited α][Inhabited β]{f:α->β}(h:f default=default)(l:List α)(i:Int):(l.map f).getD i.toNat default=f (l.getD i.toNat default):=by
 rw [List.getD_eq_getElem?_getD,List.getElem?_map,List.getD_eq_getElem?_getD];cases l[i.toNat]? with
 | none=>exact h.symm
 | some x=>rfl
structure PJ(T:List Atom)(r0:List Int)(M:MS)(S:SS)(P:PS):Prop where
 lf:P.left=false
 m:P.m={M.m with regs:=r0}
 ld:(P.L.length:Int)=S.ld
 inn:(P.I.length:Int)=S.inn
 wl:wOK P.L
 wi:wOK P.I
 v:∀L I,P.L<+:L->P.I<+:I->wOK L->wOK I->S.vals.map (evF (tv r0 L I T))=M.vals
 r:∀L I,P.L<+:L->P.I<+:I->wOK L->wOK I->S.regs.map (evF (tv r0 L I T))=M.m.regs
structure MJ(b:Blk)(i:Nat)(M:MS):Prop where
 lf:M.left=false
 ln:M.vals.length=i
 wv:Wos M.vals
 ok:MOK M.m
 pc:M.m.pc=b.pc
 ha:M.m.halt=0
theorem PJ.x{T:List Atom}{r0:List Int}{M:MS}{S:SS}{P:PS}(h:PJ T r0 M S P){L I:List Int}(h1:P.L<+:L)(h2:P.I<+:I)(h3:wOK L)(h4:wOK I)(o:IOp):evF (tv r0 L I T) (xOf S o)=vx M o/\evF (tv r0 L I T) (yOf S o)=vy M o:=by
 have e:=h.v L I h1 h2 h3 h4;unfold xOf yOf vx vy;rw [<-e];constructor
 .split
  .exact(Yt (f:=evF (tv r0 L I T)) rfl S.vals o.x).symm
  .rfl
 .split
  .exact(Yt (f:=evF (tv r0 L I T)) rfl S.vals o.y).symm
  .rfl
theorem acj{s:MS}(o:IOp):(mM s o).pc=s.m.pc/\(mM s o).halt=s.m.halt/\(mM s o).count=s.m.count:=by
 unfold mM
 repeat' split
 all_goals exact⟨rfl,rfl,rfl⟩
end Go.TX.F
namespace Go.TX.F
open Go Go.AE Go.TX
noncomputable def FP:List Int->List Ins
 | []=> []
 | w::r=>if bp (Wo w/\dK (iY w))=true then iY w::FP r else []
def amL(e:Cac)(mem:List Int):Prop:=0<=e.blk.pc/\∀t:Nat,t<e.words.length->e.blk.pc+t<mem.length/\((mem).getD (e.blk.pc+t).toNat default)=e.words.getD t default
structure Yu(e:Cac):Prop where
 len:(FP e.words).length=e.words.length
 ok:qb e.blk.pc (FP e.words)
 chk:chk (lower e.blk.pc (FP e.words)) e.blk=true
structure amM(l:List Cac)(mem:List Int):Prop where
 n:l.length<=4
 r:∀e∈l,Yu e/\amL e mem
 u:l.Pairwise λa b=>a.blk.pc≠b.blk.pc
structure aqh(e:Eng):Prop where
 m:MOK e.dJ
 c:amM e.cache e.dJ.mem
 p:Q0 e.lH
structure aq5(pp:List Int×Int×Unit->Bool)(ff:List Int×Int×Unit->Int×Unit):Prop where
 hp:∀l k,pp (l,k,())=true
 hf:∀l k,ff (l,k,())=(if k<0 then 0 else XQ l k,())
structure apO(e:Ev):Prop where
 kd:4<=e.kind/\e.kind<=7
 at_:0<=e.at_/\e.at_<8
 x:aJ e.x
 y:aJ e.y
 r:∀p∈e.regs,aJ p
 rl:e.regs.length<=4
structure aq6(T:List Atom)(S:Sym)(b:Blk)(m:bL):Prop where
 t:aF T
 e:∀e∈S.events,apO e
 el:S.events.length<=48
 r:∀p∈S.regs,aJ p
 rl:S.regs.length<=4
 x:aJ S.x
 y:aJ S.y
 mo:MOK m
 pc:0<=b.pc/\b.pc<=64
 ln:0<=b.len/\b.len<=8
 ins:m.ins.length<1000000000
 out:m.outs.length<800000000
def CAB:(∀e:Cac,mg .cac 0 .i64 e=e.words)/\(∀e:Cac,fJ .cac 1 e=e.blk.pc)/\(∀e:Cac,fJ .cac 2 e=e.blk.len)/\(∀e:Cac,mg .cac 3 .iop e=e.blk.ops)/\(∀e:Cac,fJ .cac 4 e=e.blk.fin)/\(∀e:Cac,fJ .cac 5 e=e.blk.x)/\(∀e:Cac,fJ .cac 6 e=e.blk.y)/\(∀e:Cac,fJ .cac 7 e=e.blk.k):=
 ⟨λ_=>rfl,λ_=>rfl,λ_=>rfl,λ_=>rfl,λ_=>rfl,λ_=>rfl,λ_=>rfl,λ_=>rfl⟩
def CAM:(∀e:Cac,Co.mk .cac (e.words,e.blk.pc,e.blk.len,e.blk.ops,e.blk.fin,e.blk.x,e.blk.y,e.blk.k,())=e)/\(∀x:Cac,([x].length:Int)=1):=⟨λ_=>rfl,λ_=>rfl⟩
def ShK(l:List Cac):Prop:=l.length<1000/\∀x∈l,x.words.length<1000/\x.blk.ops.length<1000000/\x.blk.pc<=1000000
def ShK.at{l:List Cac}(h:ShK l)(i:Nat):(l.getD i default).words.length<1000/\(l.getD i default).blk.ops.length<1000000/\(l.getD i default).blk.pc<=1000000:=by
 by_cases c:i<l.length
 .rw [getD_lt c];exact h.2 _ (List.getElem_mem _)
 .rw [List.getD_eq_getElem?_getD,List.getElem?_eq_none ah];exact⟨by decide,by decide,by decide⟩
def ShX(l:List Cac):Prop:=l.length<1000000000/\∀x∈l,x.words.length<1000000000/\x.blk.ops.length<1000000000
def ShK.x{l:List Cac}(h:ShK l):ShX l:=⟨by have:=h.1;omega,λq g=>by have:=h.2 q g;omega⟩
def ShX.at{l:List Cac}(h:ShX l)(i:Nat):(l.getD i default).words.length<1000000000/\(l.getD i default).blk.ops.length<1000000000:=by
 by_cases c:i<l.length
 .rw [getD_lt c];exact h.2 _ (List.getElem_mem _)
 .rw [List.getD_eq_getElem?_getD,List.getElem?_eq_none ah];exact⟨by decide,by decide⟩
def ShK.sub{l r:List Cac}(h:ShK l)(n:r.length<1000)(s:∀x∈r,x∈l):ShK r:=⟨n,λx hx=>h.2 x (s x hx)⟩
def FC(l:List Cac)(pc k:Int):Prop:=(k= -1/\∀j:Int,0<=j->j<l.length->(((l).getD (j).toNat default)).blk.pc≠pc)\/(0<=k/\k<l.length/\(((l).getD (k).toNat default)).blk.pc=pc/\∀j:Int,0<=j->j<k->(((l).getD (j).toNat default)).blk.pc≠pc)
def FC.one{l:List Cac}{pc k m:Int}(h:FC l pc k)(g:FC l pc m):k=m:=by
 rcases h with⟨a,b⟩ | ⟨a,b,c,d⟩<;>rcases g with⟨a',b'⟩ | ⟨a',b',c',d'⟩
 .omega
 .exact absurd c' (b _ a' b')
 .exact absurd c (b' _ a b)
 .rcases Int.lt_trichotomy k m with h | h | h
  .exact absurd c (d' _ a h)
  .exact h
  .exact absurd c' (d _ a' h)
def There(w mem:List Int)(pc:Int):Prop:=∀k:Int,0<=k->k<w.length->pc+k<mem.length/\((mem).getD (pc+k).toNat default)=((w).getD (k).toNat default)
def Yv(w mem:List Int)(pc:Int)(hw:w.length<1000)(hm:mem.length<1000000000)(p0:0<=pc)(p1:pc<=1000000):NI.F () (w,mem,pc,()) (λy=>y=(bp (There w mem pc),())):=by
 dsimp only [NI,gm];refine ak (λ(y:List Int×List Int×Int×Int×Unit)=>y.1=w/\y.2.1=mem/\y.2.2.1=pc/\0<=y.2.2.2.1/\y.2.2.2.1<=w.length/\∀k:Int,0<=k->k<y.2.2.2.1->pc+k<mem.length/\((mem).getD (pc+k).toNat default)=((w).getD (k).toNat default)) (λy=>(w.length-y.2.2.2.1).toNat) ⟨rfl,rfl,rfl,by simp,by simp,λj h0 h1=>absurd h1 (by simp;omega)⟩ ?_;rintro⟨(w:List Int),(mem:List Int),(pc:Int),(i:Int),⟨⟩⟩ hI;dsimp only at hI ⊢;obtain⟨rfl,rfl,rfl,h1,h2,h3⟩:=hI;simp (disch:=omega) only [RR];refine⟨λg=>⟨ah,ah,ah,ah,λe=> ?_,λe=>⟨⟨ah,ah,λj j0 j1=> ?_⟩,ah⟩⟩,λg=> ?_⟩
 .rw [aY];intro q;obtain⟨q1,q2⟩:=q i h1 g;rcases e with e | e
  .omega
  .exact e q2
 .by_cases c:j<i
  .exact h3 j j0 c
  .rw [show j=i by omega];exact⟨ah,e.2⟩
 .rw [aW];exact λj j0 j1=>h3 j j0 ah
abbrev cE(e : Cac) : Int × Int × Int × Int × Int × Int × List Int × List IOp × Unit := (e.blk.pc, e.blk.len, e.blk.fin, e.blk.x, e.blk.y, e.blk.k, e.words, e.blk.ops, ())
noncomputable def Bb (mem:List Int) (x:Cac):Bool:=bp (0<=x.blk.pc/\There x.words mem x.blk.pc)
def Bc{α:Type}{d:α}{P:α->Bool}{l:List α}{i:Int}(h0:0<=i)(h:i<l.length):(l.take (i+1).toNat).filter P=(l.take i.toNat).filter P++(if P (l.getD i.toNat d)=true then [l.getD i.toNat d]else []):=by
 rw [show(i+1).toNat=i.toNat+1 by omega,List.take_succ_eq_append_getElem ah,getD_lt ah,List.filter_append]
 congr 1
 rw [List.filter_cons,List.filter_nil]
structure aq7(pp:Cac×Unit->Bool)(ff:Cac×Unit->Int×Int×Int×Int×Int×Int×List Int×List IOp×Unit):Prop where
 hp:∀e,e.words.length<1000->e.blk.ops.length<1000000->pp (e,())=true
 hf:∀e,e.words.length<1000->e.blk.ops.length<1000000->ff (e,())=cE e
structure apP(pp:List Int×List Int×Int×Unit->Bool)(ff:List Int×List Int×Int×Unit->Bool×Unit):Prop where
 hp:∀w mem pc,w.length<1000->mem.length<1000000000->0<=pc->pc<=1000000->pp (w,mem,pc,())=true
 hf:∀w mem pc,w.length<1000->mem.length<1000000000->0<=pc->pc<=1000000->ff (w,mem,pc,())=(bp (There w mem pc),())
noncomputable def iy:List Int->List Ins
 | []=> []
 | w::r=>if bp (Wo w/\dK (iY w))=true then iY w::iy r else []
def Im:∀w:List Int,(iy w).length<=w.length
 | []=>Nat.le_refl _
 | w::r=>by
  have:=Im r;unfold iy;split<;>simp only [List.length_cons,List.length_nil]<;>omega
def uf:∀(a b:List Int),(∀w∈a,Wo w/\dK (iY w))->iy (a++b)=a.map iY++iy b
 | [],b,_=>rfl
 | w::a,b,h=>by
  rw [List.cons_append,iy,if_pos (aW (h w (by simp))),uf a b (λx hx=>h x (by simp [hx]))];rfl
theorem ahb{p1 f1}(U1:amG p1 f1)(w:List Int)(h:w.length<1000000000):Me.F (p1,f1,()) (w,()) (λy=>y=(iy w,())):=by
 have e:∀x y z u:Int,Co.mk .ins (x,y,z,u,())=⟨x,y,z,u⟩:=λ_ _ _ _=>rfl
 dsimp only [Me,gm];refine ak (λ(y:List Int×Int×List Ins×Unit)=>y.1=w/\0<=y.2.1/\y.2.1<=w.length/\y.2.2.1=(w.take y.2.1.toNat).map iY/\∀x∈w.take y.2.1.toNat,Wo x/\dK (iY x)) (λy=>(w.length-y.2.1).toNat) ⟨rfl,by simp,by simp,by simp,by simp⟩ ?_;rintro⟨(w:List Int),(i:Int),(o:List Ins),⟨⟩⟩ hI;dsimp only at hI ⊢;obtain⟨rfl,h1,h2,rfl,h3⟩:=hI;simp (disch:=omega) only [RR,U1.hp,U1.hf];have tl:=List.length_take_le' i.toNat w;refine⟨λg=>⟨h1,g,?_⟩,λg=> ?_⟩
 .have dr:w=w.take i.toNat++(w.getD i.toNat default::w.drop (i.toNat+1)):=by
   rw [getD_lt ah,<-List.drop_eq_getElem_cons ah,List.take_append_drop]
  unfold tkI;by_cases c:Wo (w.getD i.toNat default)/\dK (iY (w.getD i.toNat default))
  .rw [if_pos (aW c)];simp (disch:=omega) only [RR,e];have ts:=bI (d:=default) h1 g (l:=w) rfl;have ml:((w.take i.toNat).map iY).length=i.toNat:=by rw [List.length_map,List.length_take];omega
   refine⟨by rw [ml];simp only [List.length_cons,List.length_nil];omega,⟨ah,ah,by rw [<-ts,List.map_append];rfl,λx hx=> ?_⟩,ah⟩;rw [<-ts,List.mem_append,List.mem_singleton]at hx;exact hx.elim (h3 x) (λq=>q▸c)
  .rw [if_neg (by rw [aY c];decide)];simp (disch:=omega) only [RR]
   conv=>rhs;rw [dr]
   rw [uf _ _ h3,iy,if_neg (by rw [aY c];decide),List.append_nil]
   done
 .rw [List.take_of_length_le ah]at h3 ⊢;have:=uf w [] h3;rw [List.append_nil]at this;rw [this];simp [iy]
def neP(pc:Int)(x:Cac):Bool:= !decide (x.blk.pc=pc)
def amN(l:List Cac)(e:Cac):List Cac:=(l.filter (neP e.blk.pc)++ [e]).drop ((l.filter (neP e.blk.pc)).length+1-4)
def mP(x:Cac):Prop:=(iy x.words).length=x.words.length/\qb x.blk.pc (iy x.words)/\chk (lower x.blk.pc (iy x.words)) x.blk=true
structure amO(pp:List Int×Unit->Bool)(ff:List Int×Unit->List Ins×Unit):Prop where
 hp:∀w,w.length<1000000000->pp (w,())=true
 hf:∀w,w.length<1000000000->ff (w,())=(iy w,())
theorem ahc{p1 f1 p2 f2 p3 f3 p4 f4}(U1:apN p1 f1)(U2:amJ p2 f2)(U3:amO p3 f3)(U4:Y96 p4 f4)(e:Cac)(hw:e.words.length<1000000000)(ho:e.blk.ops.length<1000000000):NH.F (p1,f1,p2,f2,p3,f3,p4,f4,()) (e,()) (λy=>y=(bp (mP e),())):=by
 have mE:∀c:Blk,Co.mk .blk (c.pc,c.len,c.ops,c.fin,c.x,c.y,c.k,())=c:=λ_=>rfl
 have tl:=Im e.words;have P1:=U1.hp e.blk.pc (iy e.words) ah;have H1:=U1.hf e.blk.pc (iy e.words) ah;have P2:=U2.hp e.blk.pc (iy e.words) ah;have H2:=U2.hf e.blk.pc (iy e.words) ah;have lw:=aci H1;rw [H1]at lw;have P4:=U4.hp (lower e.blk.pc (iy e.words)) e.blk (by have:((lower e.blk.pc (iy e.words)).ops.length:Int)<=5000:=lw;omega) ah;have H4:=U4.hf (lower e.blk.pc (iy e.words)) e.blk (by have:((lower e.blk.pc (iy e.words)).ops.length:Int)<=5000:=lw;omega) ah;dsimp only [NH,gm,zQ];simp (disch:=omega) only [RR,CAB,mE,U3.hp _ hw,U3.hf _ hw,P1,H1,P2,H2,P4,H4];have eq:bp (mP e)=(decide (((iy e.words).length:Int)=e.words.length)&&bp (qb e.blk.pc (iy e.words))&&chk (lower e.blk.pc (iy e.words)) e.blk):=by
  rw [Bool.eq_iff_iff,aO,Bool.and_eq_true,Bool.and_eq_true,aO,decide_eq_true_eq];exact⟨λ⟨a,b,c⟩=>⟨⟨ah,b⟩,c⟩,λ⟨⟨a,b⟩,c⟩=>⟨ah,b,c⟩⟩
 exact⟨λ_=>by rw [eq],λg=>⟨g,by rw [eq,g];rfl⟩⟩
def Au(l:List Cac)(mem:List Int):Prop:=l.length<=4/\(∀j:Int,0<=j->j<l.length->mP ((l).getD (j).toNat default)/\There (((l).getD (j).toNat default)).words mem (((l).getD (j).toNat default)).blk.pc)/\∀i j:Int,0<=i->i<j->j<l.length->(((l).getD (i).toNat default)).blk.pc≠(((l).getD (j).toNat default)).blk.pc
def ahd{p2 f2}{p1:Cac×Unit->Bool}{f1:Cac×Unit->Bool×Unit}(hp1:∀e,e.words.length<1000000000->e.blk.ops.length<1000000000->p1 (e,())=true)(hf1:∀e,e.words.length<1000000000->e.blk.ops.length<1000000000->f1 (e,())=(bp (mP e),()))(U2:apP p2 f2)(l:List Cac)(mem:List Int)(h:ShX l)(hm:mem.length<1000000000):NJ.F (p1,f1,p2,f2,()) (l,mem,()) (λy=>y=(bp (Au l mem),())):=by
 have hl:=h.1;dsimp only [NJ,gm,zQ];simp (disch:=omega) only [RR,CAB];refine⟨λg=>by rw [aY (λe=>by have:=e.1;omega)],λg=> ?_⟩;refine ak (λ(y:List Cac×List Int×Int×Unit)=>y.1=l/\y.2.1=mem/\0<=y.2.2.1/\y.2.2.1<=l.length/\(∀j:Int,0<=j->j<y.2.2.1->mP ((l).getD (j).toNat default)/\There (((l).getD (j).toNat default)).words mem (((l).getD (j).toNat default)).blk.pc)/\∀i j:Int,0<=i->i<j->j<y.2.2.1->(((l).getD (i).toNat default)).blk.pc≠(((l).getD (j).toNat default)).blk.pc) (λy=>(l.length-y.2.2.1).toNat) ⟨rfl,rfl,by simp,by simp,λj h0 h1=>absurd h1 (by simp;omega),λi j h0 h1 h2=>absurd h2 (by simp;omega)⟩ ?_;rintro⟨(l':List Cac),(mem':List Int),(i:Int),⟨⟩⟩ hI;dsimp only at hI ⊢;obtain⟨rfl,rfl,i1,i2,i3,i4⟩:=hI;obtain⟨a1,a2⟩:=h.at i.toNat;by_cases c:i<l'.length
 .by_cases d:mP ((l').getD (i).toNat default)
  .have pc:=d.2.1.pc;have dl:=d.1;have d8:=d.2.1.ln;have P2:=U2.hp _ mem' _ (show(((l').getD (i).toNat default)).words.length<1000 by omega) hm pc.1 ah;have H2:=U2.hf _ mem' _ (show(((l').getD (i).toNat default)).words.length<1000 by omega) hm pc.1 ah;simp (disch:=omega) only [RR,CAB,c,hp1 _ a1 a2,hf1 _ a1 a2,aW d,P2,H2];refine⟨i1,i1,i1,λe=> ?_,λe=> ?_⟩
   .rw [aY];intro q;rw [aW (q.2.1 i i1 c).2]at e;cases e
   have th:=aO.1 e;refine ak (λ(y:List Cac×List Int×Int×Int×Unit)=>y.1=l'/\y.2.1=mem'/\y.2.2.1=i/\0<=y.2.2.2.1/\y.2.2.2.1<=i/\∀j:Int,0<=j->j<y.2.2.2.1->(((l').getD (j).toNat default)).blk.pc≠(((l').getD (i).toNat default)).blk.pc) (λy=>(i-y.2.2.2.1).toNat) ⟨rfl,rfl,rfl,by simp,i1,λj h0 h1=>absurd h1 (by simp;omega)⟩ ?_;rintro⟨(u:List Cac),(v:List Int),(w:Int),(k:Int),⟨⟩⟩ hJ;dsimp only at hJ ⊢;obtain⟨rfl,rfl,rfl,k1,k2,k3⟩:=hJ;simp (disch:=omega) only [RR];refine⟨λg1=>⟨k1,ah,i1,c,λq=> ?_,λq=>⟨⟨ah,ah,λj j0 j1=> ?_⟩,ah⟩⟩,λg1=>⟨⟨ah,ah,λj j0 j1=> ?_,λa b b0 b1 b2=> ?_⟩,ah⟩⟩
   .rw [aY];exact λz=>z.2.2 k w k1 g1 c q
   .by_cases y:j<k
    .exact k3 j j0 y
    .rw [show j=k by omega];exact q
   .by_cases y:j<w
    .exact i3 j j0 y
    .rw [show j=w by omega];exact⟨d,th⟩
   .by_cases y:b<w
    .exact i4 a b b0 b1 y
    .rw [show b=w by omega];exact k3 a b0 ah
  .simp (disch:=omega) only [RR,CAB,c,hp1 _ a1 a2,hf1 _ a1 a2,aY d];refine⟨i1,?_,λe=>e.1.elim⟩;rw [aY];exact λz=>d (z.2.1 i i1 c).1
 .simp (disch:=omega) only [RR,CAB,c];rw [aW];exact⟨ah,λj j0 j1=>i3 j j0 ah,λa b a0 a1 a2=>i4 a b a0 a1 ah⟩
def amP(e:Eng):Prop:=MOK e.dJ/\Au e.cache e.dJ.mem/\Q0 e.lH
structure amQ(pp:List Cac×List Int×Unit->Bool)(ff:List Cac×List Int×Unit->Bool×Unit):Prop where
 hp:∀l mem,ShX l->mem.length<1000000000->pp (l,mem,())=true
 hf:∀l mem,ShX l->mem.length<1000000000->ff (l,mem,())=(bp (Au l mem),())
abbrev e12(e : Eng) : List Int × Int × Int × Bool × Bool × Int × List Int × List Int × Int × List Cer × List Int × List Cac × Unit := (e.dJ.regs, e.dJ.pc, e.dJ.save, e.dJ.nA, e.dJ.waits, e.dJ.halt, e.dJ.ins, e.dJ.outs, e.dJ.count, e.lH, e.dJ.mem, e.cache, ())
structure aq8(pp:List Cac×List Int×Unit->Bool)(ff:List Cac×List Int×Unit->List Cac×Unit):Prop where
 hp:∀l mem,ShK l->mem.length<1000000000->pp (l,mem,())=true
 hf:∀l mem,ShK l->mem.length<1000000000->ff (l,mem,())=(l.filter (Bb mem),())
def amR(e:Cac)(pc:Int):afC.F () (e,pc,()) (λy=>y=(decide (e.blk.pc=pc),pc,())):=by
 dsimp only [afC,gm];simp (disch:=omega) only [RR,CAB]
def ahe{p1:Cac×Int×Unit->Bool}{f1:Cac×Int×Unit->Bool×Int×Unit}(hp1:∀e pc,p1 (e,pc,())=true)(hf1:∀e pc,f1 (e,pc,())=(decide (e.blk.pc=pc),pc,()))(l:List Cac)(pc:Int)(h:l.length<1000000000):Oy.F (p1,f1,()) (l,pc,()) (λy=>y.2.1=pc/\FC l pc y.1):=by
 dsimp only [Oy,gm];refine ak (λ(y:List Cac×Int×Int×Int×Unit)=>y.1=l/\y.2.1=l.length/\0<=y.2.2.1/\y.2.2.1<=l.length/\y.2.2.2.1=pc/\∀j:Int,0<=j->j<y.2.2.1->(((l).getD (j).toNat default)).blk.pc≠pc) (λy=>(l.length-y.2.2.1).toNat) ⟨rfl,rfl,by simp,by simp,rfl,λj h0 h1=>absurd h1 (by simp;omega)⟩ ?_;rintro⟨(l:List Cac),(n:Int),(i:Int),(pc:Int),⟨⟩⟩ hI;dsimp only at hI ⊢;obtain⟨rfl,rfl,h1,h2,rfl,h3⟩:=hI;simp (disch:=omega) only [RR,CAB,hp1,hf1];refine⟨λg=>⟨h1,g,λe=>Or.inr ⟨h1,g,e,h3⟩,λe=>⟨⟨ah,ah,λj j0 j1=> ?_⟩,ah⟩⟩,λg=>Or.inl ⟨rfl,λj j0 j1=>h3 j j0 ah⟩⟩;by_cases c:j<i
 .exact h3 j j0 c
 .rw [show j=i by omega];exact e
def apQ{p1:List Cac×Int×Unit->Bool}{f1:List Cac×Int×Unit->Int×Int×Unit}(hp1:∀l pc,l.length<1000000000->p1 (l,pc,())=true)(hf1:∀l pc,l.length<1000000000->(f1 (l,pc,())).2.1=pc/\FC l pc (f1 (l,pc,())).1)(l:List Cac)(pc:Int)(h:l.length<1000000000):afD.F (p1,f1,()) (l,pc,()) (λy=>FC l pc y.1):=by
 dsimp only [afD,gm];simp (disch:=omega) only [RR,hp1 _ pc h];exact(hf1 _ pc h).2
structure apR(pp:List Cac×Int×Unit->Bool)(ff:List Cac×Int×Unit->Int×Unit):Prop where
 hp:∀l pc,l.length<1000000000->pp (l,pc,())=true
 hf:∀l pc,l.length<1000000000->FC l pc (ff (l,pc,())).1
def lvS(m:bL)(b:Blk)(n h:Int):bL:={m with pc:=b.pc+n,count:=m.count+n,halt:=h}
def evR(m:bL)(b:Blk)(o:IOp)(x y:Int):bL×Int×Bool:=
 if o.kind=7 then({m with outs:=m.outs++ [x]},0,false)
 else if o.kind=6 then({m with ins:=m.ins.drop 1},m.ins.getD 0 0,false)
 else if 64<=x then(lvS m b o.at_ 3,0,true)
 else if o.kind=4 then(m,((m.mem).getD (x).toNat default),false)
 else if b.pc+o.at_<x/\x<b.pc+b.len then(lvS {m with mem:=m.mem.set x.toNat y} b (o.at_+1) 0,0,true)
 else({m with mem:=m.mem.set x.toNat y},0,false)
noncomputable def gU (mem:List Int):Nat->Int->List Ins
 | 0,_=> []
 | n+1,p=>if bp (p<64/\(Wo ((mem).getD (p).toNat default)/\dK (iY ((mem).getD (p).toNat default)))/\(iY ((mem).getD (p).toNat default)).op≠0)=true then(if bp (11<=(iY ((mem).getD (p).toNat default)).op/\(iY ((mem).getD (p).toNat default)).op<=13)=true then [iY ((mem).getD (p).toNat default)]else iY ((mem).getD (p).toNat default)::gU mem n (p+1))else []
noncomputable def findF (m:bL):List Ins:=if bp (MOK m)=true then gU m.mem 8 m.pc else []
def yD(mem:List Int):∀(n:Nat) (p:Int),(gU mem n p).length<=n/\(0< (gU mem n p).length->p+(gU mem n p).length<=64)/\
  ∀i:Nat,i< (gU mem n p).length->dK ((gU mem n p).getD i default)/\((gU mem n p).getD i default).op≠0/\(11<=((gU mem n p).getD i default).op/\((gU mem n p).getD i default).op<=13->i+1=(gU mem n p).length)
 | 0,_=>⟨Nat.le_refl _,λh=>absurd h (by simp [gU]),λi hi=>absurd hi (by simp [gU])⟩
 | n+1,p=>by
  obtain⟨r1,r2,r3⟩:=yD mem n (p+1);unfold gU;split
  .rename_i g;obtain⟨g1,⟨g2,g3⟩,g4⟩:=aO.1 g;split
   .refine⟨by simp,λ_=>by simp;omega,λi hi=> ?_⟩;have:i=0:=by simp at hi;omega
    subst this;exact⟨g3,g4,λ_=>by simp⟩
   .rename_i e;have e':=gB.1 (by simpa using e);refine⟨by simp;omega,λ_=> ?_,λi hi=> ?_⟩
    .by_cases z:0< (gU mem n (p+1)).length
     .have:=r2 z;simp;omega
     .simp;omega
    .cases i with
     | zero=>exact⟨g3,g4,λq=>absurd q e'⟩
     | succ i=>
      have:=r3 i (by simpa using hi);exact⟨this.1,this.2.1,λq=>by have:=this.2.2 q;simp;omega⟩
  .exact⟨by simp,λh=>absurd h (by simp),λi hi=>absurd hi (by simp)⟩
structure aq9(pp:bL×Unit->Bool)(ff:bL×Unit->List Ins×Unit):Prop where
 hp:∀m,MSh m->pp (m,())=true
 hf:∀m,MSh m->ff (m,())=(findF m,())
structure ara(pp:List Cac×Cac×Unit->Bool)(ff:List Cac×Cac×Unit->List Cac×Unit):Prop where
 hp:∀l e,ShK l->e.words.length<1000->e.blk.ops.length<1000000->pp (l,e,())=true
 hf:∀l e,ShK l->e.words.length<1000->e.blk.ops.length<1000000->ff (l,e,())=(amN l e,())
structure TuD(b l:List Int)(p:Int)(y:List Int×Int×List Int×Unit):Prop where
 b:y.1=b
 p:p<=y.2.1/\y.2.1<=p+20
 l:By y.2.2.1/\y.2.2.1.length<=l.length+1
structure AsD(b:List Int)(p:Int)(y:Bool×List Int×Int×List Int×Unit):Prop where
 b:y.2.1=b
 p:p<=y.2.2.1/\y.2.2.1<=p+2000000
 l:By y.2.2.2.1/\y.2.2.2.1.length<200000000
structure SJ(b:Blk)(m0:bL)(i:Nat)(S:MS):Prop where
 r:RJ b m0 i S
 p:S.m.pc=m0.pc
 h:S.m.halt=m0.halt
 c:S.m.count=m0.count
abbrev yS(b : Blk)(i : Int)(S : MS) : Int × Blk × Int × Int × Bool × Bool × Int × Int × Int × Int × Bool × Bool × Int × List Int × Int × List Int × List Int × List Int × List Int × Unit := (i, b, 0, 0, false, false, 0, 0, S.m.pc, S.m.save, S.m.nA, S.m.waits, S.m.halt, S.m.ins, S.m.count, S.vals, S.m.regs, S.m.mem, S.m.outs, ())
def SIv(b:Blk)(m0:bL)(y:Int×Blk×Int×Int×Bool×Bool×Int×Int×Int×Int×Bool×Bool×Int×List Int×Int×List Int×List Int×List Int×List Int×Unit):Prop:=∃(i:Nat) (S:MS),i<=b.ops.length/\SJ b m0 i S/\y=yS b i S
def SIv.next{b:Blk}{m0:bL}{i:Nat}{S:MS}{o:IOp}{y:Int×Blk×Int×Int×Bool×Bool×Int×Int×Int×Int×Bool×Bool×Int×List Int×Int×List Int×List Int×List Int×List Int×Unit}(h:SJ b m0 i S)(hi:i<b.ops.length)(ho:b.ops.getD i default=o)(k1:o.kind=1->0<=o.k/\o.k<=65535)
  (c1:¬((o.kind=4\/o.kind=5)/\64<=vx S o)) (c2:¬(o.kind=5/\b.pc+o.at_+1<=vx S o/\vx S o<=b.pc+b.len-1))
  (e:y=yS b ((i:Int)+1) ⟨mM S o,S.vals++ [mV S o],false⟩):SIv b m0 y/\(b.ops.length-y.1).toNat< (b.ops.length- (i:Int)).toNat:=by
 subst e;have k:=acj (s:=S) o;exact⟨⟨i+1,_,hi,⟨h.r.next hi ho k1 c1 c2,k.1.trans h.p,k.2.1.trans h.h,k.2.2.trans h.c⟩,rfl⟩,by dsimp only;omega⟩
structure FnS(e:Eng)(y:Eng×Int×Bool):Prop where
 l:y.1.cache.length<=e.cache.length+4/\(e.cache.length<=4->y.1.cache.length<=4)/\(e.lH.length<=3->y.1.lH.length<=3)
 w:(∀x∈e.cache,0<x.words.length)->∀x∈y.1.cache,0<x.words.length
 k:ShK y.1.cache
 c:ShC y.1.lH
 r:y.2.1<y.1.cache.length
 b:0<=y.2.1->iD (((y.1.cache).getD (y.2.1).toNat default)).blk/\(((y.1.cache).getD (y.2.1).toNat default)).blk.pc=e.dJ.pc
abbrev e13(y : Eng × Bool) : List Int × Int × Int × Bool × Bool × Int × List Int × List Int × Int × Bool × List Cer × List Int × List Cac × Unit := (y.1.dJ.regs, y.1.dJ.pc, y.1.dJ.save, y.1.dJ.nA, y.1.dJ.waits, y.1.dJ.halt, y.1.dJ.ins, y.1.dJ.outs, y.1.dJ.count, y.2, y.1.lH, y.1.dJ.mem, y.1.cache, ())
structure arb(pp:Eng×Unit->Bool)(ff:Eng×Unit->Bool×Unit):Prop where
 hp:∀e,MSh e.dJ->ShX e.cache->ShD e.lH->pp (e,())=true
 hf:∀e,MSh e.dJ->ShX e.cache->ShD e.lH->ff (e,())=(bp (amP e),())
structure EgS(e:Eng)(n:Nat):Prop where
 m:MSh e.dJ
 o:e.dJ.outs.length<=n
 k:ShK e.cache
 c:ShC e.lH
 kl:e.cache.length<=4
 cl:e.lH.length<=3
 w:∀x∈e.cache,0<x.words.length
 v:∀x∈e.cache,0<=x.blk.pc/\x.blk.pc<e.dJ.mem.length
def EnD(b:List Int)(p:Int)(y:List Int×Int×Int×Bool×Bool×Int×List Int×List Int×Int×List Int×Int×List Cer×List Int×List Cac×Unit):Prop:=
 ∃(e:Eng) (p':Int),EgS e 1000/\p<=p'/\p'<=p+30000000/\y=(e.dJ.regs,e.dJ.pc,e.dJ.save,e.dJ.nA,e.dJ.waits,e.dJ.halt,e.dJ.ins,e.dJ.outs,e.dJ.count,b,p',e.lH,e.dJ.mem,e.cache,())
def ShK.nil:ShK []:=⟨by decide,λx hx=>by cases hx⟩
def ShC.nil:ShC []:=⟨by decide,λx hx=>by cases hx⟩
end Go.TX.F
