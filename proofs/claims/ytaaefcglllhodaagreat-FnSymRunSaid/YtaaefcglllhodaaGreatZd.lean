/- Part 4 of a proof: what the last part needs. No condition. -/
import Derived.Test.YtaaefcglllhodaaGreatZc
set_option linter.all false
set_option linter.unusedSectionVars false
set_option linter.unusedVariables false
set_option linter.unusedSimpArgs false
namespace Go.TX.F
open Go Go.AE Go.TX
def aqU(n:Int)(h1:0<=n)(h2:n<=1073741824):abd.F () (n,()) (λy=>y=([],())):=by
 dsimp only [abd,gm];simp (disch:=omega) only [RR];refine⟨λh=>by omega,λ_ h=>⟨ah,ah,by rw [List.length_replicate];omega,ah,ah,ah,ah,ah,?_⟩⟩;rfl
theorem aqV{p:Int×Unit->Bool}{f:Int×Unit->List aj×Unit}(hp:∀n:Int,0<=n->n<=1073741824->p (n,())=true)(hf:∀n:Int,0<=n->n<=1073741824->f (n,())=([],()))
  (a b:List aj) (ha:a.length<=100000000) (hb:b.length<=100000000):abe.F (p,f,()) ([a,b],()) (λy=>y=(a++b,())):=by
 dsimp only [abe,gm]
 refine ak (λ(y:List (List aj)×Int×List (List aj)×Int×Int×Unit)=>y.1=[a,b]/\y.2.2.1=[a,b]/\y.2.2.2.1=2/\((y.2.2.2.2.1=0/\y.2.1=0)\/(y.2.2.2.2.1=1/\y.2.1=a.length)\/(y.2.2.2.2.1=2/\y.2.1=a.length+b.length))) (λy=>(2-y.2.2.2.2.1).toNat)
  ⟨rfl,rfl,rfl,Or.inl ⟨rfl,rfl⟩⟩ ?_
 rintro⟨(l:List (List aj)),(s:Int),(l2:List (List aj)),(n:Int),(i:Int),⟨⟩⟩ hI;dsimp only at hI ⊢;obtain⟨rfl,rfl,rfl,h⟩:=hI;simp (disch:=omega) only [RR];have g0: [a,b].getD (Int.toNat 0) default=a:=rfl;have g1: [a,b].getD (Int.toNat 1) default=b:=rfl;have gl:([a,b].length:Int)=2:=rfl;refine⟨λhi=> ?_,λhi=> ?_⟩
 .rcases h with⟨rfl,rfl⟩ | ⟨rfl,rfl⟩ | ⟨rfl,rfl⟩
  .rw [g0,w64 ah ah];exact⟨ah,ah,λh=>by omega,λh=>⟨Or.inr (Or.inl ⟨ah,ah⟩),ah⟩⟩
  .rw [g1,w64 ah ah];exact⟨ah,ah,λh=>by omega,λh=>⟨Or.inr (Or.inr ⟨ah,ah⟩),ah⟩⟩
  .omega
 .have hs:0<=s/\s<=200000000:=by omega
  refine⟨hp s ah ah,?_⟩;rw [hf s ah ah]
  refine ak (λ(y:List (List aj)×Int×Int×List aj×Unit)=>y.1=[a,b]/\y.2.1=2/\((y.2.2.1=0/\y.2.2.2.1=[])\/(y.2.2.1=1/\y.2.2.2.1=a)\/(y.2.2.1=2/\y.2.2.2.1=a++b))) (λy=>(2-y.2.2.1).toNat)
   ⟨rfl,rfl,Or.inl ⟨rfl,rfl⟩⟩ ?_
  rintro⟨(l:List (List aj)),(n:Int),(j:Int),(o:List aj),⟨⟩⟩ hI;dsimp only at hI ⊢;obtain⟨rfl,rfl,h3⟩:=hI;simp (disch:=omega) only [RR];refine⟨λhj=> ?_,λhj=> ?_⟩
  .rcases h3 with⟨rfl,rfl⟩ | ⟨rfl,rfl⟩ | ⟨rfl,rfl⟩
   .rw [g0];exact⟨ah,ah,by simp only [List.length_nil];omega,Or.inr (Or.inl ⟨ah,rfl⟩),ah⟩
   .rw [g1];exact⟨ah,ah,ah,Or.inr (Or.inr ⟨ah,rfl⟩),ah⟩
   .omega
  .rcases h3 with⟨rfl,rfl⟩ | ⟨rfl,rfl⟩ | ⟨rfl,rfl⟩
   .omega
   .omega
   .rfl
def ait(n:Int)(h1:0<=n)(h2:n<=1073741824):abg.F () (n,()) (λy=>y=([],())):=by
 dsimp only [abg,gm];simp (disch:=omega) only [RR];refine⟨λh=>by omega,λ_ h=>⟨ah,ah,by rw [List.length_replicate];omega,ah,ah,ah,ah,ah,?_⟩⟩;rfl
theorem aqW{p:Int×Unit->Bool}{f:Int×Unit->List Int×Unit}(hp:∀n:Int,0<=n->n<=1073741824->p (n,())=true)(hf:∀n:Int,0<=n->n<=1073741824->f (n,())=([],()))
  (a b:List Int) (ha:a.length<=100000000) (hb:b.length<=100000000):abh.F (p,f,()) ([a,b],()) (λy=>y=(a++b,())):=by
 dsimp only [abh,gm]
 refine ak (λ(y:List (List Int)×Int×List (List Int)×Int×Int×Unit)=>y.1=[a,b]/\y.2.2.1=[a,b]/\y.2.2.2.1=2/\((y.2.2.2.2.1=0/\y.2.1=0)\/(y.2.2.2.2.1=1/\y.2.1=a.length)\/(y.2.2.2.2.1=2/\y.2.1=a.length+b.length))) (λy=>(2-y.2.2.2.2.1).toNat)
  ⟨rfl,rfl,rfl,Or.inl ⟨rfl,rfl⟩⟩ ?_
 rintro⟨(l:List (List Int)),(s:Int),(l2:List (List Int)),(n:Int),(i:Int),⟨⟩⟩ hI;dsimp only at hI ⊢;obtain⟨rfl,rfl,rfl,h⟩:=hI;simp (disch:=omega) only [RR];have g0: [a,b].getD (Int.toNat 0) default=a:=rfl;have g1: [a,b].getD (Int.toNat 1) default=b:=rfl;have gl:([a,b].length:Int)=2:=rfl;refine⟨λhi=> ?_,λhi=> ?_⟩
 .rcases h with⟨rfl,rfl⟩ | ⟨rfl,rfl⟩ | ⟨rfl,rfl⟩
  .rw [g0,w64 ah ah];exact⟨ah,ah,λh=>by omega,λh=>⟨Or.inr (Or.inl ⟨ah,ah⟩),ah⟩⟩
  .rw [g1,w64 ah ah];exact⟨ah,ah,λh=>by omega,λh=>⟨Or.inr (Or.inr ⟨ah,ah⟩),ah⟩⟩
  .omega
 .have hs:0<=s/\s<=200000000:=by omega
  refine⟨hp s ah ah,?_⟩;rw [hf s ah ah]
  refine ak (λ(y:List (List Int)×Int×Int×List Int×Unit)=>y.1=[a,b]/\y.2.1=2/\((y.2.2.1=0/\y.2.2.2.1=[])\/(y.2.2.1=1/\y.2.2.2.1=a)\/(y.2.2.1=2/\y.2.2.2.1=a++b))) (λy=>(2-y.2.2.1).toNat)
   ⟨rfl,rfl,Or.inl ⟨rfl,rfl⟩⟩ ?_
  rintro⟨(l:List (List Int)),(n:Int),(j:Int),(o:List Int),⟨⟩⟩ hI;dsimp only at hI ⊢;obtain⟨rfl,rfl,h3⟩:=hI;simp (disch:=omega) only [RR];refine⟨λhj=> ?_,λhj=> ?_⟩
  .rcases h3 with⟨rfl,rfl⟩ | ⟨rfl,rfl⟩ | ⟨rfl,rfl⟩
   .rw [g0];exact⟨ah,ah,by simp only [List.length_nil];omega,Or.inr (Or.inl ⟨ah,rfl⟩),ah⟩
   .rw [g1];exact⟨ah,ah,ah,Or.inr (Or.inr ⟨ah,rfl⟩),ah⟩
   .omega
  .rcases h3 with⟨rfl,rfl⟩ | ⟨rfl,rfl⟩ | ⟨rfl,rfl⟩
   .omega
   .omega
   .rfl
def mOk.le{m:aj}(h:mOk m):m.atoms.length<=4:=h.2.1
def aF.at{p:List aj}(h:aF p){m:aj}(hm:m∈p):mOk m:=by
 obtain⟨i,hi,rfl⟩:=List.getElem_of_mem hm;have:=(h.1 i ah ah).1;rw [show(i:Int).toNat=i from rfl,getD_lt hi]at this;exact this
def aF.len{p:List aj}(h:aF p):p.length<=12:=h.2.1
noncomputable def jO (a b:List aj):Bool×List aj:=if bp (aF a)&&bp (aF b)then jf (a++b)else(false,[])
structure Y21(pp:List aj×Unit->Bool)(ff:List aj×Unit->Bool×List aj×List aj×Unit):Prop where
 hp:∀a,Sh a->Cb a->pp (a,())=true
 hf:∀a,Sh a->Cb a->(ff (a,())).1=(jf a).1/\(ff (a,())).2.2.1=(jf a).2
def aqX{p1 f1 p2 f2}(U1:Y11 p1 f1)(U2:Y21 p2 f2){p3:List (List aj)×Unit->Bool}{f3:List (List aj)×Unit->List aj×Unit}(hp3:∀a b:List aj,a.length<=100000000->b.length<=100000000->p3 ([a,b],())=true)(hf3:∀a b:List aj,a.length<=100000000->b.length<=100000000->f3 ([a,b],())=(a++b,()))(a b:List aj)(ha:Sh a)(hb:Sh b):abf.F (p1,f1,p2,f2,p3,f3,()) (a,b,()) (λy=>y=((jO a b).1,(jO a b).2,())):=by
 dsimp only [abf,gm];simp (disch:=omega) only [RR,U1.hp a ha,U1.hf a ha,U1.hp b hb,U1.hf b hb,aQ,jh];unfold jO;refine⟨λh=> ?_,λ⟨h1,h2⟩=> ?_⟩
 .rw [if_neg];rw [Bool.and_eq_true,aQ,aQ];rintro⟨g1,g2⟩;rcases h with h | h
  .exact h g1
  .exact h g2
 .have l1:=h1.len;have l2:=h2.len;rw [hp3 a b ah ah,hf3 a b ah ah];have hs:Sh (a++b):=⟨by rw [List.length_append];omega,λm hm=>by
   rw [List.mem_append]at hm;rcases hm with hm | hm
   .exact ha.2 m hm
   .exact hb.2 m hm⟩
  have hc:Cb (a++b):=λm hm=>by
   rw [List.mem_append]at hm;rcases hm with hm | hm
   .have:=(h1.at hm).1;omega
   .have:=(h2.at hm).1;omega
  obtain⟨g1,g2⟩:=U2.hf _ hs hc;refine⟨rfl,U2.hp _ hs hc,?_⟩;rw [if_pos (by rw [aV h1,aV h2];rfl),g1,g2]
def bV(l:List Int):List Int:=l.mergeSort λx y=>decide (x<=y)
def qc(l:List Int):(bV l).length=l.length:=List.length_mergeSort l
def mulM(m n:aj):aj:=⟨m.aW*n.aW%65536,bV (m.atoms++n.atoms)⟩
def prods(a b:List aj):List aj:=a.flatMap λm=>b.map (mulM m)
def FP(a b:List aj)(m:aj):prods (a++ [m]) b=prods a b++b.map (mulM m):=by simp [prods]
noncomputable def jk (a b:List aj):Bool×List aj:=if bp (aF a)&&bp (aF b)then jf (prods a b)else(false,[])
def DT{a b:Int}(h1:0<=a)(h2:a<=65535)(h3:0<=b)(h4:b<=65535):0<=a*b/\a*b<=65535*65535:=⟨Int.mul_nonneg h1 h3,Int.mul_le_mul h2 h4 h3 ah⟩
def aqY{p1 f1 p0 f0 p2 f2}(U1:Y11 p1 f1)(U0:Y10 p0 f0)(U2:Y21 p2 f2){p3:List (List Int)×Unit->Bool}{f3:List (List Int)×Unit->List Int×Unit}(hp3:∀a b:List Int,a.length<=100000000->b.length<=100000000->p3 ([a,b],())=true)(hf3:∀a b:List Int,a.length<=100000000->b.length<=100000000->f3 ([a,b],())=(a++b,())){p4:List Int×Unit->Bool}{f4:List Int×Unit->List Int×Unit}(hp4:∀a:List Int,a.length<=8->p4 (a,())=true)(hf4:∀a:List Int,a.length<=8->f4 (a,())=(bV a,()))(a b:List aj)(ha:Sh a)(hb:Sh b):abj.F (p1,f1,p0,f0,p2,f2,p3,f3,p4,f4,()) (a,b,()) (λy=>y=((jk a b).1,(jk a b).2,())):=by
 dsimp only [abj,gm];simp (disch:=omega) only [RR,U1.hp a ha,U1.hf a ha,U1.hp b hb,U1.hf b hb,aQ,jh];unfold jk;refine⟨λh=> ?_,λ⟨h1,h2⟩=> ?_⟩
 .rw [if_neg];rw [Bool.and_eq_true,aQ,aQ];rintro⟨g1,g2⟩;rcases h with h | h
  .exact h g1
  .exact h g2
 have l1:=h1.len;have l2:=h2.len;rw [if_pos (by rw [aV h1,aV h2];rfl)];have mm:∀i j:Int,0<=i->i<a.length->0<=j->j<b.length->mOk ((a).getD (i).toNat default)/\mOk ((b).getD (j).toNat default):=λi j i1 i2 j1 j2=>⟨h1.at (bN i1 i2),h2.at (bN j1 j2)⟩
 refine ak (λ(y:List aj×Int×Int×List aj×List aj×Unit)=>y.1=a/\y.2.1=a.length/\0<=y.2.2.1/\y.2.2.1<=a.length/\y.2.2.2.1=b/\y.2.2.2.2.1=prods (a.take y.2.2.1.toNat) b/\y.2.2.2.2.1.length<=12*y.2.2.1/\Sh y.2.2.2.2.1/\Cb y.2.2.2.2.1) (λy=>(a.length-y.2.2.1).toNat)
  ⟨rfl,rfl,by simp,by simp,rfl,rfl,by simp,⟨by simp,λm hm=>absurd hm (by simp)⟩,λm hm=>absurd hm (by simp)⟩ ?_
 rintro⟨(a':List aj),(n:Int),(i:Int),(b':List aj),(o:List aj),⟨⟩⟩ hI;dsimp only at hI ⊢;obtain⟨rfl,rfl,h3,h4,rfl,h5,h6,h7,h8⟩:=hI;simp (disch:=omega) only [RR];refine⟨λh9=>⟨ah,ah,?_⟩,λh9=> ?_⟩
 .refine ak (λ(y:List aj×Int×Int×List aj×Int×Int×List aj×List aj×aj×Unit)=>y.1=a'/\y.2.1=a'.length/\y.2.2.1=i/\y.2.2.2.1=b'/\y.2.2.2.2.1=b'.length/\0<=y.2.2.2.2.2.1/\y.2.2.2.2.2.1<=b'.length/\y.2.2.2.2.2.2.1=b'/\y.2.2.2.2.2.2.2.2.1=((a').getD (i).toNat default)
    /\y.2.2.2.2.2.2.2.1=o++(b'.take y.2.2.2.2.2.1.toNat).map (mulM ((a').getD (i).toNat default))/\Sh y.2.2.2.2.2.2.2.1/\Cb y.2.2.2.2.2.2.2.1) (λy=>(b'.length-y.2.2.2.2.2.1).toNat)
   ⟨rfl,rfl,rfl,rfl,rfl,by simp,by simp,rfl,rfl,by simp,h7,h8⟩ ?_
  rintro⟨(a'':List aj),(n:Int),(i':Int),(b'':List aj),(nb:Int),(j:Int),(b3:List aj),(o':List aj),(m:aj),⟨⟩⟩ hI;dsimp only at hI ⊢;obtain⟨rfl,rfl,rfl,rfl,rfl,k1,k2,rfl,rfl,k3,k4,k5⟩:=hI;have lo:(o'.length:Int)<=12*i'+j:=by
   rw [k3,List.length_append,List.length_map];have:=List.length_take_le j.toNat b3;omega
  by_cases hj:j<b3.length
  .obtain⟨m1,m2⟩:=mm i' j h3 h9 k1 hj;have e1:=m1.le;have e2:=m2.le;have la:(((a'').getD (i').toNat default).atoms++((b3).getD (j).toNat default).atoms).length<=8:=by rw [List.length_append];omega
   have hm:=DT (show 0<=((a'').getD (i').toNat default).aW by have:=m1.1;omega) (by have:=m1.1;omega) (show 0<=((b3).getD (j).toNat default).aW by have:=m2.1;omega) (by have:=m2.1;omega);simp (disch:=omega) only [RR,hp3 ((a'').getD (i').toNat default).atoms ((b3).getD (j).toNat default).atoms ah ah,hf3 ((a'').getD (i').toNat default).atoms ((b3).getD (j).toNat default).atoms ah ah,hp4 _ la,hf4 _ la,U0.hp,U0.hf];refine⟨λ_=>⟨ah,ah,by simp only [List.length_cons,List.length_nil];omega,⟨ah,ah,?_,⟨?_,?_⟩,?_⟩,ah⟩,λh=>by omega⟩
   .rw [<-bB (d:=default) k1 hj rfl,List.map_append,k3,List.append_assoc];rfl
   .rw [List.length_append];simp only [List.length_cons,List.length_nil];omega
   .intro m hm;rw [List.mem_append,List.mem_singleton]at hm;rcases hm with hm | rfl
    .exact k4.2 m hm
    .dsimp only;rw [qc];omega
   .intro m hm;rw [List.mem_append,List.mem_singleton]at hm;rcases hm with hm | rfl
    .exact k5 m hm
    .dsimp only;omega
  .simp (disch:=omega) only [RR];refine⟨λh=>absurd h hj,λ_=>⟨⟨ah,ah,?_,ah,k4,k5⟩,ah⟩⟩;rw [<-bB (d:=default) h3 h9 rfl,FP,<-h5,k3,List.take_of_length_le ah]
 .obtain⟨g1,g2⟩:=U2.hf _ h7 h8;refine⟨U2.hp _ h7 h8,?_⟩;rw [g1,g2,h5,List.take_of_length_le ah]
noncomputable def fP (a:List aj) (n:Int):List aj:=if bp (aF a)&&inB n 0 65535 then(jk a (bK n)).2 else []
def Ia(n:Int):Sh (bK n):=by
 unfold bK;split
 .exact⟨by simp,λm hm=>by rw [List.mem_singleton]at hm;subst hm;simp⟩
 .exact⟨by simp,λm hm=>absurd hm (by simp)⟩
structure Y22(pp:Int×Unit->Bool)(ff:Int×Unit->List aj×Unit):Prop where
 hp:∀n,pp (n,())=true
 hf:∀n,ff (n,())=(bK n,())
structure Y23(pp:List aj×List aj×Unit->Bool)(ff:List aj×List aj×Unit->Bool×List aj×Unit):Prop where
 hp:∀a b,Sh a->Sh b->pp (a,b,())=true
 hf:∀a b,Sh a->Sh b->ff (a,b,())=((jk a b).1,(jk a b).2,())
def aqZ{p1 f1 p2 f2 p3 f3 p4 f4}(U1:Y11 p1 f1)(U2:Y22 p2 f2)(U3:Y9 p3 f3)(U4:Y23 p4 f4)(a:List aj)(n:Int)(ha:Sh a):abk.F (p1,f1,p2,f2,p3,f3,p4,f4,()) (a,n,()) (λy=>y=(fP a n,())):=by
 dsimp only [abk,gm];simp (disch:=omega) only [RR,U1.hp a ha,U1.hf a ha,U2.hp,U2.hf,U3.hp,U3.hf,U4.hp a _ ha (Ia n),U4.hf a _ ha (Ia n)];unfold fP;refine⟨λh=> ?_,λ⟨h1,h2⟩=> ?_⟩
 .rw [if_neg];rw [Bool.and_eq_true];rintro⟨g1,g2⟩;rcases h with h | h
  .rw [g1]at h;cases h
  .rw [g2]at h;cases h
 .rw [h1,h2];rfl
noncomputable def sO (op:Int) (x y:List aj):List aj×Bool:=
 if(bE x).2&& (bE y).2 then(bK (wdo op (bE x).1 (bE y).1),true)
 else if dU x y=0/\op=4 then(x,true)
 else if dU x y=0 then([],true)
 else if(bE x).2 then
  (if op=4/\(bE x).1=0 then([],true)else if(op=4/\(bE x).1=65535)\/(op=5/\(bE x).1=0)then(y,true)else([],false))
 else if(bE y).2 then
  (if op=4/\(bE y).1=0 then([],true)else if(op=4/\(bE y).1=65535)\/(op=5/\(bE y).1=0)then(x,true)else([],false))
 else([],false)
noncomputable def dw (op:Int) (x y:List aj):List aj×Bool:=
 if op=1 then((jO x y).2,(jO x y).1)else if op=2 then((jO x (fP y 65535)).2,(jO x (fP y 65535)).1)else if op=3 then((jk x y).2,(jk x y).1)else sO op x y
def aF.sh{l:List aj}:aF l->Sh l:=λh=>⟨by have:=h.len;omega,λm hm=>by have:=(h.at hm).le;omega⟩
def agx(l:List aj):Sh (jf l).2:=by
 unfold jf;by_cases h:aF (nf l)
 .rw [aV h];exact h.sh
 .rw [bP h];exact⟨by simp,λm hm=>absurd hm (by simp)⟩
def iE:Sh []:=⟨by simp,λm hm=>absurd hm (by simp)⟩
def agy(a b:List aj):Sh (jk a b).2:=by unfold jk;split;exact agx _;exact iE
def wF(a:List aj)(n:Int):Sh (fP a n):=by unfold fP;split;exact agy _ _;exact iE
structure Y24(pp:Int×Int×Int×Unit->Bool)(ff:Int×Int×Int×Unit->Int×Unit):Prop where
 hp:∀op a b,pp (op,a,b,())=true
 hf:∀op a b,ff (op,a,b,())=(wdo op a b,())
structure Y25(pp:List aj×List aj×Unit->Bool)(ff:List aj×List aj×Unit->Bool×List aj×Unit):Prop where
 hp:∀a b,Sh a->Sh b->pp (a,b,())=true
 hf:∀a b,Sh a->Sh b->ff (a,b,())=((jO a b).1,(jO a b).2,())
structure Y26(pp:List aj×Int×Unit->Bool)(ff:List aj×Int×Unit->List aj×Unit):Prop where
 hp:∀a n,Sh a->pp (a,n,())=true
 hf:∀a n,Sh a->ff (a,n,())=(fP a n,())
structure Y27(pp:List aj×Unit->Bool)(ff:List aj×Unit->Int×Bool×Unit):Prop where
 hp:∀a,Sh a->pp (a,())=true
 hf:∀a,Sh a->ff (a,())=((bE a).1,(bE a).2,())
def aq0{p1 f1 p2 f2 p3 f3 p4 f4 p5 f5 p6 f6 p7 f7}(U1:Y14 p1 f1)(U2:Y22 p2 f2)(U3:Y24 p3 f3)(U4:Y25 p4 f4)(U5:Y23 p5 f5)(U6:Y26 p6 f6)(U7:Y27 p7 f7)(op:Int)(x y:List aj)(hx:Sh x)(hy:Sh y):abl.F (p1,f1,p2,f2,p3,f3,p4,f4,p5,f5,p6,f6,p7,f7,()) (op,x,y,()) (λz=>z=((dw op x y).1,(dw op x y).2,())):=by
 dsimp only [abl,gm];simp (disch:=omega) only [RR,U1.hp x y hx,U1.hf x y hx,U2.hp,U2.hf,U3.hp,U3.hf,U4.hp x y hx hy,U4.hf x y hx hy,U4.hp x _ hx (wF y 65535),U4.hf x _ hx (wF y 65535),U5.hp x y hx hy,U5.hf x y hx hy,U6.hp y _ hy,U6.hf y _ hy,U7.hp x hx,U7.hf x hx,U7.hp y hy,U7.hf y hy];unfold dw;refine⟨λh=>by rw [if_pos h],λh=>⟨λh1=>by rw [if_neg h,if_pos h1],λh1=>⟨λh2=>by rw [if_neg h,if_neg h1,if_pos h2],λh2=> ?_⟩⟩⟩;rw [if_neg h,if_neg h1,if_neg h2];unfold sO;generalize bE x=nx;generalize bE y=ny;obtain⟨n,bn⟩:=nx;obtain⟨m,bm⟩:=ny;dsimp only;by_cases e:dU x y=0<;>by_cases o4:op=4<;>cases bn<;>cases bm<;>simp [e,o4]
 .by_cases c:m=0<;>by_cases c2:m=65535<;>simp [c,c2]
 .by_cases c:n=0<;>by_cases c2:n=65535<;>simp [c,c2]
 .by_cases c:op=5<;>by_cases c2:m=0<;>simp [c,c2]
 .by_cases c:op=5<;>by_cases c2:n=0<;>simp [c,c2]
noncomputable def tDo (t:List Atom) (op:Int) (x y:List aj):List Atom×List aj:=
 if(dw op x y).2 then(t,(dw op x y).1)else
 if op≠2/\0<dU x y then(if(aI t ⟨4,op,y,x⟩).2<0 then([],[])else((aI t ⟨4,op,y,x⟩).1,bQ (aI t ⟨4,op,y,x⟩).2))
 else(if(aI t ⟨4,op,x,y⟩).2<0 then([],[])else((aI t ⟨4,op,x,y⟩).1,bQ (aI t ⟨4,op,x,y⟩).2))
noncomputable def tOk (t:List Atom) (op:Int) (x y:List aj):Bool:=(dw op x y).2 || !decide ((if op≠2/\0<dU x y then(aI t ⟨4,op,y,x⟩).2 else(aI t ⟨4,op,x,y⟩).2)<0)
structure Y28(pp:Int×Unit->Bool)(ff:Int×Unit->List aj×Unit):Prop where
 hp:∀n,pp (n,())=true
 hf:∀n,ff (n,())=(bQ n,())
def aq1{p1 f1 p4 f4}(U1:Y8 p1 f1){p2:Int×List aj×List aj×Unit->Bool}{f2:Int×List aj×List aj×Unit->List aj×Bool×Unit}(hp2:∀op x y,Sh x->Sh y->p2 (op,x,y,())=true)(hf2:∀op x y,Sh x->Sh y->f2 (op,x,y,())=((dw op x y).1,(dw op x y).2,())){p3:List Atom×Atom×Unit->Bool}{f3:List Atom×Atom×Unit->List Atom×Int×Unit}(hp3:∀t a,t.length<1000000000->ShA a->p3 (t,a,())=true)(hf3:∀t a,t.length<1000000000->ShA a->f3 (t,a,())=((aI t a).1,(aI t a).2,()))(U4:Y28 p4 f4)(t:List Atom)(op:Int)(x y:List aj)(ht:t.length<1000000000)(hx:Sh x)(hy:Sh y):abm.F (p1,f1,p2,f2,p3,f3,p4,f4,()) (t,op,x,y,()) (λz=>z.1=(tDo t op x y).1/\z.2.1=(tDo t op x y).2/\z.2.2.1=tOk t op x y):=by
 have s1:ShA ⟨4,op,x,y⟩:=⟨hx,hy⟩;have s2:ShA ⟨4,op,y,x⟩:=⟨hy,hx⟩;dsimp only [abm,gm];simp (disch:=omega) only [RR,U1.hp x y hx,U1.hf x y hx,hp2 op x y hx hy,hf2 op x y hx hy,hp3 t _ ht s1,hf3 t _ ht s1,hp3 t _ ht s2,hf3 t _ ht s2,U4.hp,U4.hf];unfold tDo tOk;refine⟨λh=>by rw [if_pos h,h];exact⟨rfl,rfl,rfl⟩,λh=> ?_⟩;rw [if_neg (by rw [h];simp),h,Bool.false_or];generalize aI t ⟨4,op,y,x⟩=r1;generalize aI t ⟨4,op,x,y⟩=r2;generalize dU x y=o;by_cases c1:op=2<;>by_cases c2:0<o<;>by_cases c3:r1.2<0<;>by_cases c4:r2.2<0<;>simp [c1,c2,c3,c4]
noncomputable def rO (t:List Atom) (op:Int) (x y:List aj):List Atom×List aj:=
 @ite _ (aC t/\(1<=op/\op<=5)/\aF x/\aF y/\aN x t.length/\aN y t.length) (Classical.propDecidable _) (tDo t op x y) ([],[])
def abT(n:Int):Sh (bQ n):=by
 unfold bQ;split
 .exact⟨by simp,λm hm=>by rw [List.mem_singleton]at hm;subst hm;simp⟩
 .exact iE
def agz:ShT []:=⟨by simp,λm hm=>absurd hm (by simp)⟩
structure Y29(pp:List Atom×Unit->Bool)(ff:List Atom×Unit->Bool×Unit):Prop where
 hp:∀a,ShT a->pp (a,())=true
 hf:∀a,ShT a->ff (a,())=(bp (aC a),())
structure Y30(pp:List Atom×Int×List aj×List aj×Unit->Bool)(ff:List Atom×Int×List aj×List aj×Unit->List Atom×List aj×Bool×Unit):Prop where
 hp:∀(t:List Atom) op x y,t.length<1000000000->Sh x->Sh y->pp (t,op,x,y,())=true
 hf:∀(t:List Atom) op x y,t.length<1000000000->Sh x->Sh y->(ff (t,op,x,y,())).1=(tDo t op x y).1/\(ff (t,op,x,y,())).2.1=(tDo t op x y).2/\(ff (t,op,x,y,())).2.2.1=tOk t op x y
structure Y31(pp:List Atom×Unit->Bool)(ff:List Atom×Unit->List Atom×Unit):Prop where
 hp:∀a,ShT a->pp (a,())=true
 hf:∀a,ShT a->ff (a,())=(a,())
def aq2{p1 f1}(U1:Y9 p1 f1):abv.F (p1,f1,()) () (λz=>z=(true,())):=by
 dsimp only [abv,gm];simp (disch:=omega) only [RR,U1.hp,U1.hf];rfl
def DU{α:Type}{d:α}{a b:List α}(h:a.length=b.length)(h2:All a.length (λi=>a.getD i.toNat d=b.getD i.toNat d)):a=b:=by
 refine List.ext_getElem h λi h3 h4=> ?_
 have:=h2 i ah ah;dsimp only at this;rw [show(i:Int).toNat=i from rfl,getD_lt h3,getD_lt h4]at this;exact this
def aiu(a b:List Int)(ha:a.length<1000000000):abC.F () (a,b,()) (λz=>z=(bp (a=b),())):=by
 dsimp only [abC,gm];simp (disch:=omega) only [RR];refine⟨λh=> ?_,λh=> ?_⟩
 .rw [bP (λe=>h (by rw [e]))]
 have hl:a.length=b.length:=by omega
 refine ak (λ(y:List Int×List Int×Int×Unit)=>y.1=a/\y.2.1=b/\0<=y.2.2.1/\y.2.2.1<=a.length/\All y.2.2.1 (λi=>a.getD i.toNat default=b.getD i.toNat default)) (λy=>(a.length-y.2.2.1).toNat) ⟨rfl,rfl,by simp,by simp,All.zero⟩ ?_;rintro⟨(l1:List Int),(l2:List Int),(i:Int),⟨⟩⟩ hI;dsimp only at hI ⊢;obtain⟨rfl,rfl,h1,h2,h3⟩:=hI;simp (disch:=omega) only [RR];refine⟨λh4=>⟨ah,ah,ah,ah,λh5=> ?_,λh5=>⟨⟨ah,ah,h3.snoc h5⟩,ah⟩⟩,λh4=> ?_⟩
 .rw [bP (λe=>h5 (by rw [e]))]
 .rw [aV (DU hl (h3.le ah))]
structure Y32(pp:List Int×List Int×Unit->Bool)(ff:List Int×List Int×Unit->Bool×Unit):Prop where
 hp:∀a b,a.length<1000000000->pp (a,b,())=true
 hf:∀a b,a.length<1000000000->ff (a,b,())=(bp (a=b),())
def aq3{p f}(U:Y32 p f)(a b:List aj)(ha:Sh a):abE.F (p,f,()) (a,b,()) (λz=>z=(bp (a=b),())):=by
 have hlen:=ha.1;dsimp only [abE,gm];simp (disch:=omega) only [RR];refine⟨λh=> ?_,λh=> ?_⟩
 .rw [bP (λe=>h (by rw [e]))]
 have hl:a.length=b.length:=by omega
 refine ak (λ(y:Int×List aj×List aj×Unit)=>y.2.1=a/\y.2.2.1=b/\0<=y.1/\y.1<=a.length/\All y.1 (λi=>a.getD i.toNat default=b.getD i.toNat default)) (λy=>(a.length-y.1).toNat) ⟨rfl,rfl,by simp,by simp,All.zero⟩ ?_;rintro⟨(i:Int),(l1:List aj),(l2:List aj),⟨⟩⟩ hI;dsimp only at hI ⊢;obtain⟨rfl,rfl,h1,h2,h3⟩:=hI;simp (disch:=omega) only [RR,U.hp _ _ (ha.at _),U.hf _ _ (ha.at _),aQ,jh];refine⟨λh4=>⟨ah,ah,ah,ah,ah,ah,ah,ah,λh5=> ?_,λh5=>⟨⟨ah,ah,h3.snoc ?_⟩,ah⟩⟩,λh4=> ?_⟩
 .rw [bP];intro e;rw [e]at h5;rcases h5 with h5 | h5<;>exact h5 rfl
 .obtain⟨e1,e2⟩:=h5;generalize ((l1).getD (i).toNat default)=u at e1 e2 ⊢;generalize ((l2).getD (i).toNat default)=v at e1 e2 ⊢;cases u;cases v;simp_all
 .rw [aV (DU hl (h3.le ah))]
structure Y33(pp:List aj×List aj×Unit->Bool)(ff:List aj×List aj×Unit->Bool×Unit):Prop where
 hp:∀a b,Sh a->pp (a,b,())=true
 hf:∀a b,Sh a->ff (a,b,())=(bp (a=b),())
def aq4{p f}(U:Y33 p f)(a b:List Atom)(ha:ShT a):abF.F (p,f,()) (a,b,()) (λz=>z=(bp (a=b),())):=by
 have hlen:=ha.1;dsimp only [abF,gm];simp (disch:=omega) only [RR];refine⟨λh=> ?_,λh=> ?_⟩
 .rw [bP (λe=>h (by rw [e]))]
 have hl:a.length=b.length:=by omega
 refine ak (λ(y:Int×List Atom×List Atom×Unit)=>y.2.1=a/\y.2.2.1=b/\0<=y.1/\y.1<=a.length/\All y.1 (λi=>a.getD i.toNat default=b.getD i.toNat default)) (λy=>(a.length-y.1).toNat) ⟨rfl,rfl,by simp,by simp,All.zero⟩ ?_;rintro⟨(i:Int),(l1:List Atom),(l2:List Atom),⟨⟩⟩ hI;dsimp only at hI ⊢;obtain⟨rfl,rfl,h1,h2,h3⟩:=hI;simp (disch:=omega) only [RR,U.hp _ _ (ha.at _).1,U.hf _ _ (ha.at _).1,U.hp _ _ (ha.at _).2,U.hf _ _ (ha.at _).2,aQ,jh];refine⟨λh4=>⟨ah,ah,ah,ah,λh5=> ?_,λh5=>⟨⟨ah,ah,h3.snoc ?_⟩,ah⟩⟩,λh4=> ?_⟩
 .rw [bP];intro e;rw [e]at h5;rcases h5 with((h5 | h5) | h5) | h5<;>exact h5 rfl
 .obtain⟨⟨⟨e1,e2⟩,e3⟩,e4⟩:=h5;generalize ((l1).getD (i).toNat default)=u at e1 e2 e3 e4 ⊢;generalize ((l2).getD (i).toNat default)=v at e1 e2 e3 e4 ⊢;cases u;cases v;simp_all
 .rw [aV (DU hl (h3.le ah))]
def abU{a b:Int}:or2 a b=0↔a=0/\b=0:=by unfold or2;split<;>omega
def Ib{a b:aj}:Dw a b=0↔a=b:=by
 unfold Dw;rw [abU,gU,iV];constructor
 .rintro⟨h1,h2⟩;cases a;cases b;simp_all
 .rintro rfl;exact⟨rfl,rfl⟩
def Xu(a b:aj):Dw b a= -Dw a b:=by
 unfold Dw or2;rw [jL,wD];repeat' split<;>omega
def Ic:∀a b:List aj,wN b a= -wN a b
 | [],[]=>rfl | [],_::_=>rfl | _::_,[]=>rfl
 | a::az,b::bs=>by
  simp only [wN,Xu a b,Ic az bs];split<;>split<;>omega
def Ie:∀ {a b:List aj},a.length=b.length->wN a b=0->a=b
 | [],[],_,_=>rfl | [],_::_,h,_=>by simp at h
 | _::_,[],h,_=>by simp at h
 | a::az,b::bs,hl,h=>by
  simp only [wN]at h;split at h
  .exact absurd h (by assumption)
  .rename_i h1;rw [Ib.1 (Classical.not_not.1 h1),Ie (by simpa using hl) h]
def Ig:∀a:List aj,wN a a=0
 | []=>rfl
 | a::az=>by simp only [wN,Ib.2 rfl];simp [Ig az]
def BS(a b:List aj):dU b a= -dU a b:=by
 unfold dU;rw [wD,Ic];repeat' split<;>omega
def iW{a b:List aj}:dU a b=0↔a=b:=by
 unfold dU;constructor
 .intro h;split at h
  .exact absurd h (by assumption)
  .rename_i h1;have:=iV.1 (Classical.not_not.1 h1);exact Ie ah h
 .rintro rfl;rw [if_neg (by rw [iV.2 rfl];simp),Ig]
def mW{a b:Atom}:rM a b=true↔a=b:=by
 unfold rM;rw [Bool.and_eq_true,Bool.and_eq_true,Bool.and_eq_true,decide_eq_true_eq,decide_eq_true_eq,decide_eq_true_eq,decide_eq_true_eq,iW,iW];constructor
 .rintro⟨⟨⟨h1,h2⟩,h3⟩,h4⟩;cases a;cases b;simp_all
 .rintro rfl;exact⟨⟨⟨rfl,rfl⟩,rfl⟩,rfl⟩
def mI{α:Type}{d:α}{l:List α}{G:α->Prop}:All l.length (λi=>G (l.getD i.toNat d))↔∀m∈l,G m:=by
 constructor
 .intro h m hm;obtain⟨i,hi,rfl⟩:=List.getElem_of_mem hm;have:=h i ah ah;dsimp only at this;rw [show(i:Int).toNat=i from rfl,getD_lt hi]at this;exact this
 .intro h i h1 h2;exact h _ (bN h1 h2)
def bM{p:List aj}{n:Int}:aN p n↔∀m∈p,∀k∈m.atoms,k<n:=by
 unfold aN JG;rw [mI (d:=default) (G:=λm:aj=>All m.atoms.length (λi=>¬n<=m.atoms.getD i.toNat default))];refine forall_congr' λm=>forall_congr' λ_=> ?_
 rw [mI (d:=default) (G:=λk:Int=>¬n<=k)];exact forall_congr' λk=>forall_congr' λ_=>by omega
def dh{α:Type}{d:α}{R:α->α->Prop}(tr:∀ {a b c},R a b->R b c->R a c){l:List α}:l.Pairwise R↔∀i:Int,0<i->i<l.length->R (l.getD (i-1).toNat d) (l.getD i.toNat d):=by
 rw [List.pairwise_iff_getElem];constructor
 .intro h i h1 h2;rw [getD_lt ah,getD_lt ah];exact h _ _ ah ah ah
 .intro h i j hi hj hij;obtain⟨n,rfl⟩:∃n,j=i+1+n:=⟨j-i-1,ah⟩
  clear hij
  induction n with
  | zero=>
   have:=h (i+1:Nat) ah ah;rw [show(((i+1:Nat):Int)-1).toNat=i by omega,show(((i+1:Nat):Int)).toNat=i+1 by omega,getD_lt hi,getD_lt ah]at this;exact this
  | succ n ih=>
   have h1:=ih ah;have:=h (i+1+n+1:Nat) ah ah;rw [show(((i+1+n+1:Nat):Int)-1).toNat=i+1+n by omega,show(((i+1+n+1:Nat):Int)).toNat=i+1+n+1 by omega,getD_lt ah,getD_lt ah]at this;exact tr h1 this
def JK{l:List Int}:Srt l↔l.Pairwise (· <= ·):=by
 rw [dh (d:=default) (R:=λa b:Int=>a<=b) (λh1 h2=>Int.le_trans h1 h2)];unfold Srt;constructor
 .intro h i h1 h2;have:=h (i-1) ah ah;dsimp only at this;rw [show i-1+1=i by omega]at this;exact this
 .intro h i h1 h2;have:=h (i+1) ah ah;rw [show i+1-1=i by omega]at this;exact this
def dZ{a b c:aj}(h1:lt a b)(h2:lt b c):lt a c:=dz (le_of_lt h1) h2
def aok(l:List Int):Prop:=l.Pairwise (· <= ·)/\∀k∈l,0<=k/\k<=199
def eD{p:List aj}:aF p↔Nf p/\p.length<=12/\∀m∈p,m.atoms.length<=4/\aok m.atoms:=by
 constructor
 .rintro⟨h1,h2,h3,h4⟩;have h1':∀m∈p,mOk m:=mI (d:=default) (G:=mOk).1 (λi g1 g2=>(h1 i g1 g2).1);have h4':∀m∈p,¬(0<m.atoms.length/\m.atoms.getD 0 default<0):=mI (d:=default) (G:=λm:aj=>¬(0<m.atoms.length/\m.atoms.getD 0 default<0)).1 h4;refine⟨⟨(dh (d:=default) (R:=lt) dZ).2 λi g1 g2=>(h1 i ah g2).2 g1,λm hm=>(h1' m hm).1⟩,h2,λm hm=>⟨(h1' m hm).2.1,JK.1 (h1' m hm).2.2,λk hk=>⟨?_,by have:=bM.1 h3 m hm k hk;omega⟩⟩⟩;have hs:=JK.1 (h1' m hm).2.2;have hn:=h4' m hm;cases ha:m.atoms with
  | nil=>rw [ha]at hk;exact absurd hk (by simp)
  | cons b l=>
   rw [ha]at hk hs hn;simp at hn;rcases List.mem_cons.1 hk with rfl | hk
   .exact hn
   .have:=List.rel_of_pairwise_cons hs hk;omega
 .rintro⟨h1,h2,h3⟩;refine⟨λi g1 g2=>⟨⟨h1.co _ (bN g1 g2),(h3 _ (bN g1 g2)).1,JK.2 (h3 _ (bN g1 g2)).2.1⟩,λg3=>(dh (d:=default) (R:=lt) dZ).1 h1.ss i g3 g2⟩,h2,bM.2 λm hm k hk=>by have:=((h3 m hm).2.2 k hk);omega,?_⟩;refine mI (d:=default) (G:=λm:aj=>¬(0<m.atoms.length/\m.atoms.getD 0 default<0)).2 λm hm=> ?_
  rintro⟨g1,g2⟩;have:=(h3 m hm).2.2 _ (bN (i:=0) (d:=default) (xs:=m.atoms) ah ah);rw [show Int.toNat 0=0 from rfl]at this;omega
def abV{l:List aj}{k:List Int}(h:cf l k≠0):∃m∈l,m.atoms=k:=Classical.byContradiction λh2=>h (fT λm hm e=>h2 ⟨m,hm,e⟩)
def Nf.cf{o:List aj}(h:Nf o){m:aj}(hm:m∈o):cf o m.atoms=m.aW:=by
 induction o with
 | nil=>exact absurd hm (by simp)
 | cons a o ih=>
  rw [aP];rcases List.mem_cons.1 hm with rfl | hm
  .rw [if_pos rfl,fT (λm' hm'=>((List.rel_of_pairwise_cons h.ss hm').ne).symm)];omega
  .rw [if_neg (List.rel_of_pairwise_cons h.ss hm).ne,ih ⟨h.ss.tail,λm hm=>h.co m (by simp [hm])⟩ hm];omega
def Nf.from{o l:List aj}(h:Nf o)(h2:∀k,F.cf o k=F.cf l k%65536){m:aj}(hm:m∈o):∃m'∈l,m'.atoms=m.atoms:=by
 refine abV λe=> ?_
 have:=h2 m.atoms;rw [h.cf hm,e]at this;have:=h.co m hm;omega
def Nf.bnd{o:List aj}(h:Nf o)(k:List Int):0<=F.cf o k/\F.cf o k<=65535:=by
 by_cases e:F.cf o k=0
 .omega
 .obtain⟨m,hm,rfl⟩:=abV e;rw [h.cf hm];have:=h.co m hm;omega
def wG{o:List aj}(h:Nf o):nf o=o:=FN h λk=>by have:=h.bnd k;omega
def agA{l o:List aj}(h:Nf o)(h2:∀k,F.cf o k=F.cf l k%65536)(h3:∀m∈l,aok m.atoms):
  jf l=(decide (o.length<=12/\∀m∈o,m.atoms.length<=4),if o.length<=12/\∀m∈o,m.atoms.length<=4 then o else []):=by
 unfold jf;rw [FN h h2];by_cases c:o.length<=12/\∀m∈o,m.atoms.length<=4
 .have:aF o:=eD.2 ⟨h,c.1,λm hm=>⟨c.2 m hm,by obtain⟨m',g1,g2⟩:=h.from h2 hm;rw [<-g2];exact h3 m' g1⟩⟩;rw [aV this,decide_eq_true c,if_pos rfl,if_pos c]
 .have:¬aF o:=λg=>c ⟨(eD.1 g).2.1,λm hm=>((eD.1 g).2.2 m hm).1⟩
  rw [bP this,decide_eq_false c,if_neg (by simp),if_neg c]
def abW(a b c:Int):Pn.F () (a,b,c,()) (λy=>y=(inB a b c,())):=by
 dsimp only [Pn,gm];simp (disch:=omega) only [RR];rfl
def abX(a:Int):Po.F () (a,()) (λy=>y=(inB a 0 65535,())):=by
 dsimp only [Po,gm];simp (disch:=omega) only [RR];refine congrArg (λb=>(b,())) ?_;rw [Bool.eq_iff_iff,bL,Bool.and_eq_true,decide_eq_true_eq,decide_eq_true_eq];omega
def akX{p1 f1}(U1:Y1 p1 f1)(a:Int):
  QW.F (p1,f1,()) (a,()) (λy=>y=(bK a,())):=by
 dsimp only [QW,gm];simp (disch:=omega) only [RR,U1.hp,U1.hf,bL,ji];unfold bK;exact⟨λh=>by rw [if_neg ah],λh=>by rw [if_pos ah]⟩
def akY{p1 f1}(U1:Y1 p1 f1)(a:Int):
  QD.F (p1,f1,()) (a,()) (λy=>y=(bQ a,())):=by
 dsimp only [QD,gm];simp (disch:=omega) only [RR,U1.hp,U1.hf,bL,ji];unfold bQ;exact⟨λh=>by rw [if_neg ah],λh=>by rw [if_pos ah]⟩
def abY(a:Int):a.tmod 65536=if 0<=a then a%65536 else- (-a%65536):=by
 split
 .rw [Int.tmod_eq_emod_of_nonneg ah]
 .have:=Int.neg_tmod (-a) 65536;rw [Int.neg_neg]at this;rw [this,Int.tmod_eq_emod_of_nonneg ah]
def abZ(a:Int):Ql.F () (a,()) (λy=>y=(a%65536,())):=by
 dsimp only [Ql,gm];simp only [abN];by_cases h:0<=a
 .rw [show a.tmod 65536=a%65536 by rw [abY,if_pos h]];simp (disch:=omega) only [RR];refine⟨ah,λh2=> ?_⟩;exfalso;omega
 .rw [show a.tmod 65536= - (-a%65536) by rw [abY,if_neg h]];simp (disch:=omega) only [RR];refine⟨ah,λh2=> ?_,λh2=> ?_⟩
  .rw [show-(-a%65536)+65536=a%65536 by omega]
  .rw [show-(-a%65536)=a%65536 by omega]
def ab0(a b:List Int)(ha:a.length<1000000000):QF.F () (a,b,()) (λy=>y=(cB a b,())):=by
 dsimp only [QF,gm];simp (disch:=omega) only [RR];refine⟨λh=>⟨λh1=> ?_,λh1=> ?_⟩,λh=> ?_⟩
 .rw [show cB a b= -1 by(have e:gZ a.length b.length= -1:=by unfold gZ;rw [if_pos h1]);unfold cB or2;rw [e];rfl]
 .rw [show cB a b=1 by(have e:gZ a.length b.length=1:=by unfold gZ;rw [if_neg h1,if_pos ah]);unfold cB or2;rw [e];rfl]
 have hl:a.length=b.length:=by omega
 have e0:cB a b=jX a b:=by unfold cB or2;rw [iV.2 ah,if_neg (by simp)]
 refine ak (λ(y:List Int×List Int×Int×Unit)=>y.1=a/\y.2.1=b/\0<=y.2.2.1/\y.2.2.1<=a.length/\cB a b=jX (a.drop y.2.2.1.toNat) (b.drop y.2.2.1.toNat)) (λy=>(a.length-y.2.2.1).toNat) ⟨rfl,rfl,by simp,by simp,by simpa using e0⟩ ?_;rintro⟨(l1:List Int),(l2:List Int),(i:Int),⟨⟩⟩ hI;dsimp only at hI ⊢;obtain⟨rfl,rfl,h1,h2,h3⟩:=hI;simp (disch:=omega) only [RR];refine⟨λh4=> ?_,λh4=> ?_⟩
 .have e:=BN l1 l2 i.toNat ah ah;rw [getD_lt ah,getD_lt ah];refine⟨ah,ah,ah,ah,λh5=> ?_,λh5=>⟨ah,ah,ah,ah,λh6=> ?_,λh6=>⟨⟨ah,ah,?_⟩,ah⟩⟩⟩
  .rw [h3,e,show gZ l1[i.toNat] l2[i.toNat]= -1 by unfold gZ;rw [if_pos h5]];rfl
  .rw [h3,e,show gZ l1[i.toNat] l2[i.toNat]=1 by unfold gZ;rw [if_neg h5,if_pos h6]];rfl
  .rw [h3,e,show gZ l1[i.toNat] l2[i.toNat]=0 by unfold gZ;rw [if_neg h5,if_neg h6],show(i+1).toNat=i.toNat+1 by omega];rfl
 .rw [h3,List.drop_eq_nil_of_le ah,List.drop_eq_nil_of_le ah];rfl
def akZ{p1 f1}(U1:Y1 p1 f1)(m:aj)(hm:m.atoms.length<1000000000):
  QG.F (p1,f1,()) (m,()) (λy=>y=(bp ((1<=m.aW/\m.aW<=65535)/\m.atoms.length<=4/\aok m.atoms),())):=by
 dsimp only [QG,gm];simp (disch:=omega) only [RR,U1.hp,U1.hf,bL,ji];refine⟨λh=> ?_,λ⟨h1,h2⟩=> ?_⟩
 .rw [bP];rintro⟨g1,g2,g3⟩;omega
 refine ak (λ(y:Int×aj×Unit)=>y.2.1=m/\0<=y.1/\y.1<=m.atoms.length/\All y.1 (λi=>(0<=m.atoms.getD i.toNat default/\m.atoms.getD i.toNat default<=199)/\(0<i->m.atoms.getD (i-1).toNat default<=m.atoms.getD i.toNat default))) (λy=>(m.atoms.length-y.1).toNat) ⟨rfl,by simp,by simp,All.zero⟩ ?_;rintro⟨(i:Int),(m':aj),⟨⟩⟩ hI;dsimp only at hI ⊢;obtain⟨rfl,h3,h4,h5⟩:=hI;simp (disch:=omega) only [RR,U1.hp,U1.hf,bL,ji];refine⟨λh6=>⟨ah,ah,by by_cases c:0<i;(· right;omega);(· left;simp [c]),by by_cases c:0<i;(· right;omega);(· left;simp [c]),ah,ah,λh7=> ?_,λh7=>⟨⟨ah,ah,h5.snoc ⟨h7.1,λc=> ?_⟩⟩,ah⟩⟩,λh6=> ?_⟩
 .rw [bP];rintro⟨g1,g2,g3,g4⟩;rcases h7 with h7 | ⟨h7,h8⟩
  .exact h7 (g4 _ (bN h3 h6))
  .have:=(dh (d:=default) (R:=λa b:Int=>a<=b) (λh1 h2=>Int.le_trans h1 h2)).1 g3 i h7 h6;omega
 .have:=h7.2;rw [decide_eq_true c,Bool.true_and,decide_eq_false_iff_not]at this;omega
 .have h8:=h5.le (by omega:(m'.atoms.length:Int)<=i);rw [aV];refine⟨ah,ah,(dh (d:=default) (R:=λa b:Int=>a<=b) (λh1 h2=>Int.le_trans h1 h2)).2 λj j1 j2=>(h8 j ah j2).2 j1,mI (d:=default) (G:=λk:Int=>0<=k/\k<=199).1 λj j1 j2=>(h8 j j1 j2).1⟩
def ak0{p4 f4}{p1:aj×Unit->Bool}{f1:aj×Unit->Bool×Unit}(hp1:∀m:aj,m.atoms.length<1000000000->p1 (m,())=true)(hf1:∀m:aj,m.atoms.length<1000000000->f1 (m,())=(bp ((1<=m.aW/\m.aW<=65535)/\m.atoms.length<=4/\aok m.atoms),()))(U4:Y7 p4 f4)(a:List aj)(ha:Sh a):QH.F (p1,f1,p4,f4,()) (a,()) (λy=>y=(bp (aF a),())):=by
 have hlen:=ha.1;dsimp only [QH,gm];simp (disch:=omega) only [RR];refine⟨λh=> ?_,λh=> ?_⟩
 .rw [bP (λh2=>by have:=h2.len;omega)]
 refine ak (λ(y:Int×List aj×Unit)=>y.2.1=a/\0<=y.1/\y.1<=a.length/\All y.1 (λi=>((1<=((a).getD (i).toNat default).aW/\((a).getD (i).toNat default).aW<=65535)/\((a).getD (i).toNat default).atoms.length<=4/\aok ((a).getD (i).toNat default).atoms)/\(0<i->lt ((a).getD (i-1).toNat default) ((a).getD (i).toNat default)))) (λy=>(a.length-y.1).toNat) ⟨rfl,by simp,by simp,All.zero⟩ ?_;rintro⟨(i:Int),(l':List aj),⟨⟩⟩ hI;dsimp only at hI ⊢;obtain⟨rfl,h1,h2,h3⟩:=hI;simp (disch:=omega) only [RR,hp1 _ (ha.at _),hf1 _ (ha.at _),U4.hp _ _ (ha.at _),U4.hf _ _ (ha.at _),aQ,jh];refine⟨λh4=>⟨ah,ah,by by_cases c:0<i;(· right;omega);(· left;simp [c]),by by_cases c:0<i;(· right;omega);(· left;simp [c]),ah,ah,λh5=> ?_,λh5=>⟨⟨ah,ah,h3.snoc ⟨h5.1,λc=> ?_⟩⟩,ah⟩⟩,λh4=> ?_⟩
 .rw [bP (λh=> ?_)];obtain⟨g1,g2,g3⟩:=eD.1 h;rcases h5 with h5 | ⟨h5,h6⟩
  .exact h5 ⟨g1.co _ (bN h1 h4),g3 _ (bN h1 h4)⟩
  .have:=(dh (d:=default) (R:=lt) dZ).1 g1.ss i h5 h4;unfold lt at this;omega
 .have:=h5.2;rw [decide_eq_true c,Bool.true_and,decide_eq_false_iff_not]at this;unfold lt;omega
 .have h8:=h3.le (by omega:(l'.length:Int)<=i);rw [aV];have h9:=mI (d:=default) (G:=λm:aj=>(1<=m.aW/\m.aW<=65535)/\m.atoms.length<=4/\aok m.atoms).1 λj j1 j2=>(h8 j j1 j2).1
  exact eD.2 ⟨⟨(dh (d:=default) (R:=lt) dZ).2 λj j1 j2=>(h8 j ah j2).2 j1,λm hm=>(h9 m hm).1⟩,ah,λm hm=>(h9 m hm).2⟩
def ab1(a:List aj)(n:Int)(ha:Sh a):QJ.F () (a,n,()) (λy=>y=(bp (aN a n),())):=by
 have hlen:=ha.1;dsimp only [QJ,gm];simp (disch:=omega) only [RR];refine ak (λ(y:Int×Int×List aj×Unit)=>y.1=n/\y.2.2.1=a/\0<=y.2.1/\y.2.1<=a.length/\All y.2.1 (λi=>JG n ((a).getD (i).toNat default))) (λy=>(a.length-y.2.1).toNat) ⟨rfl,rfl,by simp,by simp,All.zero⟩ ?_;rintro⟨(n':Int),(i:Int),(l:List aj),⟨⟩⟩ hI;dsimp only at hI ⊢;obtain⟨rfl,rfl,h1,h2,h3⟩:=hI;simp (disch:=omega) only [RR];refine⟨λh4=> ?_,λh4=> ?_⟩
 .have h5:=ha.at i.toNat;refine ak (λ(y:Int×Int×Int×List aj×Unit)=>y.1=n'/\y.2.1=i/\y.2.2.2.1=l/\0<=y.2.2.1/\y.2.2.1<=((l).getD (i).toNat default).atoms.length/\All y.2.2.1 (λj=>¬n'<=((l).getD (i).toNat default).atoms.getD j.toNat default)) (λy=>(((l).getD (i).toNat default).atoms.length-y.2.2.1).toNat) ⟨rfl,rfl,rfl,by simp,by simp,All.zero⟩ ?_;rintro⟨(n'':Int),(i':Int),(j:Int),(l':List aj),⟨⟩⟩ hI;dsimp only at hI ⊢;obtain⟨rfl,rfl,rfl,g1,g2,g3⟩:=hI;simp (disch:=omega) only [RR];refine⟨ah,ah,λg4=>⟨ah,ah,ah,ah,λg5=> ?_,λg5=>⟨⟨ah,ah,g3.snoc g5⟩,ah⟩⟩,λg4=>⟨⟨ah,ah,h3.snoc (g3.le ah)⟩,ah⟩⟩;rw [bP (λh=>h i' h1 h4 j g1 g4 g5)]
 .rw [aV (show aN l n' from h3.le ah)]
theorem ak1{p4 f4}(U4:Y7 p4 f4)(a b:List aj)(ha:Sh a):QL.F (p4,f4,()) (a,b,()) (λy=>y=(dU a b,())):=by
 have hlen:=ha.1;dsimp only [QL,gm];simp (disch:=omega) only [RR];refine⟨λh=>⟨λh1=> ?_,λh1=> ?_⟩,λh=> ?_⟩
 .rw [show dU a b= -1 by(have e:gZ a.length b.length= -1:=by unfold gZ;rw [if_pos h1]);unfold dU;rw [e];rfl]
 .rw [show dU a b=1 by(have e:gZ a.length b.length=1:=by unfold gZ;rw [if_neg h1,if_pos ah]);unfold dU;rw [e];rfl]
 have hl:a.length=b.length:=by omega
 have e0:dU a b=wN a b:=by unfold dU;rw [iV.2 ah,if_neg (by simp)]
 refine ak (λ(y:Int×List aj×List aj×Unit)=>y.2.1=a/\y.2.2.1=b/\0<=y.1/\y.1<=a.length/\dU a b=wN (a.drop y.1.toNat) (b.drop y.1.toNat)) (λy=>(a.length-y.1).toNat) ⟨rfl,rfl,by simp,by simp,by simpa using e0⟩ ?_;rintro⟨(i:Int),(l:List aj),(l':List aj),⟨⟩⟩ hI;dsimp only at hI ⊢;obtain⟨rfl,rfl,h1,h2,h3⟩:=hI;simp (disch:=omega) only [RR,U4.hp _ _ (ha.at _),U4.hf _ _ (ha.at _)];refine⟨λh4=> ?_,λh4=> ?_⟩
 .have e:=BO l l' i.toNat ah ah;rw [getD_lt ah,getD_lt ah];generalize hu:l[i.toNat]=u at e ⊢;generalize hv:l'[i.toNat]=v at e ⊢;have em:Dw u v=if cB u.atoms v.atoms≠0 then cB u.atoms v.atoms else gZ u.aW v.aW:=rfl
  refine⟨ah,ah,ah,ah,λh5=> ?_,λh5=>⟨ah,ah,ah,ah,λh6=>⟨ah,ah,ah,ah,λh7=> ?_,λh7=> ?_⟩,λh6=>⟨⟨ah,ah,?_⟩,ah⟩⟩⟩
  .rw [if_pos h5]at em;rw [h3,e,em,if_pos h5]
  .rw [if_neg (by simpa using h5),show gZ u.aW v.aW= -1 by unfold gZ;rw [if_pos h7]]at em;rw [h3,e,em];rfl
  .rw [if_neg (by simpa using h5),show gZ u.aW v.aW=1 by unfold gZ;rw [if_neg h7,if_pos ah]]at em;rw [h3,e,em];rfl
  .rw [if_neg (by simpa using h5),iV.2 h6]at em;rw [h3,e,em,show(i+1).toNat=i.toNat+1 by omega];rfl
 .rw [h3,List.drop_eq_nil_of_le ah];rfl
def ab2(a:Atom):QI.F () (a,()) (λy=>y=(bp (a.x=[]/\a.y=[]),())):=by
 dsimp only [QI,gm];simp (disch:=omega) only [RR];refine congrArg (λb=>(b,())) ?_;rw [Bool.eq_iff_iff,aQ,Bool.and_eq_true,decide_eq_true_eq,decide_eq_true_eq];constructor
 .rintro⟨h1,h2⟩;exact⟨List.eq_nil_of_length_eq_zero ah,List.eq_nil_of_length_eq_zero ah⟩
 .rintro⟨h1,h2⟩;rw [h1,h2];exact⟨rfl,rfl⟩
def ak2{p1 f1 p4 f4 p3 f3}(U1:Y1 p1 f1)(U4:Y11 p4 f4)(U3:Y6 p3 f3){p5:Atom×Unit->Bool}{f5:Atom×Unit->Bool×Unit}(hp5:∀a,p5 (a,())=true)(hf5:∀a,f5 (a,())=(bp (a.x=[]/\a.y=[]),()))(a:Atom)(n:Int)(ha:ShA a):
  QK.F (p1,f1,p4,f4,p3,f3,p5,f5,()) (a,n,()) (λy=>y=(bp (dJ a n),())):=by
 obtain⟨hx,hy⟩:=ha;dsimp only [QK,gm];simp (disch:=omega) only [RR,U1.hp,U1.hf,hp5,hf5,U3.hp a.x n hx,U3.hf a.x n hx,U3.hp a.y n hy,U3.hf a.y n hy,U4.hp a.x hx,U4.hf a.x hx,U4.hp a.y hy,U4.hf a.y hy];unfold dJ;have E:∀(b:Bool) (P:Prop),(b=true↔P)->(b,())=(bp P,()):=λb P h=>by
  rw [show b=bp P from Bool.eq_iff_iff.2 (h.trans aQ.symm)]
 have T:∀ {P:Prop},¬P->(false,())=(bp P,()):=λh=>by rw [bP h]
 refine⟨λh=>E _ _ ?_,λh=>⟨λh1=>⟨λ_=>E _ _ ?_,λh'=>absurd h1 h'⟩,λh1=>⟨λh2=>E _ _ ?_,λh2=>⟨λh3=>E _ _ ?_,λh3=>T ?_⟩⟩⟩⟩
 .rw [if_neg ah,Bool.and_eq_true,bL,aQ];constructor
  .rintro⟨g1,g2⟩;exact⟨g2,Or.inl ⟨h,g1⟩⟩
  .rintro⟨g2,⟨_,g1⟩ | ⟨g3,g1⟩⟩
   .exact⟨g1,g2⟩
   .omega
 .rw [if_neg ah,Bool.and_eq_true,bL,aQ];constructor
  .rintro⟨g1,g2⟩;exact⟨g2,Or.inr ⟨Or.inl h1,g1⟩⟩
  .rintro⟨g2,⟨_,g1⟩ | ⟨g3,g1⟩⟩
   .omega
   .exact⟨g1,g2⟩
 .rw [if_neg ah,Bool.and_eq_true,bL,aQ];constructor
  .rintro⟨g1,g2⟩;exact⟨g2,Or.inr ⟨Or.inr h2,g1⟩⟩
  .rintro⟨g2,⟨_,g1⟩ | ⟨g3,g1⟩⟩
   .omega
   .exact⟨g1,g2⟩
 .rw [if_pos h3];simp only [Bool.and_eq_true,bL,aQ,and_assoc]
 .rw [if_neg h3];rintro⟨_,⟨g,_⟩ | ⟨g,_⟩⟩<;>omega
def ak3{p1 f1}(U1:Y8 p1 f1)(a b:Atom)(ha:ShA a):
  QM.F (p1,f1,()) (a,b,()) (λy=>y=(rM a b,())):=by
 dsimp only [QM,gm];simp (disch:=omega) only [RR,U1.hp a.x b.x ha.1,U1.hf a.x b.x ha.1,U1.hp a.y b.y ha.2,U1.hf a.y b.y ha.2];rfl
def ab3(G:Int->Prop):∀n:Nat,∃r,Idx n G r
 | 0=>⟨-1,Or.inl ⟨rfl,All.zero⟩⟩
 | n+1=>by
  obtain⟨r,h⟩:=ab3 G n;rcases h with⟨h1,h2⟩ | ⟨h1,h2,h3,h4⟩
  .by_cases g:G n
   .exact⟨n,Or.inr ⟨ah,ah,g,h2⟩⟩
   .exact⟨-1,Or.inl ⟨rfl,by have:=h2.snoc g;exact this.le ah⟩⟩
  .exact⟨r,Or.inr ⟨h1,ah,h3,h4⟩⟩
def Sv(G:Int->Prop)(n:Nat):Idx n G (idxOf n G):=by
 obtain⟨r,h⟩:=ab3 G n;rw [<-h.eq];exact h
def gJ(t:List Atom)(a:Atom):Idx t.length (λi=>a=t.getD i.toNat default) (jY t a):=by
 have:=Sv (λi=>rM a (t.getD i.toNat default)=true) t.length;simp only [mW]at this;unfold jY;simp only [mW];exact this
def gW{t:List Atom}:aC t↔All t.length (λi=>dJ (t.getD i.toNat default) i/\All i (λj=>¬t.getD i.toNat default=t.getD j.toNat default))/\t.length<=200:=by
 unfold aC;refine and_congr ⟨λh i h1 h2=>⟨(h i h1 h2).1,?_⟩,λh i h1 h2=>⟨(h i h1 h2).1,?_⟩⟩ Iff.rfl
 .have:=gJ t (t.getD i.toNat default);rw [(h i h1 h2).2]at this;rcases this with⟨g1,_⟩ | ⟨_,_,_,g⟩
  .omega
  .exact g
 .exact((gJ t (t.getD i.toNat default)).uniq (Or.inr ⟨h1,h2,rfl,(h i h1 h2).2⟩))
def ak4{p1 f1 p2 f2}(U1:Y18 p1 f1)(U2:Y15 p2 f2)(a:List Atom)(ha:ShT a):
  QN.F (p1,f1,p2,f2,()) (a,()) (λy=>y=(bp (aC a),())):=by
 have hlen:=ha.1;dsimp only [QN,gm];simp (disch:=omega) only [RR];refine⟨λh=> ?_,λh=> ?_⟩
 .rw [bP (λh2=>by have:=h2.2;omega)]
 refine ak (λ(y:Int×List Atom×Unit)=>y.2.1=a/\0<=y.1/\y.1<=a.length/\All y.1 (λi=>dJ ((a).getD (i).toNat default) i/\All i (λj=>¬((a).getD (i).toNat default)=((a).getD (j).toNat default)))) (λy=>(a.length-y.1).toNat) ⟨rfl,by simp,by simp,All.zero⟩ ?_;rintro⟨(i:Int),(l:List Atom),⟨⟩⟩ hI;dsimp only at hI ⊢;obtain⟨rfl,h1,h2,h3⟩:=hI;simp (disch:=omega) only [RR,U1.hp _ _ (ha.at _),U1.hf _ _ (ha.at _),aQ,jh];refine⟨λh4=>⟨ah,ah,λh5=> ?_,λh5=> ?_⟩,λh4=> ?_⟩
 .rw [bP (λh=>h5 (h.1 i h1 h4).1)]
 .refine ak (λ(y:Int×Int×List Atom×Unit)=>y.1=i/\y.2.2.1=l/\0<=y.2.1/\y.2.1<=i/\All y.2.1 (λj=>¬((l).getD (i).toNat default)=((l).getD (j).toNat default))) (λy=>(i-y.2.1).toNat) ⟨rfl,rfl,by simp,by simp;omega,All.zero⟩ ?_;rintro⟨(i':Int),(j:Int),(l':List Atom),⟨⟩⟩ hI;dsimp only at hI ⊢;obtain⟨rfl,rfl,g1,g2,g3⟩:=hI;simp (disch:=omega) only [RR,U2.hp _ _ (ha.at _),U2.hf _ _ (ha.at _)];refine⟨λg4=>⟨ah,ah,ah,ah,λg5=> ?_,λg5=>⟨⟨ah,ah,g3.snoc ?_⟩,ah⟩⟩,λg4=>⟨⟨ah,ah,h3.snoc ⟨h5,g3.le ah⟩⟩,ah⟩⟩
  .rw [bP (λh=>((gW.1 h).1 i' h1 h4).2 j g1 g4 (mW.1 g5).symm)]
  .intro e;rw [mW.2 e.symm]at g5;cases g5
 .rw [aV (gW.2 ⟨h3.le ah,ah⟩)]
def ak5{p4 f4 p3 f3}(U4:Y11 p4 f4)(U3:Y6 p3 f3)(x y:List aj)(n:Int)(hx:Sh x)(hy:Sh y):R9.F (p4,f4,p3,f3,()) (x,y,n,()) (λz=>z=(bp (aF x/\aF y/\aN x n/\aN y n),())):=by
 dsimp only [R9,gm];simp (disch:=omega) only [RR,U3.hp x n hx,U3.hf x n hx,U3.hp y n hy,U3.hf y n hy,U4.hp x hx,U4.hf x hx,U4.hp y hy,U4.hf y hy];refine congrArg (λb=>(b,())) ?_;rw [Bool.eq_iff_iff,aQ];simp only [Bool.and_eq_true,aQ,and_assoc]
def ak6{p1 f1 p2 f2}(U1:Y9 p1 f1)(U2:Y10 p2 f2)(op a b:Int):
  Qm.F (p2,f2,p1,f1,()) (op,a,b,()) (λy=>y=(wdo op a b,())):=by
 dsimp only [Qm,gm];simp (disch:=omega) only [RR,U1.hp,U1.hf,U2.hp,U2.hf,Sq,Sr,bL,ji];by_cases ha:(0<=a/\a<=65535)/\(0<=b/\b<=65535)
 .have hm:0<=a*b/\a*b<=65535*65535:=⟨Int.mul_nonneg ha.1.1 ha.2.1,Int.mul_le_mul ha.1.2 ha.2.2 ha.2.1 ah⟩;rw [w64 (x:=a+b) ah ah,w64 (x:=a-b) ah ah,w64 (x:=a*b) ah ah];unfold wdo;rw [if_pos ha];refine⟨λh=>absurd h ah,λ_=>⟨λh=> ?_,λh=>⟨λh1=> ?_,λh1=>⟨λh2=> ?_,λh2=>⟨λh3=> ?_,λh3=>⟨λh4=> ?_,λh4=> ?_⟩⟩⟩⟩⟩⟩<;>(subst_vars;first | rfl | simp only [if_true,if_false, *])
 .refine⟨λh=> ?_,λh=>absurd h ?_⟩
  .unfold wdo;rw [if_neg ha]
  .exact ha
theorem ak7{p1 f1}(U1:Y11 p1 f1)(a:List aj)(ha:Sh a):
  Q8.F (p1,f1,()) (a,()) (λy=>y=((bE a).1,(bE a).2,())):=by
 dsimp only [Q8,gm];simp (disch:=omega) only [RR,U1.hp a ha,U1.hf a ha];unfold bE;have z:Int.toNat 0=0:=rfl;rw [z];refine⟨λh=> ?_,λh=>⟨λh1=> ?_,λh1=>⟨ah,ah,λh2=> ?_,λh2=>⟨ah,ah,?_⟩⟩⟩⟩
 .rw [if_neg (by simpa using h)]
 .rw [if_pos h,if_pos ah]
 .rw [if_pos h,if_neg ah,if_neg ah]
 .rw [if_pos h,if_neg ah,if_pos ah]
def ab4(a:List aj)(ha:Sh a):QO.F () (a,()) (λy=>y=(a,())):=by
 have hlen:=ha.1;dsimp only [QO,gm];simp (disch:=omega) only [RR];refine ak (λ(y:List aj×Int×List aj×Unit)=>y.1=a/\y.2.2.1=a.take y.2.1.toNat/\0<=y.2.1/\y.2.1<=a.length) (λy=>(a.length-y.2.1).toNat) ⟨rfl,by simp,by simp,by simp⟩ ?_;rintro⟨(l:List aj),(i:Int),(o:List aj),⟨⟩⟩ hI;dsimp only at hI ⊢;obtain⟨rfl,rfl,h1,h2⟩:=hI;have h3:=ha.at i.toNat;have h4:=List.length_take_le' i.toNat l;simp (disch:=omega) only [RR];simp only [List.length_nil,List.nil_append,List.length_cons];refine⟨λh4=>⟨ah,ah,ah,ah,Or.inr ah,ah,ah,⟨bB h1 h4 rfl,ah,ah⟩,ah⟩,λh4=>by rw [List.take_of_length_le ah]⟩
def JL(l:List aj):Prop:=l.length<=12/\∀m∈l,m.atoms.length<=4
def ak8{p1 f1}(U1:Y13 p1 f1)(a:List aj)(ha:Sh a):
  QY.F (p1,f1,()) (a,()) (λy=>y=(bp (JL a),if bp (JL a)then a else [],())):=by
 have hlen:=ha.1;dsimp only [QY,gm];simp (disch:=omega) only [RR];refine⟨λh=> ?_,λh=> ?_⟩
 .rw [bP (λh2=>by have:=h2.1;omega)];rfl
 refine ak (λ(y:List aj×Int×Unit)=>y.1=a/\0<=y.2.1/\y.2.1<=a.length/\All y.2.1 (λi=>((a).getD (i).toNat default).atoms.length<=4)) (λy=>(a.length-y.2.1).toNat) ⟨rfl,by simp,by simp,All.zero⟩ ?_;rintro⟨(l:List aj),(i:Int),⟨⟩⟩ hI;dsimp only at hI ⊢;obtain⟨rfl,h1,h2,h3⟩:=hI;simp (disch:=omega) only [RR,U1.hp l ha,U1.hf l ha];refine⟨λh4=>⟨ah,ah,λh5=> ?_,λh5=>⟨⟨ah,ah,h3.snoc ah⟩,ah⟩⟩,λh4=> ?_⟩
 .rw [bP (λh=>by have:=h.2 _ (bN (d:=default) h1 h4);omega)];rfl
 .rw [aV (show JL l from⟨ah,mI (d:=default) (G:=λm:aj=>m.atoms.length<=4).1 (h3.le ah)⟩)];rfl
def ak9{p1 f1}(U1:Y13 p1 f1)(a:Atom)(ha:ShA a):
  QS.F (p1,f1,()) (a,()) (λy=>y=(a.kind,a.k,a.x,a.y,())):=by
 dsimp only [QS,gm];simp (disch:=omega) only [RR,U1.hp a.x ha.1,U1.hf a.x ha.1,U1.hp a.y ha.2,U1.hf a.y ha.2]
structure Y34(pp:Atom×Unit->Bool)(ff:Atom×Unit->Int×Int×List aj×List aj×Unit):Prop where
 hp:∀a,ShA a->pp (a,())=true
 hf:∀a,ShA a->ff (a,())=(a.kind,a.k,a.x,a.y,())
def ala{p1 f1}(U1:Y34 p1 f1)(a:List Atom)(ha:ShT a):
  QT.F (p1,f1,()) (a,()) (λy=>y=(a,())):=by
 have hlen:=ha.1;dsimp only [QT,gm];simp (disch:=omega) only [RR];refine ak (λ(y:Int×List Atom×List Atom×Unit)=>y.2.1=a/\y.2.2.1=a.take y.1.toNat/\0<=y.1/\y.1<=a.length) (λy=>(a.length-y.1).toNat) ⟨rfl,by simp,by simp,by simp⟩ ?_;rintro⟨(i:Int),(l:List Atom),(o:List Atom),⟨⟩⟩ hI;dsimp only at hI ⊢;obtain⟨rfl,rfl,h1,h2⟩:=hI;simp (disch:=omega) only [RR,U1.hp _ (ha.at _),U1.hf _ (ha.at _)];have h5:=List.length_take_le' i.toNat l;refine⟨λh4=>⟨ah,ah,?_,⟨bB h1 h4 rfl,ah,ah⟩,ah⟩,λh4=>by rw [List.take_of_length_le ah]⟩;simp only [List.length_cons,List.length_nil];omega
def mY{p:List aj}{n m:Int}(h:aN p n)(h2:n<=m):aN p m:=bM.2 λa ha k hk=>by have:=bM.1 h a ha k hk;omega
def ab5{a:Atom}{n m:Int}(h:dJ a n)(h2:n<=m):dJ a m:=by
 unfold dJ at h ⊢;split
 .rename_i h3;rw [if_pos h3]at h;exact⟨h.1,h.2.1,h.2.2.1,mY h.2.2.2.1 h2,mY h.2.2.2.2 h2⟩
 .rename_i h3;rw [if_neg h3]at h;exact h
def alb{p1 f1 p2 f2 p3 f3}(U1:Y18 p1 f1)(U2:Y15 p2 f2)(U3:Y34 p3 f3)(a:Atom)(t:List Atom)(ha:ShA a)(ht:ShT t)(hok:aC t):QU.F (p1,f1,p2,f2,p3,f3,()) (a,t,()) (λy=>y=((aI t a).2,(aI t a).1,())):=by
 have hlen:=ht.1;dsimp only [QU,gm];simp (disch:=omega) only [RR,U1.hp _ _ ha,U1.hf _ _ ha,aQ,jh];have hsp:=gJ t a;refine⟨λh=> ?_,λh=> ?_⟩
 .have:jY t a= -1:=by
   rcases hsp with⟨g,_⟩ | ⟨g1,g2,g3,_⟩
   .exact g
   .exfalso;apply h;have:=(hok.1 _ g1 g2).1;rw [<-g3]at this;exact ab5 this ah
  unfold aI;rw [this,if_neg ah,if_pos (Or.inl h)]
 refine ak (λ(y:Int×List Atom×Atom×Unit)=>y.2.1=t/\y.2.2.1=a/\0<=y.1/\y.1<=t.length/\All y.1 (λi=>¬a=t.getD i.toNat default)) (λy=>(t.length-y.1).toNat) ⟨rfl,rfl,by simp,by simp,All.zero⟩ ?_;rintro⟨(i:Int),(l:List Atom),(a':Atom),⟨⟩⟩ hI;dsimp only at hI ⊢;obtain⟨rfl,rfl,h1,h2,h3⟩:=hI;simp (disch:=omega) only [RR,U2.hp _ _ (ht.at _),U2.hf _ _ (ht.at _),U3.hp _ ha,U3.hf _ ha];refine⟨λh4=>⟨ah,ah,ah,ah,λh5=> ?_,λh5=>⟨⟨ah,ah,h3.snoc ?_⟩,ah⟩⟩,λh4=> ?_⟩
 .have e:=(mW.1 h5).symm;have:jY l a'=i:=hsp.uniq (Or.inr ⟨h1,h4,e,h3⟩);unfold aI;rw [this,if_pos h1]
 .intro e;rw [mW.2 e.symm]at h5;cases h5
 .have:jY l a'= -1:=hsp.uniq (Or.inl ⟨rfl,h3.le ah⟩);unfold aI;rw [this,if_neg ah];refine⟨λh5=> ?_,λh5=>⟨?_,?_⟩⟩
  .rw [if_pos (Or.inr ah)]
  .simp only [List.length_cons,List.length_nil];omega
  .rw [if_neg (by rintro(g | g);exact g h;omega),List.length_append];rw [w64 (by simp only [List.length_cons,List.length_nil];omega) (by simp only [List.length_cons,List.length_nil];omega)];simp only [List.length_cons,List.length_nil];rw [show(((l.length+(0+1):Nat):Int)-1)=l.length by omega]
def CY(op n:Int)(y:List aj):List aj×Bool:=if op=4/\n=0 then([],true)else if(op=4/\n=65535)\/(op=5/\n=0)then(y,true)else([],false)
def alc{p1 f1}(U1:Y13 p1 f1)(op n:Int)(y:List aj)(hy:Sh y):
  Q9.F (p1,f1,()) (op,n,y,()) (λz=>z=((CY op n y).2,(CY op n y).1,())):=by
 dsimp only [Q9,gm];simp (disch:=omega) only [RR,U1.hp y hy,U1.hf y hy];unfold CY;by_cases c1:op=4<;>by_cases c2:n=0<;>by_cases c3:n=65535<;>by_cases c4:op=5<;>simp [c1,c2,c3,c4]<;>omega
def agB(op:Int)(x y:List aj):sO op x y=if(bE x).2&& (bE y).2 then(bK (wdo op (bE x).1 (bE y).1),true)
  else if dU x y=0 then(if op=4 then(x,true)else([],true))else if(bE x).2 then CY op (bE x).1 y else if(bE y).2 then CY op (bE y).1 x else([],false):=by
 unfold sO CY;by_cases c1:dU x y=0<;>by_cases c2:op=4<;>simp [c1,c2]
def ald{p1 f1 p2 f2 p3 f3 p4 f4 p7 f7}(U1:Y8 p1 f1)(U2:Y13 p2 f2)(U3:Y24 p3 f3)(U4:Y22 p4 f4)(U7:Y27 p7 f7){p8:Int×Int×List aj×Unit->Bool}{f8:Int×Int×List aj×Unit->Bool×List aj×Unit}(hp8:∀op n y,Sh y->p8 (op,n,y,())=true)(hf8:∀op n y,Sh y->f8 (op,n,y,())=((CY op n y).2,(CY op n y).1,()))(op:Int)(x y:List aj)(hx:Sh x)(hy:Sh y):Ra.F (p1,f1,p2,f2,p3,f3,p4,f4,p7,f7,p8,f8,()) (op,x,y,()) (λz=>z=((sO op x y).2,(sO op x y).1,())):=by
 dsimp only [Ra,gm];simp (disch:=omega) only [RR,U1.hp x y hx,U1.hf x y hx,U2.hp x hx,U2.hf x hx,U3.hp,U3.hf,U4.hp,U4.hf,U7.hp x hx,U7.hf x hx,U7.hp y hy,U7.hf y hy,hp8 op _ y hy,hf8 op _ y hy,hp8 op _ x hx,hf8 op _ x hx];rw [agB];generalize bE x=nx;generalize bE y=ny;obtain⟨n,bn⟩:=nx;obtain⟨m,bm⟩:=ny;dsimp only;by_cases e:dU x y=0<;>by_cases o4:op=4<;>cases bn<;>cases bm<;>simp [e,o4]
noncomputable def FQ (op:Int) (x y:List aj):List aj×Bool:=
 if op=1 then((jO x y).2,(jO x y).1)else if op=2 then((jO x (fP y 65535)).2,(jO x (fP y 65535)).1)else if op=3 then((jk x y).2,(jk x y).1)else([],false)
def ale{p5 f5 p4 f4 p6 f6}(U5:Y23 p5 f5)(U4:Y25 p4 f4)(U6:Y26 p6 f6)(op:Int)(x y:List aj)(hx:Sh x)(hy:Sh y):Q7.F (p5,f5,p4,f4,p6,f6,()) (op,x,y,()) (λz=>z=((FQ op x y).2,(FQ op x y).1,())):=by
 dsimp only [Q7,gm];simp (disch:=omega) only [RR,U4.hp x y hx hy,U4.hf x y hx hy,U4.hp x _ hx (wF y 65535),U4.hf x _ hx (wF y 65535),U5.hp x y hx hy,U5.hf x y hx hy,U6.hp y _ hy,U6.hf y _ hy];unfold FQ;refine⟨λh=>by rw [if_pos h],λh=>⟨λh1=>by rw [if_neg h,if_pos h1],λh1=>⟨λh2=>by rw [if_neg h,if_neg h1,if_pos h2],λh2=>by rw [if_neg h,if_neg h1,if_neg h2]⟩⟩⟩
structure Y35(pp:Atom×List Atom×Unit->Bool)(ff:Atom×List Atom×Unit->Int×List Atom×Unit):Prop where
 hp:∀a t,ShA a->ShT t->aC t->pp (a,t,())=true
 hf:∀a t,ShA a->ShT t->aC t->ff (a,t,())=((aI t a).2,(aI t a).1,())
def alf{p1 f1 p2 f2 p5 f5}(U1:Y28 p1 f1)(U2:Y8 p2 f2){p3:Int×List aj×List aj×Unit->Bool}{f3:Int×List aj×List aj×Unit->Bool×List aj×Unit}(hp3:∀op x y,Sh x->Sh y->p3 (op,x,y,())=true)(hf3:∀op x y,Sh x->Sh y->f3 (op,x,y,())=((FQ op x y).2,(FQ op x y).1,())){p4:Int×List aj×List aj×Unit->Bool}{f4:Int×List aj×List aj×Unit->Bool×List aj×Unit}(hp4:∀op x y,Sh x->Sh y->p4 (op,x,y,())=true)(hf4:∀op x y,Sh x->Sh y->f4 (op,x,y,())=((sO op x y).2,(sO op x y).1,()))(U5:Y35 p5 f5)(op:Int)(x y:List aj)(t:List Atom)(hop:1<=op/\op<=5)(hx:Sh x)(hy:Sh y)(ht:ShT t)(hok:aC t):Rb.F (p1,f1,p2,f2,p3,f3,p4,f4,p5,f5,()) (op,x,y,t,()) (λz=>z=((tDo t op x y).1,(tDo t op x y).2,())):=by
 have s1:ShA ⟨4,op,x,y⟩:=⟨hx,hy⟩;have s2:ShA ⟨4,op,y,x⟩:=⟨hy,hx⟩;dsimp only [Rb,gm];simp (disch:=omega) only [RR,U1.hp,U1.hf,U2.hp x y hx,U2.hf x y hx,hp3 op x y hx hy,hf3 op x y hx hy,hp4 op x y hx hy,hf4 op x y hx hy,U5.hp _ _ s1 ht hok,U5.hf _ _ s1 ht hok,U5.hp _ _ s2 ht hok,U5.hf _ _ s2 ht hok];have e1:(op=4\/op=5)->sO op x y=dw op x y:=λh=>by unfold dw;rw [if_neg ah,if_neg ah,if_neg ah]
 have e2:¬(op=4\/op=5)->FQ op x y=dw op x y:=λh=>by
  unfold dw FQ;by_cases c1:op=1
  .rw [if_pos c1,if_pos c1]
  .rw [if_neg c1,if_neg c1];by_cases c2:op=2
   .rw [if_pos c2,if_pos c2]
   .rw [if_neg c2,if_neg c2,if_pos ah,if_pos ah]
 unfold tDo;by_cases c:op=4\/op=5
 .rw [e1 c];generalize aI t ⟨4,op,y,x⟩=r1;generalize aI t ⟨4,op,x,y⟩=r2;generalize dU x y=o;generalize dw op x y=s;obtain⟨p,b⟩:=s;have c':¬op=2:=by omega
  cases b<;>by_cases c2:0<o<;>by_cases c3:r1.2<0<;>by_cases c4:r2.2<0<;>simp [c,c',c2,c3,c4]<;>omega
 .rw [e2 c];generalize aI t ⟨4,op,y,x⟩=r1;generalize aI t ⟨4,op,x,y⟩=r2;generalize dU x y=o;generalize dw op x y=s;obtain⟨p,b⟩:=s;obtain⟨n4,n5⟩:=not_or.1 c;cases b<;>by_cases c1:op=2<;>by_cases c2:0<o<;>by_cases c3:r1.2<0<;>by_cases c4:r2.2<0<;>simp [n4,n5,c1,c2,c3,c4]
def ab6{t:List Atom}{op:Int}{x y:List aj}:(bp (aC t)&&inB op 1 5&&bp (aF x/\aF y/\aN x t.length/\aN y t.length))=true->rO t op x y=tDo t op x y:=λh=>by
 simp only [Bool.and_eq_true,aQ,bL,and_assoc]at h;unfold rO;rw [if_pos (by simpa only [and_assoc]using h)]
def Xv{t:List Atom}{op:Int}{x y:List aj}:¬(bp (aC t)&&inB op 1 5&&bp (aF x/\aF y/\aN x t.length/\aN y t.length))=true->rO t op x y=([],[]):=λh=>by
 simp only [Bool.and_eq_true,aQ,bL,and_assoc]at h;unfold rO;rw [if_neg (by simpa only [and_assoc]using h)]
def alg{p1 f1 p2 f2 p5 f5}(U1:Y1 p1 f1)(U2:Y29 p2 f2){p3:List aj×List aj×Int×Unit->Bool}{f3:List aj×List aj×Int×Unit->Bool×Unit}(hp3:∀x y n,Sh x->Sh y->p3 (x,y,n,())=true)(hf3:∀x y n,Sh x->Sh y->f3 (x,y,n,())=(bp (aF x/\aF y/\aN x n/\aN y n),())){p4:Int×List aj×List aj×List Atom×Unit->Bool}{f4:Int×List aj×List aj×List Atom×Unit->List Atom×List aj×Unit}(hp4:∀op x y t,1<=op/\op<=5->Sh x->Sh y->ShT t->aC t->p4 (op,x,y,t,())=true)(hf4:∀op x y t,1<=op/\op<=5->Sh x->Sh y->ShT t->aC t->f4 (op,x,y,t,())=((tDo t op x y).1,(tDo t op x y).2,()))(U5:Y31 p5 f5)(t:List Atom)(op:Int)(x y:List aj)(ht:ShT t)(hx:Sh x)(hy:Sh y):Sb.F (p1,f1,p2,f2,p3,f3,p4,f4,p5,f5,()) (t,op,x,y,()) (λz=>z=((rO t op x y).1,(rO t op x y).2,())):=by
 dsimp only [Sb,gm];simp (disch:=omega) only [RR,U1.hp,U1.hf,U2.hp t ht,U2.hf t ht,hp3 x y _ hx hy,hf3 x y _ hx hy,U5.hp t ht,U5.hf t ht];refine⟨λh=> ?_,λh=> ?_⟩
 .rw [Xv];intro g;simp only [Bool.and_eq_true]at g;rcases h with(h | h) | h
  .rw [g.1.1]at h;cases h
  .rw [g.1.2]at h;cases h
  .rw [g.2]at h;cases h
 .rw [ab6 (by rw [h.1.1,h.1.2,h.2];rfl)];have h1:=aQ.1 h.1.1;have h2:=bL.1 h.1.2;exact⟨hp4 _ _ _ _ h2 hx hy ht h1,by rw [hf4 _ _ _ _ h2 hx hy ht h1]⟩
def alh{p2 f2 p3 f3 p5 f5}(U2:Y29 p2 f2)(U3:Y35 p3 f3)(U5:Y31 p5 f5)(t:List Atom)(a:Atom)(ht:ShT t)(ha:ShA a):Sd.F (p2,f2,p3,f3,p5,f5,()) (t,a,()) (λz=>z=if bp (aC t)then((aI t a).2,(aI t a).1,())else(-1,[],())):=by
 dsimp only [Sd,gm];simp (disch:=omega) only [RR,U2.hp t ht,U2.hf t ht,U5.hp t ht,U5.hf t ht];refine⟨λh=> ?_,λh=> ?_⟩
 .rw [if_neg (by rw [h];simp)]
 .have h1:=aQ.1 h;rw [if_pos h,U3.hf _ _ ha ht h1];exact⟨U3.hp _ _ ha ht h1,rfl⟩
structure Plus(l:List aj)(m:aj)(o:List aj):Prop where
 nf:Nf o
 cf:∀k,cf o k=F.cf (l++ [m]) k%65536
 len:o.length<=l.length+1
def ali{p1 f1 p2 f2}(U1:Y7 p1 f1)(U2:Y10 p2 f2)(l:List aj)(m:aj)(hl:l.length<1000000000)(hn:Nf l)(hm:1<=m.aW/\m.aW<=65535)(hma:m.atoms.length<1000000000):QX.F (p1,f1,p2,f2,()) (l,m,()) (λy=>Plus l m y.1):=by
  dsimp only [QX,gm]
  refine ak (λ(y:List aj×Bool×Int×aj×List aj×Unit)=>y.1=l/\y.2.2.2.1=m/\0<=y.2.2.1/\y.2.2.1<=l.length/\
      ((y.2.1=false/\y.2.2.2.2.1=l.take y.2.2.1.toNat/\∀x∈l.take y.2.2.1.toNat,lt x m)\/
       (y.2.1=true/\Nf y.2.2.2.2.1/\(∀k,cf y.2.2.2.2.1 k=cf (l.take y.2.2.1.toNat++ [m]) k%65536)/\(y.2.2.2.2.1.length:Int)<=y.2.2.1+1/\(y.2.2.1<l.length->lt m ((l).getD (y.2.2.1).toNat default)/\∀x∈y.2.2.2.2.1,lt x ((l).getD (y.2.2.1).toNat default))))) (λy=>(l.length-y.2.2.1).toNat)
    ⟨rfl,rfl,by simp,by simp,Or.inl ⟨rfl,by simp,by simp⟩⟩ ?_
  rintro⟨(l':List aj),(dn:Bool),(i:Int),(m':aj),(o:List aj),⟨⟩⟩ hI;dsimp only at hI ⊢;obtain⟨rfl,rfl,h1,h2,h3⟩:=hI;simp (disch:=omega) only [RR,U1.hp _ _ hma,U1.hf _ _ hma,U2.hp,U2.hf];have hss:=hn.ss;have nx:i+1<l'.length->lt ((l').getD (i).toNat default) ((l').getD (i+1).toNat default):=λh=>by
    have:=(dh (d:=default) (R:=lt) dZ).1 hss (i+1) ah h;rw [show i+1-1=i by omega]at this;exact this
  have tk:i<l'.length->l'.take (i+1).toNat=l'.take i.toNat++ [((l').getD (i).toNat default)]:=λh=>(bB h1 h rfl).symm
  have bf:i<l'.length->∀x∈l'.take i.toNat,lt x ((l').getD (i).toNat default):=λh x hx=>by
    have:=hss;rw [<-List.take_append_drop i.toNat l',List.pairwise_append]at this;refine this.2.2 x hx _ ?_;rw [getD_lt ah,List.drop_eq_getElem_cons (show i.toNat<l'.length by omega)];exact List.mem_cons_self
  have lt0:=List.length_take_le' i.toNat l';have lt1:=List.length_take_le i.toNat l';have co:i<l'.length->1<=((l').getD (i).toNat default).aW/\((l').getD (i).toNat default).aW<=65535:=λh=>hn.co _ (bN h1 h)
  have ntk:Nf (l'.take i.toNat):=⟨List.Pairwise.sublist (List.take_sublist _ _) hss,λx hx=>hn.co x (List.mem_of_mem_take hx)⟩;have ab7:∀ {a:List aj} {x:aj},Nf a->(∀y∈a,lt y x)->1<=x.aW/\x.aW<=65535->Nf (a++ [x]):=λ{a x} g1 g2 g3=>⟨by
    rw [List.pairwise_append];exact⟨g1.ss,List.pairwise_singleton _ _,λy hy z hz=>by rw [List.mem_singleton]at hz;subst hz;exact g2 y hy⟩,λy hy=>by
    rw [List.mem_append,List.mem_singleton]at hy;rcases hy with hy | rfl
    · exact g1.co y hy
    · exact g3⟩
  have l1:∀(x:List aj) (y:aj),(x++ [y]).length=x.length+1:=λx y=>by rw [List.length_append];rfl
  have fin:∀o,i=l'.length->Nf o->(∀k,cf o k=cf (l'.take i.toNat++ [m']) k%65536)->(o.length:Int)<=i+1->Plus l' m' o:=λo e g1 g2 g3=>⟨g1,λk=>by rw [g2 k,List.take_of_length_le ah],ah⟩
  by_cases hi:i<l'.length
  · have nx:=nx;have tk:=tk hi;have bf:=bf hi;have co:=co hi;rw [tk];have hv:∀ {P:Prop},P->(∀x,x=((l').getD (i).toNat default)->P)->P:=λh _=>h
    generalize ((l').getD (i).toNat default)=v at nx tk bf co h3 ⊢;have cfs:∀k,cf (l'.take i.toNat++ [v]++ [m']) k=cf (l'.take i.toNat) k+(if v.atoms=k then v.aW else 0)+(if m'.atoms=k then m'.aW else 0):=λk=>by
      rw [bZ,bZ,aP,aP,gV];simp only [Int.add_zero]
    have cfm:∀k,cf (l'.take i.toNat++ [m']) k=cf (l'.take i.toNat) k+(if m'.atoms=k then m'.aW else 0):=λk=>by
      rw [bZ,aP,gV,Int.add_zero]
    rcases h3 with⟨rfl,rfl,h4⟩ | ⟨rfl,h4,h5,h6,h7⟩
    ·
      simp (disch:=omega) only [RR,decide_true,Bool.not_false,Bool.true_and,decide_eq_true_eq,hi];by_cases c1:cB m'.atoms v.atoms<0
      · have c2:¬cB m'.atoms v.atoms=0:=by omega
        simp (disch:=omega) only [RR,c1,c2];have n1:=ab7 ntk h4 hm;have b2:∀x∈l'.take i.toNat++ [m'],lt x v:=λx hx=>by
          rw [List.mem_append,List.mem_singleton]at hx;rcases hx with hx | rfl
          · exact bf x hx
          · exact c1
        have n2:=ab7 n1 b2 co;refine⟨ah,by rw [show([m']:List aj).length=1 from rfl];omega,ah,by rw [l1,show([v]:List aj).length=1 from rfl];omega,⟨ah,ah,Or.inr ⟨n2,λk=> ?_,by rw [l1,l1];omega,λh=>⟨dZ c1 (nx h),λx hx=> ?_⟩⟩⟩,ah⟩
        · have e1:=cfs k;have e2:=n2.bnd k;have e3:cf (l'.take i.toNat++ [m']++ [v]) k=cf (l'.take i.toNat++ [v]++ [m']) k:=by rw [e1,bZ,cfm,aP,gV];omega
          rw [<-e3];omega
        · rw [List.mem_append,List.mem_singleton]at hx;rcases hx with hx | rfl
          · exact dZ (b2 x hx) (nx h)
          · exact nx h
      · by_cases c2:cB m'.atoms v.atoms=0
        · have ev:=gU.1 c2;simp (disch:=omega) only [RR,c1,c2,List.append_nil];have zz:cf (l'.take i.toNat) v.atoms=0:=fT λx hx=>(bf x hx).ne
          refine⟨ah,λh=>absurd h ah,λ_=>⟨ah,λc3=> ?_,λc3=> ?_⟩⟩
          · have n2:=ab7 (x:=⟨(v.aW+m'.aW)%65536,v.atoms⟩) ntk bf ⟨by dsimp only;omega,by dsimp only;omega⟩;refine⟨ah,by simp only [List.length_cons,List.length_nil];omega,⟨ah,ah,Or.inr ⟨n2,λk=> ?_,by rw [l1];omega,λh=>⟨?_,λx hx=> ?_⟩⟩⟩,ah⟩
            · have e1:=cfs k;have e2:=n2.bnd k;rw [e1];rw [bZ,aP,gV]at e2 ⊢;dsimp only at e2 ⊢;by_cases ek:v.atoms=k
              · rw [if_pos ek]at e2 ⊢;rw [if_pos ek,if_pos (ev.trans ek)];rw [<-ek,zz]at e2 ⊢;omega
              · rw [if_neg ek]at e2 ⊢;rw [if_neg ek,if_neg (λe=>ek (ev.symm.trans e))];omega
            · have:=nx h;unfold lt at this ⊢;rw [ev];exact this
            · rw [List.mem_append,List.mem_singleton]at hx;rcases hx with hx | rfl
              · exact dZ (bf x hx) (nx h)
              · exact nx h
          · refine⟨⟨ah,ah,Or.inr ⟨ntk,λk=> ?_,ah,λh=>⟨?_,λx hx=>dZ (bf x hx) (nx h)⟩⟩⟩,ah⟩
            · have e1:=cfs k;have e2:=ntk.bnd k;rw [e1];by_cases ek:v.atoms=k
              · rw [if_pos ek,if_pos (ev.trans ek),<-ek,zz];omega
              · rw [if_neg ek,if_neg (λe=>ek (ev.symm.trans e))];omega
            · have:=nx h;unfold lt at this ⊢;rw [ev];exact this
        · simp (disch:=omega) only [RR,c1,c2];refine⟨ah,ah,by simp only [List.length_cons,List.length_nil];omega,⟨ah,ah,Or.inl (λx hx=> ?_)⟩,ah⟩;rw [List.mem_append,List.mem_singleton]at hx;rcases hx with hx | rfl
          · exact h4 x hx
          · unfold lt;rw [jL];omega
    · have c3:=(h7 hi).1;have b2:=(h7 hi).2;have c1:cB m'.atoms v.atoms<0:=c3;have c2:¬cB m'.atoms v.atoms=0:=by omega
      simp (disch:=omega) only [RR,decide_true,Bool.not_true,Bool.false_and,decide_eq_true_eq,hi,c2];have n2:=ab7 h4 b2 co;refine⟨ah,λh=>h.1.elim,ah,by simp only [List.length_cons,List.length_nil];omega,⟨ah,ah,Or.inr ⟨n2,λk=> ?_,by rw [l1];omega,λh=>⟨dZ c3 (nx h),λx hx=> ?_⟩⟩⟩,ah⟩
      · have e1:=cfs k;have e2:=n2.bnd k;have e3:=h5 k;rw [cfm]at e3;rw [bZ,aP,gV]at e2 ⊢;rw [e1];by_cases ek:v.atoms=k
        · rw [if_pos ek]at e2 ⊢;omega
        · rw [if_neg ek]at e2 ⊢;omega
      · rw [List.mem_append,List.mem_singleton]at hx;rcases hx with hx | rfl
        · exact dZ (b2 x hx) (nx h)
        · exact nx h
  · have ei:i=l'.length:=by omega
    rcases h3 with⟨rfl,rfl,h4⟩ | ⟨rfl,h4,h5,h6,h7⟩
    · simp (disch:=omega) only [RR,decide_true,Bool.not_false,Bool.true_and,decide_eq_true_eq,hi];have n1:=ab7 ntk h4 hm;refine⟨by simp only [List.length_cons,List.length_nil];omega,fin _ ei n1 (λk=> ?_) (by rw [l1];omega)⟩;have e2:=n1.bnd k;omega
    · simp (disch:=omega) only [RR,decide_true,Bool.not_true,Bool.false_and,decide_eq_true_eq,hi];exact fin _ ei h4 h5 h6
def nJ{a o:List Int}(h:o.Pairwise (· <= ·))(hp:o.Perm a):o=bV a:=by
 refine List.Perm.eq_of_pairwise (le:=λx y:Int=>x<=y) (λa b _ _ h1 h2=>Int.le_antisymm h1 h2) h ?_ (hp.trans (List.mergeSort_perm a _).symm);have:=List.pairwise_mergeSort (le:=λx y:Int=>decide (x<=y)) (λa b c h1 h2=>by simp at*;omega) (λa b=>by simp;omega) a;exact this.imp (λh=>by simpa using h)
def ab8(a b:List Int)(ha:a.length<100000000)(hb:b.length<100000000)(sa:a.Pairwise (· <= ·))(sb:b.Pairwise (· <= ·)):
  Q5.F () (a,b,()) (λy=>y=(bV (a++b),())):=by
 dsimp only [Q5,gm];have sa':=(dh (d:=default) (R:=λa b:Int=>a<=b) (λh1 h2=>Int.le_trans h1 h2)).1 sa;have sb':=(dh (d:=default) (R:=λa b:Int=>a<=b) (λh1 h2=>Int.le_trans h1 h2)).1 sb
 let I:List Int->Int->Int->Prop:=λo i k=>0<=i/\i<=a.length/\0<=k/\k<=b.length/\o.Pairwise (· <= ·)/\o.Perm (a.take i.toNat++b.take k.toNat)/\(i<a.length->∀x∈o,x<=((a).getD (i).toNat default))/\(k<b.length->∀x∈o,x<=((b).getD (k).toNat default))
 have sn:∀ {o:List Int} {y:Int},o.Pairwise (· <= ·)->(∀x∈o,x<=y)->(o++ [y]).Pairwise (· <= ·):=λ{o y} g1 g2=>by
  rw [List.pairwise_append];exact⟨g1,List.pairwise_singleton _ _,λx hx z hz=>by rw [List.mem_singleton]at hz;subst hz;exact g2 x hx⟩
 have il:∀o i k,I o i k->(o.length:Int)=i+k:=λo i k ⟨h1,h2,h3,h4,_,h5,_⟩=>by
  have:=h5.length_eq;rw [List.length_append,List.length_take,List.length_take]at this;omega
 have stA:∀o i k,I o i k->i<a.length->(k<b.length->((a).getD (i).toNat default)<=((b).getD (k).toNat default))->I (o++ [((a).getD (i).toNat default)]) (i+1) k:=by
  rintro o i k ⟨h1,h2,h3,h4,h5,h6,h7,h8⟩ hi hk;refine⟨ah,ah,h3,h4,sn h5 (h7 hi),?_,λg x hx=> ?_,λg x hx=> ?_⟩
  .rw [<-bB (d:=default) h1 hi rfl];refine(h6.append_right _).trans ?_;rw [List.append_assoc,List.append_assoc];exact(List.perm_append_comm).append_left _
  .have:=sa' (i+1) ah g;rw [show i+1-1=i by omega]at this;rw [List.mem_append,List.mem_singleton]at hx;rcases hx with hx | rfl
   .exact Int.le_trans (h7 hi x hx) this
   .exact this
  .rw [List.mem_append,List.mem_singleton]at hx;rcases hx with hx | rfl
   .exact h8 g x hx
   .exact hk g
 have stB:∀o i k,I o i k->k<b.length->(i<a.length->((b).getD (k).toNat default)<=((a).getD (i).toNat default))->I (o++ [((b).getD (k).toNat default)]) i (k+1):=by
  rintro o i k ⟨h1,h2,h3,h4,h5,h6,h7,h8⟩ hk hi;refine⟨h1,h2,ah,ah,sn h5 (h8 hk),?_,λg x hx=> ?_,λg x hx=> ?_⟩
  .rw [<-bB (d:=default) h3 hk rfl,<-List.append_assoc];exact h6.append_right _
  .rw [List.mem_append,List.mem_singleton]at hx;rcases hx with hx | rfl
   .exact h7 g x hx
   .exact hi g
  .have:=sb' (k+1) ah g;rw [show k+1-1=k by omega]at this;rw [List.mem_append,List.mem_singleton]at hx;rcases hx with hx | rfl
   .exact Int.le_trans (h8 hk x hx) this
   .exact this
 refine ak (λ(y:List Int×List Int×Int×Int×List Int×Unit)=>y.1=a/\y.2.1=b/\I y.2.2.2.2.1 y.2.2.1 y.2.2.2.1) (λy=>(b.length-y.2.2.2.1).toNat)
  ⟨rfl,rfl,by simp,by simp,by simp,by simp,List.Pairwise.nil,by simp,λ_ x hx=>absurd hx (by simp),λ_ x hx=>absurd hx (by simp)⟩ ?_
 rintro⟨(a':List Int),(b':List Int),(i:Int),(k:Int),(o:List Int),⟨⟩⟩ hI;dsimp only at hI ⊢;obtain⟨rfl,rfl,hI⟩:=hI;have hb1:=hI.1;have hb2:=hI.2.1;have hb3:=hI.2.2.1;have hb4:=hI.2.2.2.1;have hol:=il _ _ _ hI;simp (disch:=omega) only [RR];refine⟨λh9=> ?_,λh9=> ?_⟩
 .refine ak (λ(y:List Int×List Int×Int×Int×List Int×Unit)=>y.1=a'/\y.2.1=b'/\y.2.2.2.1=k/\I y.2.2.2.2.1 y.2.2.1 k) (λy=>(a'.length-y.2.2.1).toNat) ⟨rfl,rfl,rfl,hI⟩ ?_;rintro⟨(a2:List Int),(b2:List Int),(i2:Int),(k2:Int),(o2:List Int),⟨⟩⟩ hI2;dsimp only at hI2 ⊢;obtain⟨rfl,rfl,rfl,hI2⟩:=hI2;have hc1:=hI2.1;have hc2:=hI2.2.1;have hol:=il _ _ _ hI2;simp (disch:=omega) only [RR];refine⟨ah,ah,ah,ah,λ⟨g1,g2⟩=>⟨ah,g1,by simp only [List.length_cons,List.length_nil];omega,stA _ _ _ hI2 g1 (λ_=>g2),ah⟩,λg=>⟨ah,h9,by simp only [List.length_cons,List.length_nil];omega,stB _ _ _ hI2 h9 (λg1=> ?_),ah⟩⟩;rw [decide_eq_true g1,Bool.true_and,decide_eq_false_iff_not]at g;omega
 .have e1:List.drop i.toNat (List.take ((a'.length:Int)).toNat a')=a'.drop i.toNat:=by rw [List.take_of_length_le ah]
  rw [e1];refine⟨ah,ah,ah,by rw [List.length_drop];omega,?_⟩;obtain⟨h1,h2,h3,h4,h5,h6,h7,h8⟩:=hI;rw [nJ (a:=a'++b') (o:=o++a'.drop i.toNat)]
  .rw [List.pairwise_append];refine⟨h5,List.Pairwise.sublist (List.drop_sublist _ _) sa,λx hx y hy=> ?_⟩;by_cases hi:i<a'.length
   .refine Int.le_trans (h7 hi x hx) ?_;rw [List.drop_eq_getElem_cons (show i.toNat<a'.length by omega)]at hy;have hd:=List.Pairwise.sublist (List.drop_sublist i.toNat _) sa;rw [List.drop_eq_getElem_cons (show i.toNat<a'.length by omega)]at hd;rw [getD_lt (show i.toNat<a'.length by omega)];rcases List.mem_cons.1 hy with rfl | hy
    .exact Int.le_refl _
    .exact List.rel_of_pairwise_cons hd hy
   .rw [List.drop_eq_nil_of_le ah]at hy;exact absurd hy (by simp)
  .rw [List.take_of_length_le (show b'.length<=k.toNat by omega)]at h6;refine(h6.append_right _).trans ?_;rw [List.append_assoc];refine((List.perm_append_comm).append_left _).trans ?_;rw [<-List.append_assoc,List.take_append_drop]
def aF.nf{p:List aj}(h:aF p):Nf p:=(eD.1 h).1
def aF.aok{p:List aj}(h:aF p){m:aj}(hm:m∈p):m.atoms.length<=4/\F.aok m.atoms:=(eD.1 h).2.2 m hm
def JM{l o:List aj}(h:Nf o)(h2:∀k,cf o k=cf l k%65536)(h3:∀m∈l,aok m.atoms):(bp (JL o),if bp (JL o)then o else [])=((jf l).1,(jf l).2):=by
 rw [agA h h2 h3];by_cases c:JL o
 .rw [aV c,if_pos rfl];dsimp only;rw [decide_eq_true (show o.length<=12/\∀m∈o,m.atoms.length<=4 from c),if_pos (show o.length<=12/\∀m∈o,m.atoms.length<=4 from c)]
 .rw [bP c,if_neg (by simp)];dsimp only;rw [decide_eq_false (show¬(o.length<=12/\∀m∈o,m.atoms.length<=4)from c),if_neg (show¬(o.length<=12/\∀m∈o,m.atoms.length<=4)from c)]
def ab9{o l:List aj}(h:Nf o)(h2:∀k,cf o k=cf l k%65536)(h3:∀m∈l,m.atoms.length<1000000000)(h4:o.length<1000000000):Sh o:=⟨h4,λm hm=>by
 obtain⟨m',g1,g2⟩:=h.from h2 hm;rw [<-g2];exact h3 m' g1⟩
structure Y36(pp:List aj×aj×Unit->Bool)(ff:List aj×aj×Unit->List aj×Unit):Prop where
 hp:∀(l:List aj) m,l.length<1000000000->Nf l->1<=m.aW/\m.aW<=65535->m.atoms.length<1000000000->pp (l,m,())=true
 hf:∀(l:List aj) m,l.length<1000000000->Nf l->1<=m.aW/\m.aW<=65535->m.atoms.length<1000000000->Plus l m (ff (l,m,())).1
structure Y37(pp:List aj×Unit->Bool)(ff:List aj×Unit->Bool×List aj×Unit):Prop where
 hp:∀a,Sh a->pp (a,())=true
 hf:∀a,Sh a->ff (a,())=(bp (JL a),if bp (JL a)then a else [],())
def alj{p1 f1 p2 f2 p3 f3}(U1:Y11 p1 f1)(U2:Y36 p2 f2)(U3:Y37 p3 f3)(a b:List aj)(ha:Sh a)(hb:Sh b):QZ.F (p1,f1,p2,f2,p3,f3,()) (a,b,()) (λy=>y=((jO a b).1,(jO a b).2,())):=by
 dsimp only [QZ,gm];simp (disch:=omega) only [RR,U1.hp a ha,U1.hf a ha,U1.hp b hb,U1.hf b hb,aQ,jh];unfold jO;refine⟨λh=> ?_,λ⟨h1,h2⟩=> ?_⟩
 .rw [if_neg];rw [Bool.and_eq_true,aQ,aQ];rintro⟨g1,g2⟩;rcases h with h | h
  .exact h g1
  .exact h g2
 rw [if_pos (by rw [aV h1,aV h2];rfl)];have l1:=h1.len;have l2:=h2.len;have hl:∀m∈a++b,F.aok m.atoms/\m.atoms.length<1000000000:=λm hm=>by
  rw [List.mem_append]at hm;rcases hm with hm | hm
  .exact⟨(h1.aok hm).2,ha.2 m hm⟩
  .exact⟨(h2.aok hm).2,hb.2 m hm⟩
 refine ak (λ(y:List aj×Int×List aj×Unit)=>y.2.2.1=b/\0<=y.2.1/\y.2.1<=b.length/\Nf y.1/\(∀k,cf y.1 k=cf (a++b.take y.2.1.toNat) k%65536)/\(y.1.length:Int)<=12+y.2.1) (λy=>(b.length-y.2.1).toNat)
  ⟨rfl,by simp,by simp,h1.nf,λk=>by have:=h1.nf.bnd k;simp only [Int.toNat_zero,List.take_zero,List.append_nil];omega,by simp only;omega⟩ ?_
 rintro⟨(o:List aj),(i:Int),(b':List aj),⟨⟩⟩ hI;dsimp only at hI ⊢;obtain⟨rfl,h3,h4,h5,h6,h7⟩:=hI;have so:Sh o:=ab9 h5 h6 (λm hm=>(hl m (by rw [List.mem_append]at hm ⊢;exact hm.imp id List.mem_of_mem_take)).2) ah;simp (disch:=omega) only [RR,U3.hp o so,U3.hf o so];refine⟨λh9=> ?_,λh9=> ?_⟩
 .have hm:=h2.nf.co _ (bN (d:=default) h3 h9);have pl:=U2.hf o ((b').getD (i).toNat default) so.1 h5 hm (hb.at _);refine⟨ah,ah,U2.hp o ((b').getD (i).toNat default) so.1 h5 hm (hb.at _),⟨ah,ah,pl.nf,λk=> ?_,by have:=pl.len;omega⟩,ah⟩;rw [pl.cf k,bZ,h6 k,<-bB (d:=default) h3 h9 rfl,<-List.append_assoc,bZ (a++_)];omega
 .have:=JM h5 (λk=>by rw [h6 k,List.take_of_length_le ah]) (λm hm=>(hl m hm).1);exact congrArg (λz:Bool×List aj=>(z.1,z.2,())) this
def alk{p1 f1 p0 f0 p2 f2 p3 f3}(U1:Y11 p1 f1)(U0:Y10 p0 f0)(U2:Y36 p2 f2){p4:List Int×List Int×Unit->Bool}{f4:List Int×List Int×Unit->List Int×Unit}(hp4:∀a b:List Int,a.length<100000000->b.length<100000000->a.Pairwise (· <= ·)->b.Pairwise (· <= ·)->p4 (a,b,())=true)(hf4:∀a b:List Int,a.length<100000000->b.length<100000000->a.Pairwise (· <= ·)->b.Pairwise (· <= ·)->f4 (a,b,())=(bV (a++b),()))(U3:Y37 p3 f3)(a b:List aj)(ha:Sh a)(hb:Sh b):Q6.F (p1,f1,p0,f0,p2,f2,p4,f4,p3,f3,()) (a,b,()) (λy=>y=((jk a b).1,(jk a b).2,())):=by
 obtain⟨hp1,hf1⟩:=U1;obtain⟨hp0,hf0⟩:=U0;obtain⟨hp2,hf2⟩:=U2;obtain⟨hp3,hf3⟩:=U3;dsimp only [Q6,gm];simp (disch:=omega) only [RR,hp1 a ha,hf1 a ha,hp1 b hb,hf1 b hb,aQ,jh];unfold jk;refine⟨λh=> ?_,λ⟨h1,h2⟩=> ?_⟩
 .rw [if_neg];rw [Bool.and_eq_true,aQ,aQ];rintro⟨g1,g2⟩;rcases h with h | h
  .exact h g1
  .exact h g2
 rw [if_pos (by rw [aV h1,aV h2];rfl)];have l1:=h1.len;have l2:=h2.len;have am:∀m∈a,∀n∈b,aok (mulM m n).atoms/\(mulM m n).atoms.length<=8:=λm hm n hn=>by
  obtain⟨g1,g2⟩:=h1.aok hm;obtain⟨g3,g4⟩:=h2.aok hn;refine⟨⟨?_,λk hk=> ?_⟩,?_⟩
  .have:=List.pairwise_mergeSort (le:=λx y:Int=>decide (x<=y)) (λa b c h1 h2=>by simp at*;omega) (λa b=>by simp;omega) (m.atoms++n.atoms);exact this.imp (λh=>by simpa using h)
  .have:k∈m.atoms++n.atoms:=List.mem_mergeSort.1 hk;rw [List.mem_append]at this;rcases this with hk | hk
   .exact g2.2 k hk
   .exact g4.2 k hk
  .show(bV _).length<=8;rw [qc,List.length_append];omega
 have pm:∀m∈prods a b,aok m.atoms/\m.atoms.length<=8:=λm hm=>by
  unfold prods at hm;rw [List.mem_flatMap]at hm;obtain⟨x,hx,hm⟩:=hm;rw [List.mem_map]at hm;obtain⟨y,hy,rfl⟩:=hm;exact am x hx y hy
 let J:List aj->Int->Int->Prop:=λo i k=>Nf o/\(∀t,cf o t=cf (prods (a.take i.toNat) b++(b.take k.toNat).map (mulM ((a).getD (i).toNat default))) t%65536)/\(o.length:Int)<=12*i+k
 refine ak (λ(y:Int×List aj×List aj×List aj×Unit)=>y.2.1=a/\y.2.2.1=b/\0<=y.1/\y.1<=a.length/\J y.2.2.2.1 y.1 0) (λy=>(a.length-y.1).toNat)
  ⟨rfl,rfl,by simp,by simp,⟨⟨List.Pairwise.nil,λm hm=>absurd hm (by simp)⟩,λk=>by simp [cf,prods],by simp⟩⟩ ?_
 rintro⟨(i:Int),(a':List aj),(b':List aj),(o:List aj),⟨⟩⟩ hI;dsimp only at hI ⊢;obtain⟨rfl,rfl,h3,h4,hJ⟩:=hI;have hJ1:=hJ.2.2;have so:Sh o:=ab9 (l:=prods (a'.take i.toNat) b') hJ.1 (λt=>by rw [hJ.2.1 t];simp) (λm hm=>by
  have:m∈prods a' b':=by
   unfold prods at hm ⊢;rw [List.mem_flatMap]at hm ⊢;obtain⟨x,hx,hm⟩:=hm;exact⟨x,List.mem_of_mem_take hx,hm⟩
  have:=(pm m this).2;omega) ah
 simp (disch:=omega) only [RR,hp3 o so,hf3 o so];refine⟨λh9=> ?_,λh9=> ?_⟩
 .refine ak (λ(y:Int×Int×List aj×List aj×List aj×Unit)=>y.1=i/\y.2.2.1=a'/\y.2.2.2.1=b'/\0<=y.2.1/\y.2.1<=b'.length/\J y.2.2.2.2.1 i y.2.1) (λy=>(b'.length-y.2.1).toNat) ⟨rfl,rfl,rfl,by simp,by simp,hJ⟩ ?_;rintro⟨(i':Int),(k:Int),(a2:List aj),(b2:List aj),(o2:List aj),⟨⟩⟩ hI;dsimp only at hI ⊢;obtain⟨rfl,rfl,rfl,g1,g2,hK⟩:=hI;have hK1:=hK.2.2;by_cases g3:k<b2.length
  .have ma:((a2).getD (i').toNat default)∈a2:=bN h3 h9;have mb:((b2).getD (k).toNat default)∈b2:=bN g1 g3;have ca:=h1.nf.co _ ma;have cb:=h2.nf.co _ mb;obtain⟨q1,q2⟩:=h1.aok ma;obtain⟨q3,q4⟩:=h2.aok mb;have hm:=DT (show 0<=((a2).getD (i').toNat default).aW by omega) ah (show 0<=((b2).getD (k).toNat default).aW by omega) ah;have am':=(am _ ma _ mb).2;simp (disch:=omega) only [RR,hp0,hf0,hp4 _ _ (show((a2).getD (i').toNat default).atoms.length<100000000 by omega) (show((b2).getD (k).toNat default).atoms.length<100000000 by omega) q2.1 q4.1,hf4 _ _ (show((a2).getD (i').toNat default).atoms.length<100000000 by omega) (show((b2).getD (k).toNat default).atoms.length<100000000 by omega) q2.1 q4.1];have tk:prods (a2.take i'.toNat) b2++(b2.take (k+1).toNat).map (mulM ((a2).getD (i').toNat default))=prods (a2.take i'.toNat) b2++(b2.take k.toNat).map (mulM ((a2).getD (i').toNat default))++ [mulM ((a2).getD (i').toNat default) ((b2).getD (k).toNat default)]:=by
    rw [<-bB (d:=default) g1 g3 rfl,List.map_append,List.append_assoc];rfl
   refine⟨λ_=>⟨ah,ah,ah,ah,λg4=> ?_,λg4=>⟨⟨ah,ah,hK.1,λt=> ?_,ah⟩,ah⟩⟩,λh=>absurd g3 h⟩
   .have aq5:(⟨((a2).getD (i').toNat default).aW*((b2).getD (k).toNat default).aW%65536,bV (((a2).getD (i').toNat default).atoms++((b2).getD (k).toNat default).atoms)⟩:aj).atoms.length<1000000000:=by have:(bV (((a2).getD (i').toNat default).atoms++((b2).getD (k).toNat default).atoms)).length<=8:=am';dsimp only;omega
    have cc:1<=(⟨((a2).getD (i').toNat default).aW*((b2).getD (k).toNat default).aW%65536,bV (((a2).getD (i').toNat default).atoms++((b2).getD (k).toNat default).atoms)⟩:aj).aW/\(⟨((a2).getD (i').toNat default).aW*((b2).getD (k).toNat default).aW%65536,bV (((a2).getD (i').toNat default).atoms++((b2).getD (k).toNat default).atoms)⟩:aj).aW<=65535:=by dsimp only;omega
    have pl:=hf2 o2 _ ah hK.1 cc aq5;refine⟨ah,ah,ah,ah,hp2 o2 _ ah hK.1 cc aq5,⟨ah,ah,pl.nf,λt=> ?_,by have:=pl.len;omega⟩,ah⟩;rw [pl.cf t,bZ,hK.2.1 t,tk,bZ (prods _ _++_)];show(_+cf [mulM ((a2).getD (i').toNat default) ((b2).getD (k).toNat default)] t)%65536=_;omega
   .rw [tk,bZ,hK.2.1 t];have:cf [mulM ((a2).getD (i').toNat default) ((b2).getD (k).toNat default)] t=0:=by
     rw [aP,gV];have:(mulM ((a2).getD (i').toNat default) ((b2).getD (k).toNat default)).aW=0:=by show((a2).getD (i').toNat default).aW*((b2).getD (k).toNat default).aW%65536=0;omega
     rw [this];split<;>rfl
    rw [this];omega
  .simp (disch:=omega) only [RR];refine⟨λh=>absurd h g3,λ_=>⟨⟨ah,ah,hK.1,λt=> ?_,ah⟩,ah⟩⟩;rw [hK.2.1 t,List.take_of_length_le (show b2.length<=k.toNat by omega),<-FP,bB (d:=default) h3 h9 rfl];simp
 .have:=JM hJ.1 (l:=prods a' b') (λt=>by rw [hJ.2.1 t,List.take_of_length_le (show a'.length<=i.toNat by omega)];simp) (λm hm=>(pm m hm).1);exact congrArg (λz:Bool×List aj=>(z.1,z.2,())) this
def FR{m:aj}(n:Int)(h:aok m.atoms):mulM m ⟨n,[]⟩=⟨m.aW*n%65536,m.atoms⟩:=by
 unfold mulM;rw [<-nJ (a:=m.atoms++ []) (o:=m.atoms) h.1 (by simp)]
def BU(a:List aj)(n:aj):prods a [n]=a.map (λm=>mulM m n):=by
 induction a with
 | nil=>rfl
 | cons x a ih=>simp only [prods,List.flatMap_cons,List.map_cons,List.map_nil]at ih ⊢;rw [ih];rfl
def Mw{t:List Int}:∀ {l:List aj},(∀m∈l,m.aW=0)->cf l t=0
 | [],_=>rfl
 | m::l,h=>by rw [aP,Mw (λm hm=>h m (by simp [hm])),h m (by simp)];split<;>rfl
def dM:aF []:=eD.2 ⟨⟨List.Pairwise.nil,λm hm=>absurd hm (by simp)⟩,by simp,λm hm=>absurd hm (by simp)⟩
def ig(n:Int):aF (bK n):=by
 unfold bK;split
 .refine eD.2 ⟨⟨List.pairwise_singleton _ _,λm hm=> ?_⟩,by simp,λm hm=> ?_⟩
  .rw [List.mem_singleton]at hm;subst hm;assumption
  .rw [List.mem_singleton]at hm;subst hm;exact⟨by simp,List.Pairwise.nil,λk hk=>absurd hk (by simp)⟩
 .exact dM
def iF(n:Int):aF (bQ n):=by
 unfold bQ;split
 .refine eD.2 ⟨⟨List.pairwise_singleton _ _,λm hm=> ?_⟩,by simp,λm hm=> ?_⟩
  .rw [List.mem_singleton]at hm;subst hm;dsimp only;omega
  .rw [List.mem_singleton]at hm;subst hm;exact⟨by simp,List.pairwise_singleton _ _,λk hk=>by rw [List.mem_singleton]at hk;omega⟩
 .exact dM
def alm{p1 f1 p0 f0 p4 f4 p3 f3}(U1:Y11 p1 f1)(U0:Y10 p0 f0)(U4:Y13 p4 f4)(U3:Y9 p3 f3)(a:List aj)(n:Int)(ha:Sh a):Q0.F (p1,f1,p0,f0,p4,f4,p3,f3,()) (a,n,()) (λy=>y=(fP a n,())):=by
 dsimp only [Q0,gm];simp (disch:=omega) only [RR,U1.hp a ha,U1.hf a ha,U3.hp,U3.hf,aQ,jh,bL,ji];unfold fP;refine⟨λh=> ?_,λ⟨h1,h2⟩=> ?_⟩
 .rw [if_neg];rw [Bool.and_eq_true,aQ,bL];rintro⟨g1,g2⟩;rcases h with h | h
  .exact h g1
  .exact h g2
 rw [if_pos (by rw [aV h1,Bool.true_and,bL];exact h2)];have l1:=h1.len;have hss:=h1.nf.ss
 refine ak (λ(y:Int×Int×List aj×List aj×Unit)=>y.1=n/\y.2.2.1=a/\0<=y.2.1/\y.2.1<=a.length/\Nf y.2.2.2.1/\(y.2.2.2.1.length:Int)<=y.2.1/\(∀t,cf y.2.2.2.1 t=cf ((a.take y.2.1.toNat).map (λm=>⟨m.aW*n%65536,m.atoms⟩)) t%65536)
   /\(∀x∈y.2.2.2.1,x.atoms.length<=4/\(y.2.1<a.length->lt x ((a).getD (y.2.1).toNat default)))) (λy=>(a.length-y.2.1).toNat)
  ⟨rfl,rfl,by simp,by simp,⟨List.Pairwise.nil,λm hm=>absurd hm (by simp)⟩,by simp,λt=>by simp [cf],λx hx=>absurd hx (by simp)⟩ ?_
 rintro⟨(n':Int),(i:Int),(a':List aj),(o:List aj),⟨⟩⟩ hI;dsimp only at hI ⊢;obtain⟨rfl,rfl,h3,h4,h5,h6,h7,h8⟩:=hI;have so:Sh o:=⟨ah,λm hm=>by have:=(h8 m hm).1;omega⟩;by_cases h9:i<a'.length
 .have ma:((a').getD (i).toNat default)∈a':=bN h3 h9;have ca:=h1.nf.co _ ma;have qa:=h1.aok ma;have hm:=DT (show 0<=((a').getD (i).toNat default).aW by omega) ah h2.1 h2.2;have nx:i+1<a'.length->lt ((a').getD (i).toNat default) ((a').getD (i+1).toNat default):=λh=>by
   have:=(dh (d:=default) (R:=lt) dZ).1 hss (i+1) ah h;rw [show i+1-1=i by omega]at this;exact this
  have tk:(a'.take (i+1).toNat).map (λm:aj=>(⟨m.aW*n'%65536,m.atoms⟩:aj))=(a'.take i.toNat).map (λm:aj=>(⟨m.aW*n'%65536,m.atoms⟩:aj))++ [⟨((a').getD (i).toNat default).aW*n'%65536,((a').getD (i).toNat default).atoms⟩]:=by
   rw [<-bB (d:=default) h3 h9 rfl,List.map_append];rfl
  simp (disch:=omega) only [RR,U0.hp,U0.hf];refine⟨λ_=>⟨ah,ah,λg=>⟨ah,ah,by simp only [List.length_cons,List.length_nil];omega,⟨ah,ah,?_,?_,λt=> ?_,λx hx=> ?_⟩,ah⟩,λg=>⟨⟨ah,ah,h5,ah,λt=> ?_,λx hx=>⟨(h8 x hx).1,λg2=>dZ ((h8 x hx).2 h9) (nx g2)⟩⟩,ah⟩⟩,λh=>absurd h9 h⟩
  .refine⟨?_,λx hx=> ?_⟩
   .rw [List.pairwise_append];exact⟨h5.ss,List.pairwise_singleton _ _,λx hx z hz=>by rw [List.mem_singleton]at hz;subst hz;exact(h8 x hx).2 h9⟩
   .rw [List.mem_append,List.mem_singleton]at hx;rcases hx with hx | rfl
    .exact h5.co x hx
    .dsimp only;omega
  .rw [List.length_append];simp only [List.length_cons,List.length_nil];omega
  .rw [tk,bZ,bZ,h7 t,aP,gV];dsimp only;by_cases et:((a').getD (i).toNat default).atoms=t
   .rw [if_pos et];have z:cf o t=0:=fT λx hx e=>((h8 x hx).2 h9).ne (e.trans et.symm)
    rw [h7 t]at z;omega
   .rw [if_neg et];omega
  .rw [List.mem_append,List.mem_singleton]at hx;rcases hx with hx | rfl
   .exact⟨(h8 x hx).1,λg2=>dZ ((h8 x hx).2 h9) (nx g2)⟩
   .exact⟨qa.1,λg2=>nx g2⟩
  .rw [tk,bZ,h7 t,aP,gV];dsimp only;have:((a').getD (i).toNat default).aW*n'%65536=0:=by omega
   rw [this];split<;>omega
 .simp (disch:=omega) only [RR,U4.hp o so,U4.hf o so];refine⟨λh=>absurd h h9,λ_=> ?_⟩;have eq:∀t,cf o t=cf (prods a' (bK n')) t%65536:=λt=>by
   rw [h7 t,List.take_of_length_le ah];unfold bK;by_cases hn:1<=n'/\n'<=65535
   .rw [if_pos hn,BU]
    congr 2
    exact List.map_congr_left λm hm=>(FR n' (h1.aok hm).2).symm
   .rw [if_neg hn];have hz:n'=0:=by omega
    have hz2:cf (a'.map (λm=>(⟨m.aW*n'%65536,m.atoms⟩:aj))) t=0:=Mw λm hm=>by
     rw [List.mem_map]at hm;obtain⟨x,_,rfl⟩:=hm;dsimp only;rw [hz];simp
    rw [hz2,show prods a' []=[] by simp [prods]];rfl
  have fb:JL o:=⟨ah,λm hm=>(h8 m hm).1⟩;have:=JM h5 eq (λm hm=>by
   unfold bK at hm;split at hm
   .rw [BU,List.mem_map]at hm;obtain⟨x,hx,rfl⟩:=hm;rw [FR n' (h1.aok hx).2];exact(h1.aok hx).2
   .rw [show prods a' []=[] by simp [prods]]at hm;exact absurd hm (by simp))
  unfold jk;rw [if_pos (by rw [aV h1,aV (ig n')];rfl),<-congrArg Prod.snd this];dsimp only;rw [aV fb];rfl
def acd(l:List aj):(Nf (nf l)/\∀k,cf (nf l) k=cf l k%65536)\/nf l=[]:=by
 by_cases he:∃o,Nf o/\∀k,cf o k=cf l k%65536
 .obtain⟨o,h1,h2⟩:=he;rw [FN h1 h2];exact Or.inl ⟨h1,h2⟩
 .right;unfold nf;rw [dif_neg he]
def ace{l:List aj}{n:Int}(h:aN l n):aN (nf l) n:=by
 rcases acd l with⟨h1,h2⟩ | h1
 .refine bM.2 λm hm k hk=> ?_
  obtain⟨m',g1,g2⟩:=h1.from h2 hm;exact bM.1 h m' g1 k (g2▸hk)
 .rw [h1];exact bM.2 λm hm=>absurd hm (by simp)
def iX(n:Int):aN [] n:=bM.2 λm hm=>absurd hm (by simp)
def VF(l:List aj):aF (jf l).2:=by
 unfold jf;by_cases h:aF (nf l)
 .rw [aV h];exact h
 .rw [bP h];exact dM
def FT{l:List aj}{n:Int}(h:aN l n):aN (jf l).2 n:=by
 unfold jf;dsimp only;split
 .exact ace h
 .exact iX n
def Xw{a b:List aj}{n:Int}(h1:aN a n)(h2:aN b n):aN (a++b) n:=bM.2 λm hm k hk=>by
 rw [List.mem_append]at hm;rcases hm with hm | hm
 .exact bM.1 h1 m hm k hk
 .exact bM.1 h2 m hm k hk
def Mx{a b:List aj}{n:Int}(h1:aN a n)(h2:aN b n):aN (prods a b) n:=bM.2 λm hm k hk=>by
 unfold prods at hm;rw [List.mem_flatMap]at hm;obtain⟨x,hx,hm⟩:=hm;rw [List.mem_map]at hm;obtain⟨y,hy,rfl⟩:=hm;have:k∈x.atoms++y.atoms:=List.mem_mergeSort.1 hk;rw [List.mem_append]at this;rcases this with hk | hk
 .exact bM.1 h1 x hx k hk
 .exact bM.1 h2 y hy k hk
def JN(a b:List aj):aF (jO a b).2:=by unfold jO;split;exact VF _;exact dM
def VG(a b:List aj):aF (jk a b).2:=by unfold jk;split;exact VF _;exact dM
def yY{a b:List aj}{n:Int}(h1:aN a n)(h2:aN b n):aN (jO a b).2 n:=by unfold jO;split;exact FT (Xw h1 h2);exact iX n
def yZ{a b:List aj}{n:Int}(h1:aN a n)(h2:aN b n):aN (jk a b).2 n:=by unfold jk;split;exact FT (Mx h1 h2);exact iX n
def lC(c n:Int):aN (bK c) n:=bM.2 λm hm k hk=>by
 unfold bK at hm;split at hm
 .rw [List.mem_singleton]at hm;subst hm;exact absurd hk (by simp)
 .exact absurd hm (by simp)
def nK{k n:Int}(h:k<n):aN (bQ k) n:=bM.2 λm hm j hj=>by
 unfold bQ at hm;split at hm
 .rw [List.mem_singleton]at hm;subst hm;rw [List.mem_singleton]at hj;omega
 .exact absurd hm (by simp)
def aC.sh{t:List Atom}(h:aC t):ShT t:=⟨by have:=h.2;omega,λa ha=>by
 obtain⟨i,hi,rfl⟩:=List.getElem_of_mem ha;have:=(h.1 i ah ah).1;rw [show(i:Int).toNat=i from rfl,getD_lt hi]at this;unfold dJ at this;split at this
 .exact⟨this.2.1.sh,this.2.2.1.sh⟩
 .rw [ShA,this.1.1,this.1.2];exact⟨iE,iE⟩⟩
def mJ{t:List Atom}{a:Atom}(h:aC t)(h2:t.length<200):aC (aI t a).1/\t.length<=(aI t a).1.length/\(aI t a).1.length<=t.length+1/\(dJ a t.length->0<=(aI t a).2):=by
 have hsp:=gJ t a;unfold aI;split
 .rename_i h3;exact⟨h,Nat.le_refl _,Nat.le_succ _,λ_=>h3⟩
 .rename_i h3;split
  .rename_i h4;exact⟨h,Nat.le_refl _,Nat.le_succ _,λh5=>by rcases h4 with h4 | h4;exact absurd h5 h4;omega⟩
  .rename_i h4;have h5:dJ a t.length:=Classical.byContradiction λh5=>h4 (Or.inl h5)
   refine⟨gW.2 ⟨?_,by rw [List.length_append];simp only [List.length_cons,List.length_nil];omega⟩,by rw [List.length_append];exact Nat.le_add_right _ _,by rw [List.length_append];exact Nat.le_refl _,λ_=>by dsimp only;omega⟩;have hl:((t++ [a]).length:Int)=t.length+1:=by rw [List.length_append];rfl
   have g1:∀i:Int,0<=i->i<t.length->(t++ [a]).getD i.toNat default=t.getD i.toNat default:=λi i1 i2=>by
    rw [getD_lt (show i.toNat< (t++ [a]).length by omega),getD_lt (show i.toNat<t.length by omega),List.getElem_append_left]
   have g2:(t++ [a]).getD ((t.length:Int)).toNat default=a:=by
    rw [getD_lt (show((t.length:Int)).toNat< (t++ [a]).length by omega)];simp
   rw [hl];intro i i1 i2;dsimp only;by_cases i3:i<t.length
   .rw [g1 i i1 i3];have:=(gW.1 h).1 i i1 i3;exact⟨this.1,λj j1 j2=>by dsimp only;rw [g1 j j1 ah];exact this.2 j j1 j2⟩
   .have:i=t.length:=by omega
    subst this;rw [g2];refine⟨h5,λj j1 j2=> ?_⟩;dsimp only;rw [g1 j j1 j2];rcases hsp with⟨_,g⟩ | ⟨g,_⟩
    .exact g j j1 j2
    .exact absurd g h3
def acf{t:List Atom}{op:Int}{x y:List aj}(h:aC t)(h2:t.length<200)(h3:1<=op/\op<=5)(hx:aF x)(hy:aF y)(ux:aN x t.length)(uy:aN y t.length):
  aC (rO t op x y).1/\t.length<=(rO t op x y).1.length/\(rO t op x y).1.length<=t.length+1:=by
 unfold rO;rw [if_pos ⟨h,h3,hx,hy,ux,uy⟩];unfold tDo;have d1:dJ ⟨4,op,x,y⟩ t.length:=by unfold dJ;rw [if_pos rfl];exact⟨h3,hx,hy,ux,uy⟩
 have d2:dJ ⟨4,op,y,x⟩ t.length:=by unfold dJ;rw [if_pos rfl];exact⟨h3,hy,hx,uy,ux⟩
 have p1:=mJ (a:=⟨4,op,x,y⟩) h h2;have p2:=mJ (a:=⟨4,op,y,x⟩) h h2;have q1:=p1.2.2.2 d1;have q2:=p2.2.2.2 d2;split
 .exact⟨h,Nat.le_refl _,Nat.le_succ _⟩
 .split
  .rw [if_neg ah];exact⟨p2.1,p2.2.1,p2.2.2.1⟩
  .rw [if_neg ah];exact⟨p1.1,p1.2.1,p1.2.2.1⟩
def By(b:List Int):Prop:=∀z∈b,0<=z/\z<=255
structure Bt(b:List Int):Prop where
 len:b.length<=2000
 rng:By b
def By.at{b:List Int}(h:By b)(n:Nat):0<=b.getD n default/\b.getD n default<=255:=by
 by_cases h1:n<b.length
 .rw [getD_lt h1];exact h _ (List.getElem_mem _)
 .simp only [List.getD,List.getElem?_eq_none (by omega:b.length<=n)];decide
def acg(b:List Int)(hb:By b)(hl:b.length<1000000000):Qu.F () (b,()) (λy=>Bt y.1/\y.2.1=0):=by
 dsimp only [Qu,gm];simp (disch:=omega) only [RR];refine⟨λh=>⟨ah,ah,ah,⟨?_,?_⟩⟩,λh=>⟨ah,hb⟩⟩
 .rw [List.length_drop,List.length_take];omega
 .intro z hz;exact hb z (List.mem_of_mem_take (List.mem_of_mem_drop hz))
def aln{a b:Int}(h1:0<=a)(h2:a<4611686018427387904)(h3:0<=b)(h4:b<4611686018427387904):0<=fV .xor .i64 a b/\fV .xor .i64 a b<4611686018427387904:=by
 have e:((2^IntKind.i64.bits:Nat):Int)=18446744073709551616:=by decide
 have e2:fV .xor .i64 a b=((a.toNat^^^b.toNat:Nat):Int):=by
  unfold fV;dsimp only;rw [BitVec.toNat_xor,BitVec.toNat_ofInt,BitVec.toNat_ofInt,e,show a%18446744073709551616=a by omega,show b%18446744073709551616=b by omega];have:=Nat.xor_lt_two_pow (show a.toNat<2^62 by omega) (show b.toNat<2^62 by omega);rw [w64 ah ah]
 rw [e2];have:=Nat.xor_lt_two_pow (show a.toNat<2^62 by omega) (show b.toNat<2^62 by omega);omega
def Aa{a b:Int}(h:0<=a):a.tmod b=a%b:=Int.tmod_eq_emod_of_nonneg h
def VH{a b:Int}(h:0<=a):a.tdiv b=a/b:=Int.tdiv_eq_ediv_of_nonneg h
def Pk(n:Int)(b:List Int)(p:Int)(y:Int×List Int×Int×Unit):Prop:=y.2.1=b/\y.2.2.1=p+1/\0<=y.1/\(y.1<n\/y.1=0)
def ach(n:Int)(b:List Int)(p:Int)(hb:Bt b)(h1:0<=p)(h2:p<1000000000):Py.F () (n,b,p,()) (λy=>Pk n b p y):=by
 have hl:=hb.1;have cvu:∀k:Nat,IntKind.i64.wrap (b.getD k default)=b.getD k default:=λk=>by have:=hb.2.at k;exact w64 ah ah
 dsimp only [Py,gm];simp (disch:=omega) only [RR,cvu];refine⟨λh=>⟨rfl,rfl,ah,Or.inr rfl⟩,λ⟨h3,h4⟩=> ?_⟩;have e1:p+1-1=p:=by omega
 rw [e1];refine⟨λh=>⟨ah,ah,ah,?_⟩,λh=> ?_⟩
 .have:=hb.2.at p.toNat;rw [Aa this.1];exact⟨rfl,rfl,Int.emod_nonneg _ ah,Or.inl (Int.emod_lt_of_pos _ ah)⟩
 .have hb0:(0:Int)<b.length:=by omega
  have k1:=Int.emod_nonneg p (show(b.length:Int)≠0 by omega);have k2:=Int.emod_lt_of_pos p hb0;have k3:=Int.emod_nonneg (p*7+3) (show(b.length:Int)≠0 by omega);have k4:=Int.emod_lt_of_pos (p*7+3) hb0;have k5:0<=p/b.length:=Int.ediv_nonneg h1 ah;have k6:p/b.length<=p:=Int.ediv_le_self _ h1;simp (disch:=omega) only [w64,Aa,VH];have q1:=hb.2.at (p%b.length).toNat;have q2:=hb.2.at ((p*7+3)%b.length).toNat;generalize (b.getD (p%b.length).toNat default)=u at q1 ⊢;generalize (b.getD ((p*7+3)%b.length).toNat default)=v at q2 ⊢;generalize p/b.length=w at k5 k6 ⊢;simp (disch:=omega) only [w64,Aa,VH];have q:=aln (a:=u*131+v*1117+p*29+w*53) (b:=(u*131+v*1117+p*29+w*53)/64) ah ah ah ah;rw [Sr];generalize fV .xor .i64 (u*131+v*1117+p*29+w*53) ((u*131+v*1117+p*29+w*53)/64)=g at q ⊢;rw [Aa q.1];exact⟨h4,k1,k2,h4,k3,k4,h4,ah,ah,rfl,rfl,Int.emod_nonneg _ ah,Or.inl (Int.emod_lt_of_pos _ ah)⟩
structure Y38(pp:Int×List Int×Int×Unit->Bool)(ff:Int×List Int×Int×Unit->Int×List Int×Int×Unit):Prop where
 hp:∀n b p,Bt b->0<=p->p<1000000000->pp (n,b,p,())=true
 hf:∀n b p,Bt b->0<=p->p<1000000000->Pk n b p (ff (n,b,p,()))
def alo{p1 f1}(U1:Y38 p1 f1)(n:Int)(b:List Int)(p:Int)(hb:Bt b)(h1:0<=p)(h2:p<1000000000):Pz.F (p1,f1,()) (n,b,p,()) (λy=>y.2.1=b/\y.2.2.1=p+1):=by
 obtain⟨e1,e2,_⟩:=U1.hf n b p hb h1 h2;dsimp only [Pz,gm];simp (disch:=omega) only [RR,U1.hp n b p hb h1 h2,e1,e2]
def Wd(b:List Int)(p:Int)(y:Int×List Int×Int×Unit):Prop:=y.2.1=b/\p<=y.2.2.1/\y.2.2.1<=p+3/\(0<=y.1/\y.1<=65535)
def alp{p1 f1}(U1:Y38 p1 f1)(b:List Int)(p:Int)(hb:Bt b)(h1:0<=p)(h2:p<900000000):Rv.F (p1,f1,()) (b,p,()) (λy=>Wd b p y):=by
 obtain⟨e1,e2,e3,e4⟩:=U1.hf 4 b p hb h1 ah;have P1:∀n,p1 (n,b,p+1,())=true:=λn=>U1.hp n b (p+1) hb ah ah
 have P2:∀n,p1 (n,b,p+1+1,())=true:=λn=>U1.hp n b (p+1+1) hb ah ah
 obtain⟨a1,a2,a3,a4⟩:=U1.hf 9 b (p+1) hb ah ah;obtain⟨b1,b2,b3,b4⟩:=U1.hf 70 b (p+1) hb ah ah;obtain⟨c1,c2,c3,c4⟩:=U1.hf 256 b (p+1) hb ah ah;obtain⟨d1,d2,d3,d4⟩:=U1.hf 256 b (p+1+1) hb ah ah;dsimp only [Rv,gm];simp (disch:=omega) only [RR,U1.hp 4 b p hb h1 ah,P1,P2,e1,e2,a1,a2,b1,b2,c1,c2,d1,d2,List.length_cons,List.length_nil];refine⟨λ_=>⟨ah,ah,ah,ah,rfl,by dsimp only;omega,by dsimp only;omega,?_⟩,λ_=>⟨λ_=>⟨rfl,by dsimp only;omega,by dsimp only;omega,by dsimp only;omega⟩,λ_=>⟨rfl,by dsimp only;omega,by dsimp only;omega,?_⟩⟩⟩
 .dsimp only;have:=bN (d:=default) (xs:=[(0:Int),1,2,3,65535,32768,255,256,65534]) a3 (by simp only [List.length_cons,List.length_nil];omega);generalize List.getD [(0:Int),1,2,3,65535,32768,255,256,65534] _ default=z at this ⊢;simp at this;omega
 .dsimp only;omega
structure Y39(pp:Int×List Int×Int×Unit->Bool)(ff:Int×List Int×Int×Unit->Bool×List Int×Int×Unit):Prop where
 hp:∀n b p,Bt b->0<=p->p<1000000000->pp (n,b,p,())=true
 hf:∀n b p,Bt b->0<=p->p<1000000000->(ff (n,b,p,())).2.1=b/\(ff (n,b,p,())).2.2.1=p+1
structure Y40(pp:List Int×Int×Unit->Bool)(ff:List Int×Int×Unit->Int×List Int×Int×Unit):Prop where
 hp:∀b p,Bt b->0<=p->p<900000000->pp (b,p,())=true
 hf:∀b p,Bt b->0<=p->p<900000000->Wd b p (ff (b,p,()))
structure Y41(pp:List Int×Unit->Bool)(ff:List Int×Unit->List Int×Int×Unit):Prop where
 hp:∀b,By b->b.length<1000000000->pp (b,())=true
 hf:∀b,By b->b.length<1000000000->Bt (ff (b,())).1/\(ff (b,())).2.1=0
structure aiv(n:Int)(b:List Int)(p:Int)(y:List Int×Int×List aj×Unit):Prop where
 b:y.1=b
 lo:p<=y.2.1
 hi:y.2.1<=p+200
 ok:aF y.2.2.1
 un:aN y.2.2.1 n
def alq{p1 f1 p2 f2 p4 f4 p5 f5 p6 f6 p3 f3}(U1:Y38 p1 f1)(U2:Y28 p2 f2)(U4:Y23 p4 f4)(U5:Y25 p5 f5)(U6:Y22 p6 f6)(U3:Y40 p3 f3)(n:Int)(b:List Int)(p:Int)(hb:Bt b)(hn:0<=n)(h1:0<=p)(h2:p<500000000):Sc.F (p1,f1,p2,f2,p4,f4,p5,f5,p6,f6,p3,f3,()) (n,b,p,()) (λy=>aiv n b p y):=by
 obtain⟨a1,a2,a3,a4⟩:=U3.hf b p hb h1 ah;generalize hq:(f3 (b,p,())).2.2.1=q at a2 a3;obtain⟨b1,b2,b3,b4⟩:=U1.hf 3 b q hb ah ah;obtain⟨c1,c2,c3,c4⟩:=U1.hf 6 b (q+1) hb ah ah;dsimp only [Sc,gm];simp (disch:=omega) only [RR,U3.hp b p hb h1 ah,a1,hq,U1.hp 3 b q hb ah ah,b1,b2,U1.hp 6 b (q+1) hb ah ah,c1,c2,U6.hp,U6.hf,List.length_cons,List.length_nil];refine⟨ah,ah,ah,ah,ah,ah,ah,ah,?_⟩;have kr:0<=List.getD [(0:Int),1,2,3,6,12] (f1 (6,b,q+1,())).1.toNat default/\List.getD [(0:Int),1,2,3,6,12] (f1 (6,b,q+1,())).1.toNat default<=12:=by
  have:=bN (d:=default) (xs:=[(0:Int),1,2,3,6,12]) c3 (by simp only [List.length_cons,List.length_nil];omega);generalize List.getD [(0:Int),1,2,3,6,12] _ default=z at this ⊢;simp at this;omega
 generalize List.getD [(0:Int),1,2,3,6,12] (f1 (6,b,q+1,())).1.toNat default=k0 at kr ⊢;generalize List.getD [(0:Int),1,(f3 (b,p,())).1] (f1 (3,b,q,())).1.toNat default=w0
 refine ak (λ(y:Int×Int×List Int×Int×List aj×Unit)=>y.1=n/\0<=y.2.1/\y.2.1<=12/\y.2.2.1=b/\p<=y.2.2.2.1/\y.2.2.2.1+6*y.2.1<=p+100/\aF y.2.2.2.2.1/\aN y.2.2.2.2.1 n) (λy=>y.2.1.toNat)
  ⟨rfl,by simp;omega,by simp;omega,rfl,by simp;omega,by simp;omega,ig _,lC _ _⟩ ?_
 rintro⟨(n':Int),(k:Int),(b':List Int),(r:Int),(o:List aj),⟨⟩⟩ hI;dsimp only at hI ⊢;obtain⟨rfl,k1,k2,rfl,k3,k4,k5,k6⟩:=hI;obtain⟨d1,d2,d3,d4⟩:=U3.hf b' r hb ah ah;generalize hs:(f3 (b',r,())).2.2.1=s at d2 d3;obtain⟨e1,e2,e3,e4⟩:=U1.hf 3 b' s hb ah ah;have em:=Int.emod_nonneg (f3 (b',r,())).1 (show(65535:Int)≠0 by omega);have em2:=Int.emod_lt_of_pos (f3 (b',r,())).1 (show(0:Int)<65535 by omega);have tm:=Aa (b:=65535) d4.1;simp (disch:=omega) only [RR,U3.hp b' r hb ah ah,d1,hs,U1.hp 3 b' s hb ah ah,e1,e2,tm];refine⟨λk7=>⟨ah,?_⟩,λk7=>⟨rfl,by dsimp only;omega,by dsimp only;omega,k5,k6⟩⟩;have m0:([⟨1+(f3 (b',r,())).1%65535,[]⟩]:List aj)=bK (1+(f3 (b',r,())).1%65535):=by unfold bK;rw [if_pos ah]
 rw [m0]
 refine ak (λ(y:Int×Int×Int×List Int×Int×List aj×List aj×Unit)=>y.1=n'/\y.2.1=k/\0<=y.2.2.1/\y.2.2.1<=2/\y.2.2.2.1=b'/\r<=y.2.2.2.2.1/\y.2.2.2.2.1+y.2.2.1<=r+6/\y.2.2.2.2.2.1=o/\aF y.2.2.2.2.2.2.1/\aN y.2.2.2.2.2.2.1 n') (λy=>y.2.2.1.toNat)
  ⟨rfl,rfl,e3,by dsimp only;omega,rfl,by dsimp only;omega,by dsimp only;omega,rfl,ig _,lC _ _⟩ ?_
 rintro⟨(n2:Int),(k':Int),(j:Int),(bb:List Int),(u:Int),(o':List aj),(m:List aj),⟨⟩⟩ hI;dsimp only at hI ⊢;obtain⟨rfl,rfl,j1,j2,rfl,j3,j4,rfl,j5,j6⟩:=hI;obtain⟨g1,g2,g3,g4⟩:=U1.hf n2 bb u hb ah ah;have sA:=(iF (f1 (n2,bb,u,())).1).sh;simp (disch:=omega) only [RR,U1.hp n2 bb u hb ah ah,g1,g2,U2.hp,U2.hf,U4.hp m _ j5.sh sA,U4.hf m _ j5.sh sA,U5.hp o' m k5.sh j5.sh,U5.hf o' m k5.sh j5.sh];refine⟨λ⟨i1,i2⟩=>⟨λi3=>⟨⟨ah,ah,ah,ah,VG _ _,yZ j6 (nK ah)⟩,ah⟩,λi3=>⟨⟨ah,ah,ah,ah,j5,j6⟩,ah⟩⟩,λi1=>⟨λi3=>⟨⟨ah,ah,ah,ah,JN _ _,yY k6 j6⟩,ah⟩,λi3=>⟨⟨ah,ah,ah,ah,k5,k6⟩,ah⟩⟩⟩
def agC(n:Int)(t:List Atom):Prop:=(t.length:Int)=n/\All n (λi=>((t).getD (i).toNat default)=⟨1,i,[],[]⟩)
def agD{t:List Atom}(h:agC 4 t):aC t:=by
 obtain⟨h1,h2⟩:=h;refine gW.2 ⟨?_,ah⟩;rw [h1];intro i i1 i2;have e:=h2 i i1 i2;dsimp only at e ⊢;rw [e];refine⟨?_,λj j1 j2=> ?_⟩
 .unfold dJ;rw [if_neg (by simp)];exact⟨⟨rfl,rfl⟩,Or.inl ⟨rfl,by dsimp only;omega,by dsimp only;omega⟩⟩
 .have e2:=h2 j j1 ah;dsimp only at e2 ⊢;rw [e2];intro h;injection h;omega
def alr{p2 f2}(U2:Y28 p2 f2):QE.F (p2,f2,()) () (λy=>agC 4 y.1/\y.2.1.length=4/\∀p∈y.2.1,Sh p):=by
 dsimp only [QE,gm];simp (disch:=omega) only [RR,U2.hp,U2.hf];refine ak (λ(y:Int×List (List aj)×List Atom×Unit)=>0<=y.1/\y.1<=4/\(y.2.1.length:Int)=y.1/\(∀p∈y.2.1,Sh p)/\agC y.1 y.2.2.1) (λy=>(4-y.1).toNat) ⟨by simp,by simp,by simp,by simp,by simp,All.zero⟩ ?_;rintro⟨(i:Int),(q:List (List aj)),(t:List Atom),⟨⟩⟩ hI;dsimp only at hI ⊢;obtain⟨h1,h2,h3,h0,h4,h5⟩:=hI;simp (disch:=omega) only [RR,U2.hp,U2.hf,List.length_cons,List.length_nil];refine⟨λh6=>⟨ah,ah,⟨ah,ah,by rw [List.length_append];simp only [List.length_cons,List.length_nil];omega,λp hp=>(List.mem_append.1 hp).elim (h0 p) (λg=>by rw [List.mem_singleton.1 g];exact(iF _).sh),by rw [List.length_append];simp only [List.length_cons,List.length_nil];omega,λj j1 j2=> ?_⟩,ah⟩,λh6=> ?_⟩
 .dsimp only;have hl:((t++ [(⟨1,i,[],[]⟩:Atom)]).length:Int)=t.length+1:=by rw [List.length_append];rfl
  by_cases c:j<i
  .have:=h5 j j1 c;dsimp only at this;rw [getD_lt (show j.toNat<t.length by omega)]at this;rw [getD_lt (show j.toNat< (t++ [(⟨1,i,[],[]⟩:Atom)]).length by omega),List.getElem_append_left (show j.toNat<t.length by omega)];exact this
  .have:j=i:=by omega
   subst this;rw [getD_lt (show j.toNat< (t++ [(⟨1,j,[],[]⟩:Atom)]).length by omega),List.getElem_append_right ah];simp
 .rw [show i=4 by omega]at h4 h5;exact⟨⟨h4,h5⟩,ah,h0⟩
structure aq6(b:List Int)(p n:Int)(y:List Int×Int×List Atom×Unit):Prop where
 b:y.1=b
 lo:p<=y.2.1
 hi:y.2.1<=p+10000
 sh:ShT y.2.2.1
 ne:0<y.2.2.1.length
 le:(y.2.2.1.length:Int)<=n
structure Y42(pp:List Atom×Int×List aj×List aj×Unit->Bool)(ff:List Atom×Int×List aj×List aj×Unit->List Atom×List aj×Unit):Prop where
 hp:∀t op x y,ShT t->Sh x->Sh y->pp (t,op,x,y,())=true
 hf:∀t op x y,ShT t->Sh x->Sh y->ff (t,op,x,y,())=((rO t op x y).1,(rO t op x y).2,())
structure Y43(pp:Int×List Int×Int×Unit->Bool)(ff:Int×List Int×Int×Unit->List Int×Int×List aj×Unit):Prop where
 hp:∀n b p,Bt b->0<=n->0<=p->p<500000000->pp (n,b,p,())=true
 hf:∀n b p,Bt b->0<=n->0<=p->p<500000000->aiv n b p (ff (n,b,p,()))
structure Y44(pp:Unit->Bool)(ff:Unit->List Atom×List (List aj)×Unit):Prop where
 hp:pp ()=true
 hf:agC 4 (ff ()).1/\(ff ()).2.1.length=4/\∀p∈(ff ()).2.1,Sh p
def als{p1 f1 p2 f2 p3 f3 p4 f4}(U1:Y38 p1 f1)(U2:Y42 p2 f2)(U3:Y43 p3 f3)(U4:Y44 p4 f4){p5:List Atom×Atom×Unit->Bool}{f5:List Atom×Atom×Unit->Int×List Atom×Unit}(hp5:∀t a,ShT t->ShA a->p5 (t,a,())=true)(hf5:∀t a,ShT t->ShA a->f5 (t,a,())=if bp (aC t)then((aI t a).2,(aI t a).1,())else(-1,[],()))(b:List Int)(p:Int)(hb:Bt b)(h1:0<=p)(h2:p<400000000):Sg.F (p1,f1,p2,f2,p3,f3,p4,f4,p5,f5,()) (b,p,()) (λy=>aq6 b p 12 y):=by
 obtain⟨hp1,hf1⟩:=U1;obtain⟨hp2,hf2⟩:=U2;obtain⟨hp3,hf3⟩:=U3;obtain⟨hp4,hf4⟩:=U4
 replace hf4:=hf4.1
 obtain⟨a1,a2,a3,a4⟩:=hf1 7 b p hb h1 ah;dsimp only [Sg,gm];simp (disch:=omega) only [RR,hp4,hp1 7 b p hb h1 ah,a1,a2];have r4:=hf4.1
 refine ak (λ(y:Int×List Int×Int×List Atom×Unit)=>0<=y.1/\y.1<=6/\y.2.1=b/\p<=y.2.2.1/\y.2.2.1+401*y.1<=p+3000/\aC y.2.2.2.1/\0<y.2.2.2.1.length/\(y.2.2.2.1.length:Int)+y.1<=10) (λy=>y.1.toNat)
  ⟨a3,by dsimp only;omega,rfl,by dsimp only;omega,by dsimp only;omega,agD hf4,by dsimp only;omega,by dsimp only;omega⟩ ?_
 rintro⟨(k:Int),(b':List Int),(q:Int),(t:List Atom),⟨⟩⟩ hI;dsimp only at hI ⊢;obtain⟨k1,k2,rfl,k3,k4,k5,k6,k7⟩:=hI;obtain⟨b1,b2,b3,b4⟩:=hf1 5 b' q hb ah ah;obtain⟨c1,c2,c3,c4,c5⟩:=hf3 t.length b' (q+1) hb ah ah ah;generalize hr:(f3 (t.length,b',q+1,())).2.1=r at c2 c3;obtain⟨d1,d2,d3,d4,d5⟩:=hf3 t.length b' r hb ah ah ah;obtain⟨e1,e2,e3,e4⟩:=hf1 3 b' q hb ah ah;obtain⟨g1,g2,g3,g4⟩:=hf1 2 b' (q+1) hb ah ah;obtain⟨i1,i2,i3,i4⟩:=hf1 3 b' (q+1+1) hb ah ah;have tok:=acf (op:=1+(f1 (5,b',q,())).1) k5 ah ah c4 d4 c5 d5
 simp (disch:=omega) only [RR,hp1 5 b' q hb ah ah,b1,b2,hp3 t.length b' (q+1) hb ah ah ah,c1,hr,hp3 t.length b' r hb ah ah ah,d1,hp2 t _ _ _ k5.sh c4.sh d4.sh,hf2 t _ _ _ k5.sh c4.sh d4.sh,
  hp1 3 b' q hb ah ah,e1,e2,hp1 2 b' (q+1) hb ah ah,g1,g2,hp1 3 b' (q+1+1) hb ah ah,i1,i2,hp5 t ⟨_,_,[],[]⟩ k5.sh ⟨iE,iE⟩,hf5 t ⟨_,_,[],[]⟩ k5.sh ⟨iE,iE⟩,aV k5,List.length_cons,List.length_nil]
 refine⟨λk8=>⟨⟨ah,ah,ah,ah,tok.1,ah,ah⟩,ah⟩,λk8=>⟨λk9=>⟨ah,ah,?_⟩,λk9=>⟨rfl,by dsimp only;omega,by dsimp only;omega,k5.sh,k6,by dsimp only;omega⟩⟩⟩;have pok:=mJ (a:=⟨List.getD [(2:Int),3] (f1 (2,b',q+1,())).1.toNat default,(f1 (3,b',q+1+1,())).1,[],[]⟩) k5 ah;exact⟨rfl,by dsimp only;omega,by dsimp only;omega,pok.1.sh,by dsimp only;omega,by dsimp only;omega⟩
def alu{p1 f1 p2 f2 p3 f3}(U1:Y38 p1 f1)(U2:Y39 p2 f2)(U3:Y28 p3 f3){p4:List Int×Int×Unit->Bool}{f4:List Int×Int×Unit->List Int×Int×List Atom×Unit}(hp4:∀b p,Bt b->0<=p->p<400000000->p4 (b,p,())=true)(hf4:∀b p,Bt b->0<=p->p<400000000->aq6 b p 12 (f4 (b,p,())))(n:Int)(b:List Int)(p:Int)(hb:Bt b)(h1:0<=p)(h2:p<300000000):Si.F (p1,f1,p2,f2,p3,f3,p4,f4,()) (n,b,p,()) (λ(y:List Int×Int×List Atom×Unit)=>y.1=b/\p<=y.2.1/\y.2.1<=p+20000/\ShT y.2.2.1/\0<y.2.2.1.length):=by
 obtain⟨a1,a2,a3,a4,a5,a6⟩:=hf4 b p hb h1 ah;generalize hq:(f4 (b,p,())).2.1=q at a2 a3;generalize ht:(f4 (b,p,())).2.2.1=t at a4 a5 a6;obtain⟨b1,b2⟩:=U2.hf n b q hb ah ah;obtain⟨c1,c2,c3,c4⟩:=U1.hf 4 b (q+1) hb ah ah;obtain⟨d1,d2,d3,d4⟩:=U1.hf 3 b (q+1+1) hb ah ah;have cc:∀a:Atom,ShA a->ShT (t++ [a])/\0< (t++ [a]).length:=λa ha=>⟨⟨by rw [List.length_append];simp only [List.length_cons,List.length_nil];omega,λx hx=>by
  rw [List.mem_append,List.mem_singleton]at hx;rcases hx with hx | rfl
  .exact a4.2 x hx
  .exact ha⟩,by simp⟩
 dsimp only [Si,gm];simp (disch:=omega) only [RR,hp4 b p hb h1 ah,a1,hq,ht,U2.hp n b q hb ah ah,b1,b2,U1.hp 4 b (q+1) hb ah ah,c1,c2,U1.hp 3 b (q+1+1) hb ah ah,d1,d2,U3.hp,U3.hf,List.length_cons,List.length_nil];refine⟨λ_=>⟨λ_=>⟨ah,ah,ah,ah,ah,ah,ah,cc _ (a4.at _)⟩,λ_=>⟨λ_=>⟨ah,ah,ah,cc _ ⟨abT 50,iE⟩⟩,λ_=>⟨λ_=>⟨ah,ah,ah,ah,ah,ah,ah,ah,?_⟩,λ_=>⟨ah,ah,ah,cc _ ⟨iE,iE⟩⟩⟩⟩⟩,λ_=>⟨ah,ah,a4,a5⟩⟩;refine⟨⟨by rw [List.length_set];omega,λx hx=> ?_⟩,by rw [List.length_set];omega⟩;rcases List.mem_or_eq_of_mem_set hx with hx | rfl
 .exact a4.2 x hx
 .exact a4.at (Int.toNat 0)
structure Y45(pp:Int×List Int×Int×Unit->Bool)(ff:Int×List Int×Int×Unit->List Int×Int×List Atom×Unit):Prop where
 hp:∀n b p,Bt b->0<=p->p<300000000->pp (n,b,p,())=true
 hf:∀n b p,Bt b->0<=p->p<300000000->(ff (n,b,p,())).1=b/\p<=(ff (n,b,p,())).2.1/\(ff (n,b,p,())).2.1<=p+20000/\ShT (ff (n,b,p,())).2.2.1/\0< (ff (n,b,p,())).2.2.1.length
def VI{l o:List aj}(h:aF o)(h2:∀k,cf o k=cf l k%65536):jf l=(true,o):=by
 unfold jf;rw [FN h.nf h2,aV h,if_pos rfl]
def Sw(m:aj)(a b:List aj):prods (m::a) b=b.map (mulM m)++prods a b:=by simp [prods]
def FU{t:List Atom}{a:Atom}(h:aC t)(h2:0<=(aI t a).2):aC (aI t a).1/\t.length<=(aI t a).1.length/\aI (aI t a).1 a=aI t a:=by
 have hsp:=gJ t a;by_cases c:0<=jY t a
 .have e:aI t a=(t,jY t a):=by unfold aI;rw [if_pos c]
  rw [e];exact⟨h,Nat.le_refl _,e⟩
 .by_cases c2:¬dJ a t.length\/t.length=200
  .have e:aI t a=(t, -1):=by unfold aI;rw [if_neg c,if_pos c2]
   rw [e]at h2;exact absurd h2 ah
  .have e:aI t a=(t++ [a],(t.length:Int)):=by unfold aI;rw [if_neg c,if_neg c2]
   have hl:t.length<200:=by have:=h.2;omega
   have ok:=mJ (a:=a) h hl;refine⟨ok.1,ok.2.1,?_⟩;rw [e];have g1:∀i:Int,0<=i->i<t.length->(t++ [a]).getD i.toNat default=t.getD i.toNat default:=λi i1 i2=>by
    rw [getD_lt (show i.toNat< (t++ [a]).length by rw [List.length_append];omega),getD_lt (show i.toNat<t.length by omega),List.getElem_append_left]
   have g2:(t++ [a]).getD ((t.length:Int)).toNat default=a:=by
    rw [getD_lt (show((t.length:Int)).toNat< (t++ [a]).length by rw [List.length_append];simp)];simp
   have f:jY (t++ [a]) a=t.length:=by
    refine(gJ (t++ [a]) a).uniq (Or.inr ⟨ah,by rw [List.length_append];simp only [List.length_cons,List.length_nil];omega,by dsimp only;rw [g2],λj j1 j2=> ?_⟩);dsimp only;rw [g1 j j1 j2];rcases hsp with⟨_,g⟩ | ⟨g,_⟩
    .exact g j j1 j2
    .exact absurd g c
   show aI (t++ [a]) a=_;unfold aI;rw [f,if_pos ah]
def Xx{t:List Atom}{op:Int}{x y:List aj}(h:aC t)(h2:(tDo t op x y).1≠ []):aC (tDo t op x y).1/\t.length<=(tDo t op x y).1.length/\tDo (tDo t op x y).1 op x y=tDo t op x y:=by
 by_cases c:(dw op x y).2=true
 .have e:∀t,tDo t op x y=(t,(dw op x y).1):=λt=>by unfold tDo;rw [if_pos c]
  rw [e t];exact⟨h,Nat.le_refl _,e t⟩
 .by_cases c2:op≠2/\0<dU x y
  .have e:∀t,tDo t op x y=if(aI t ⟨4,op,y,x⟩).2<0 then([],[])else((aI t ⟨4,op,y,x⟩).1,bQ (aI t ⟨4,op,y,x⟩).2):=λt=>by unfold tDo;rw [if_neg c,if_pos c2]
   rw [e t]at h2 ⊢;by_cases c3:(aI t ⟨4,op,y,x⟩).2<0
   .rw [if_pos c3]at h2;exact absurd rfl h2
   .rw [if_neg c3];obtain⟨g1,g2,g3⟩:=FU (a:=⟨4,op,y,x⟩) h ah;refine⟨g1,g2,?_⟩;rw [e,g3,if_neg c3]
  .have e:∀t,tDo t op x y=if(aI t ⟨4,op,x,y⟩).2<0 then([],[])else((aI t ⟨4,op,x,y⟩).1,bQ (aI t ⟨4,op,x,y⟩).2):=λt=>by unfold tDo;rw [if_neg c,if_neg c2]
   rw [e t]at h2 ⊢;by_cases c3:(aI t ⟨4,op,x,y⟩).2<0
   .rw [if_pos c3]at h2;exact absurd rfl h2
   .rw [if_neg c3];obtain⟨g1,g2,g3⟩:=FU (a:=⟨4,op,x,y⟩) h ah;refine⟨g1,g2,?_⟩;rw [e,g3,if_neg c3]
def FV{x:List aj}(h:aF x):aF (fP x 65535)/\∀k,cf (fP x 65535) k=(65535*cf x k)%65536:=by
 have hc:∀(l:List aj) k,cf (l.map λm=>(⟨m.aW*65535%65536,m.atoms⟩:aj)) k%65536=(65535*cf l k)%65536:=λl k=>by
  induction l with
  | nil=>rfl
  | cons m l ih=>rw [List.map_cons,aP,aP];dsimp only;split<;>omega
 have no:Nf (x.map λm=>(⟨m.aW*65535%65536,m.atoms⟩:aj)):=⟨by
  rw [List.pairwise_map];exact h.nf.ss,λm hm=>by
  rw [List.mem_map]at hm;obtain⟨n,hn,rfl⟩:=hm;have:=h.nf.co n hn;dsimp only;omega⟩
 have ok:aF (x.map λm=>(⟨m.aW*65535%65536,m.atoms⟩:aj)):=eD.2 ⟨no,by rw [List.length_map];exact h.len,λm hm=>by
  rw [List.mem_map]at hm;obtain⟨n,hn,rfl⟩:=hm;exact show n.atoms.length<=4/\aok n.atoms from h.aok hn⟩
 have pe:prods x (bK 65535)=x.map λm=>(⟨m.aW*65535%65536,m.atoms⟩:aj):=by
  unfold bK;rw [if_pos ah,BU];exact List.map_congr_left λm hm=>FR 65535 (h.aok hm).2
 have e:fP x 65535=x.map λm=>(⟨m.aW*65535%65536,m.atoms⟩:aj):=by
  unfold fP jk;rw [if_pos (by rw [aV h];rfl),if_pos (by rw [aV h,aV (ig _)];rfl),pe,VI ok (λk=>by have:=no.bnd k;omega)]
 rw [e];exact⟨ok,λk=>by rw [<-hc];have:=no.bnd k;omega⟩
def sub_self{x:List aj}(h:aF x):dw 2 x x=([],true):=by
 obtain⟨h1,h2⟩:=FV h;unfold dw jO;rw [if_neg ah,if_pos rfl,if_pos (by rw [aV h,aV h1];rfl),VI dM (λk=>by rw [bZ,h2,gV];omega)]
def kQ{x:List aj}(h:(bE x).2=true):aF x/\x=bK (bE x).1/\0<=(bE x).1/\(bE x).1<=65535:=by
 unfold bE at h ⊢;by_cases c:aF x
 .rw [aV c,if_pos rfl]at h ⊢;refine⟨c,?_⟩;by_cases c1:x.length=0
  .rw [if_pos c1];exact⟨by rw [List.eq_nil_of_length_eq_zero c1];rfl,ah,ah⟩
  .rw [if_neg c1]at h ⊢;by_cases c2:x.length=1/\(x.getD 0 default).atoms.length=0
   .rw [if_pos c2]
    match x,c,c2 with
    | [m],c,c2=>
     have hc:=c.nf.co m (by simp);have ha:m.atoms=[]:=List.eq_nil_of_length_eq_zero c2.2;refine⟨?_,by show 0<=m.aW;omega,by show m.aW<=65535;omega⟩;show [m]=bK m.aW;unfold bK;rw [if_pos hc,<-ha]
   .rw [if_neg c2]at h;exact absurd h (by simp)
 .rw [bP c]at h;exact absurd h (by simp)
def Ih{a:Int}(h1:0<=a)(h2:a<=65535):fV .and .i64 a a=a:=by
 unfold fV;dsimp only;have e:((2^IntKind.i64.bits:Nat):Int)=18446744073709551616:=by decide
 rw [BitVec.and_self,BitVec.toNat_ofInt,e,w64 ah ah];omega
def Xy(a:Int):fV .xor .i64 a a=0:=by
 unfold fV;dsimp only;rw [BitVec.xor_self];rfl
def Ii(a:Int):fV .and .i64 a 0=0:=by
 unfold fV;dsimp only;rw [show BitVec.ofInt IntKind.i64.bits 0=0#IntKind.i64.bits by rfl,BitVec.and_zero];rfl
structure Y46(pp:List Int×Unit->Bool)(ff:List Int×Unit->Int×List aj×List aj×List Atom×Unit):Prop where
 hp:∀c,By c->c.length<1000000000->pp (c,())=true
 hf:∀c,By c->c.length<1000000000->Sh (ff (c,())).2.1/\Sh (ff (c,())).2.2.1/\ShT (ff (c,())).2.2.2.1/\0< (ff (c,())).2.2.2.1.length
structure Y47(pp:Unit->Bool)(ff:Unit->Bool×Unit):Prop where
 hp:pp ()=true
 hf:ff ()=(true,())
structure Y48(pp:List Atom×List Atom×Unit->Bool)(ff:List Atom×List Atom×Unit->Bool×Unit):Prop where
 hp:∀a b,ShT a->pp (a,b,())=true
 hf:∀a b,ShT a->ff (a,b,())=(bp (a=b),())
def VJ{d:List Int}{i j x:Int}(h1:0<=i)(h2:i<d.length)(h3:0<=j):((d.set i.toNat x).getD (j).toNat default)=if j=i then x else((d).getD (j).toNat default):=by
 simp only [List.getD];by_cases h:j=i
 .subst h;rw [if_pos rfl,List.getElem?_set_self ah];rfl
 .rw [if_neg h,List.getElem?_set_ne ah]
def Xz{d:List Int}{i j:Int}(h1:0<=i)(h2:i<d.length)(h3:0<=j)(h4:j<d.length)(h5:i≠j):((d.set i.toNat ((d).getD (j).toNat default)).set j.toNat ((d).getD (i).toNat default)).Perm d:=by
 rw [List.perm_iff_count];intro x;rw [getD_lt (show i.toNat<d.length by omega),getD_lt (show j.toNat<d.length by omega),List.count_set (by simp;omega),List.count_set ah,List.getElem_set_ne ah];have h6:(if d[i.toNat]==x then 1 else 0)<=List.count x d:=by
  split
  .rename_i h;exact List.count_pos_iff.2 (by rw [<-eq_of_beq h];exact List.getElem_mem _)
  .omega
 split<;>split<;>simp_all<;>omega
def alv{p f}(U:Y5 p f)(a b:Int)(d:List Int)(hd:d.length<1000000000)(h1:a=0)(h2:b=d.length):
  QA.F (p,f,()) (a,b,d,()) (λy=>y.1=bV d):=by
 subst h1;dsimp only [QA,gm];simp (disch:=omega) only [RR];have fin:∀e:List Int,e.Perm d->(∀q:Int,1<=q->q<e.length->((e).getD (q-1).toNat default)<=((e).getD (q).toNat default))->e=bV d:=λe g1 g2=>
  nJ ((dh (d:=default) (R:=λa b:Int=>a<=b) (λh1 h2=>Int.le_trans h1 h2)).2 g2) g1
 refine ak (λ(y:Int×Int×Int×List Int×Unit)=>y.1=0/\y.2.1=b/\1<=y.2.2.1/\(y.2.2.1<=b\/y.2.2.1=1)/\y.2.2.2.1.Perm d/\∀q,1<=q->q<y.2.2.1->((y.2.2.2.1).getD (q-1).toNat default)<=((y.2.2.2.1).getD (q).toNat default)) (λy=>(b-y.2.2.1).toNat)
  ⟨rfl,rfl,by simp,Or.inr rfl,List.Perm.refl d,λq g1 g2=>by dsimp only at g2;omega⟩ ?_
 rintro⟨(a':Int),(b':Int),(i:Int),(e:List Int),⟨⟩⟩ hI;dsimp only at hI ⊢;obtain⟨rfl,rfl,h4,h5,h6,h7⟩:=hI;have hle:=h6.length_eq;simp (disch:=omega) only [RR];refine⟨λh9=> ?_,λh9=>fin e h6 λq g1 g2=>h7 q g1 ah⟩
 refine ak (λ(y:Int×Int×Int×Int×List Int×Unit)=>y.1=0/\y.2.1=b'/\y.2.2.1=i/\0<=y.2.2.2.1/\y.2.2.2.1<=i/\y.2.2.2.2.1.Perm d
   /\(∀q,1<=q->q<=i->q≠y.2.2.2.1->((y.2.2.2.2.1).getD (q-1).toNat default)<=((y.2.2.2.2.1).getD (q).toNat default))/\(1<=y.2.2.2.1->y.2.2.2.1+1<=i->((y.2.2.2.2.1).getD (y.2.2.2.1-1).toNat default)<=((y.2.2.2.2.1).getD (y.2.2.2.1+1).toNat default))) (λy=>y.2.2.2.1.toNat)
  ⟨rfl,rfl,rfl,by simp;omega,by simp,h6,λq g1 g2 g3=>h7 q g1 (by dsimp only at g3;omega),λg1 g2=>by dsimp only at g2;omega⟩ ?_
 rintro⟨(a'':Int),(b'':Int),(i':Int),(j:Int),(e':List Int),⟨⟩⟩ hI;dsimp only at hI ⊢;obtain⟨rfl,rfl,rfl,h10,h11,h12,h13,h14⟩:=hI;have hle':=h12.length_eq;simp (disch:=omega) only [RR,List.length_set,U.hp,U.hf]
 repeat' (refine And.intro ?_ ?_)
 all_goals try omega
 .intro ⟨g1,g2⟩;have at2:∀k,0<=k->(((e'.set j.toNat ((e').getD (j-1).toNat default)).set (j-1).toNat ((e').getD (j).toNat default)).getD (k).toNat default)=if k=j-1 then((e').getD (j).toNat default)else if k=j then((e').getD (j-1).toNat default)else((e').getD (k).toNat default):=λk hk=>by
   rw [VJ ah (by simp;omega) hk,VJ ah ah hk]
  repeat' (refine And.intro ?_ ?_)
  all_goals try omega
  .exact(Xz ah ah ah ah ah).trans h12
  .intro q k1 k2 k3;rw [at2 _ ah,at2 _ ah];by_cases c1:q=j
   .subst c1;rw [if_pos rfl,if_neg ah,if_pos rfl];omega
   .rw [if_neg ah];by_cases c2:q=j+1
    .subst c2;rw [if_pos ah,if_neg ah,if_neg ah];exact h14 ah ah
    .rw [if_neg ah,if_neg ah,if_neg ah];exact h13 q k1 k2 c1
  .intro k1 k2;rw [at2 _ ah,at2 _ ah,if_neg ah,if_neg ah,if_neg ah,if_pos ah];have:=h13 (j-1) ah ah ah;exact this
 .intro g;refine⟨⟨ah,ah,h12,λq k1 k2=> ?_⟩,ah⟩;by_cases c:q=j
  .subst c;rw [Bool.and_eq_false_iff,decide_eq_false_iff_not,decide_eq_false_iff_not]at g;omega
  .exact h13 q k1 ah c
def alx{p:Int×Int×Unit->Bool}{f:Int×Int×Unit->Bool×Unit}
  {p1:Int×Int×List Int×Unit->Bool} {f1:Int×Int×List Int×Unit->List Int×Unit} (hp1:∀(a b:Int) (d:List Int),d.length<1000000000->a=0->b=d.length->p1 (a,b,d,())=true) (hf1:∀(a b:Int) (d:List Int),d.length<1000000000->a=0->b=d.length->(f1 (a,b,d,())).1=bV d)
  (p2 p3 f2 f3 p4 f4 p5 f5 p6 f6 p7 f7 p8 f8 p9 f9) (a b k:Int) (d:List Int) (hd:d.length<=12) (h1:a=0) (h2:b=d.length):
  QB.F (p,f,p1,f1,p2,f2,p3,f3,p4,f4,p5,f5,p6,f6,p7,f7,p8,f8,p9,f9,()) (a,b,k,d,()) (λy=>y.1=bV d):=by
 subst h1;dsimp only [QB,gm];simp (disch:=omega) only [RR];refine ak (λ(y:Int×Int×Int×Bool×Bool×List Int×Unit)=>y.1=0/\y.2.1=b/\y.2.2.2.2.2.1=d) (λy=>0) ⟨rfl,rfl,rfl⟩ ?_;rintro⟨(a':Int),(b':Int),(k':Int),(u:Bool),(v:Bool),(e:List Int),⟨⟩⟩ hI;dsimp only at hI ⊢;obtain⟨rfl,rfl,rfl⟩:=hI;simp (disch:=omega) only [RR];exact⟨λ_=>⟨hp1 0 b' e ah rfl h2,hf1 0 b' e ah rfl h2⟩,λh=>absurd h ah⟩
def aly{p1:Int×Int×Int×List Int×Unit->Bool}{f1:Int×Int×Int×List Int×Unit->List Int×Unit}(hp1:∀(a b k:Int) (d:List Int),d.length<=12->a=0->b=d.length->p1 (a,b,k,d,())=true)(hf1:∀(a b k:Int) (d:List Int),d.length<=12->a=0->b=d.length->(f1 (a,b,k,d,())).1=bV d)
  {p2:Int×Unit->Bool} {f2:Int×Unit->Int×Unit} (hp2:∀n,0<=n->n<=18446744073709551615->p2 (n,())=true) (a:List Int) (ha:a.length<=8):
  QC.F (p1,f1,p2,f2,()) (a,()) (λy=>y=(bV a,())):=by
 dsimp only [QC,gm];have e:IntKind.u64.wrap (a.length:Int)=(a.length:Int):=IntWalk.u64_in _ ah;refine⟨?_,hp1 _ _ _ _ ah rfl rfl,by rw [hf1 _ _ _ _ ah rfl rfl]⟩;rw [e];exact hp2 _ ah ah
def wOK(l:List Int):Prop:=∀z∈l,0<=z/\z<=65535
def wOK.at{l:List Int}(h:wOK l)(n:Nat):0<=l.getD n default/\l.getD n default<=65535:=by
 by_cases hn:n<l.length
 .rw [getD_lt hn];exact h _ (List.getElem_mem _)
 .rw [List.getD,List.getElem?_eq_none ah];decide
def gM(v:List Int)(k:Int):Int:=if k<v.length then((v).getD (k).toNat default)else 0
def uG{v:List Int}(h:wOK v)(k:Int):0<=gM v k/\gM v k<=65535:=by
 unfold gM;split
 .exact h.at _
 .omega
def evM(v:List Int)(c:Int)(l:List Int):Int:=l.foldl (λc k=>c*gM v k%65536) c
def evF(v:List Int)(p:List aj):Int:=p.foldl (λs m=>(s+evM v m.aW m.atoms)%65536) 0
def Ij{α β:Type}(g:β->α->β)(b:β){l:List α}{i:Int}{d:α}(h0:0<=i)(h:i<l.length):(l.take (i+1).toNat).foldl g b=g ((l.take i.toNat).foldl g b) (l.getD i.toNat d):=by
 rw [<-bB (d:=d) h0 h rfl,List.foldl_append];rfl
def aq7{p1 f1}(U1:Y9 p1 f1)(a:List Int)(ha:a.length<1000000000):
  abw.F (p1,f1,()) (a,()) (λy=>y=(bp (wOK a),())):=by
 dsimp only [abw,gm];simp (disch:=omega) only [RR];refine ak (λ(y:List Int×Int×Int×Unit)=>y.1=a/\y.2.1=a.length/\0<=y.2.2.1/\y.2.2.1<=a.length/\All y.2.2.1 (λi=>0<=((a).getD (i).toNat default)/\((a).getD (i).toNat default)<=65535)) (λy=>(a.length-y.2.2.1).toNat) ⟨rfl,rfl,by simp,by simp,All.zero⟩ ?_;rintro⟨(l:List Int),(n:Int),(i:Int),⟨⟩⟩ hI;dsimp only at hI ⊢;obtain⟨rfl,rfl,h1,h2,h3⟩:=hI;simp (disch:=omega) only [RR,U1.hp,U1.hf];refine⟨λh4=>⟨ah,ah,λh5=> ?_,λh5=>⟨⟨ah,ah,h3.snoc ?_⟩,ah⟩⟩,λh4=> ?_⟩
 .rw [ji]at h5;rw [bP λg=>h5 (g.at _)]
 .rw [bL]at h5;exact h5
 .rw [aV];exact mI (d:=default) (G:=λz:Int=>0<=z/\z<=65535).1 (h3.le ah)
def VK{v:List Int}:∀ {l:List Int} {c:Int},0<=c/\c<=65535->0<=evM v c l/\evM v c l<=65535
 | [],_,h=>h
 | k::l,c,h=>VK (l:=l) (c:=c*gM v k%65536) ah
def qP(v:List Int)(p:List aj):0<=evF v p/\evF v p<=65535:=by
 unfold evF;have:∀(p:List aj) (s:Int),0<=s/\s<=65535->0<=p.foldl (λs m=>(s+evM v m.aW m.atoms)%65536) s/\p.foldl (λs m=>(s+evM v m.aW m.atoms)%65536) s<=65535:=by
  intro p
  induction p with
  | nil=>exact λs h=>h
  | cons m p ih=>exact λs h=>ih _ (by dsimp only;omega)
 exact this p 0 ah
structure Y49(pp:List Int×Unit->Bool)(ff:List Int×Unit->Bool×Unit):Prop where
 hp:∀a,a.length<1000000000->pp (a,())=true
 hf:∀a,a.length<1000000000->ff (a,())=(bp (wOK a),())
structure Y50(pp:List aj×List Int×Unit->Bool)(ff:List aj×List Int×Unit->Int×Unit):Prop where
 hp:∀a v,aF a->wOK v->v.length<1000000000->pp (a,v,())=true
 hf:∀a v,aF a->wOK v->v.length<1000000000->ff (a,v,())=(evF v a,())
def aVal(regs loads ins out:List Int)(a:Atom):Int:=
 if a.kind=1 then gM regs a.k else if a.kind=2 then gM loads a.k else if a.kind=3 then gM ins a.k else wdo a.k (evF out a.x) (evF out a.y)
def tv(regs loads ins:List Int)(t:List Atom):List Int:=t.foldl (λo a=>o++ [aVal regs loads ins o a]) []
noncomputable def wH (t:List Atom) (regs loads ins:List Int):List Int:=if bp (aC t/\wOK regs/\wOK loads/\wOK ins)then tv regs loads ins t else []
def aci{regs loads ins:List Int}(h1:wOK regs)(h2:wOK loads)(h3:wOK ins)(out:List Int)(a:Atom):0<=aVal regs loads ins out a/\aVal regs loads ins out a<=65535:=by
 unfold aVal
 repeat' split
 .exact uG h1 _
 .exact uG h2 _
 .exact uG h3 _
 .exact DR _ _ _
def wOK.snoc{l:List Int}(h:wOK l){x:Int}(hx:0<=x/\x<=65535):wOK (l++ [x]):=λz hz=>by
 rw [List.mem_append,List.mem_singleton]at hz;rcases hz with hz | rfl
 .exact h z hz
 .exact hx
def DV(regs loads ins:List Int)(t:List Atom)(a:Atom):tv regs loads ins (t++ [a])=tv regs loads ins t++ [aVal regs loads ins (tv regs loads ins t) a]:=by
 unfold tv;rw [List.foldl_append];rfl
def JO(regs loads ins:List Int)(t:List Atom):(tv regs loads ins t).length=t.length:=by
 suffices h:∀(t:List Atom) (o:List Int),(t.foldl (λo a=>o++ [aVal regs loads ins o a]) o).length=o.length+t.length by
  have:=h t [];rw [List.length_nil,Nat.zero_add]at this;exact this
 intro t
 induction t with
 | nil=>exact λo=>rfl
 | cons a t ih=>exact λo=>by rw [List.foldl_cons,ih,List.length_append,List.length_cons,List.length_cons,List.length_nil];omega
def VL{regs loads ins:List Int}(h1:wOK regs)(h2:wOK loads)(h3:wOK ins)(t:List Atom):wOK (tv regs loads ins t):=by
 suffices h:∀(t:List Atom) (o:List Int),wOK o->wOK (t.foldl (λo a=>o++ [aVal regs loads ins o a]) o)from h t [] (λz hz=>by cases hz)
 intro t
 induction t with
 | nil=>exact λo h=>h
 | cons a t ih=>exact λo h=>ih _ (h.snoc (aci h1 h2 h3 _ _))
def alz{p1 f1}(U1:Y40 p1 f1)(n:Int)(b:List Int)(p:Int)(hb:Bt b)(hn:0<=n/\n<=100)(h1:0<=p)(h2:p<800000000):Rz.F (p1,f1,()) (n,b,p,()) (λ(y:List Int×Int×List Int×Unit)=>y.1=b/\p<=y.2.1/\y.2.1<=p+300/\y.2.2.1.length=n/\wOK y.2.2.1):=by
 dsimp only [Rz,gm];simp (disch:=omega) only [RR];refine ak (λ(y:Int×Int×List Int×Int×List Int×Unit)=>y.1=n/\0<=y.2.1/\y.2.1<=n/\y.2.2.1=b/\p<=y.2.2.2.1/\y.2.2.2.1<=p+3*y.2.1/\y.2.2.2.2.1.length=y.2.1/\wOK y.2.2.2.2.1) (λy=>(n-y.2.1).toNat) ⟨rfl,by simp,by simp;omega,rfl,by simp,by simp,rfl,λz hz=>(by cases hz)⟩ ?_;rintro⟨(n':Int),(k:Int),(b':List Int),(q:Int),(o:List Int),⟨⟩⟩ hI;dsimp only at hI ⊢;obtain⟨rfl,k1,k2,rfl,k3,k4,k5,k6'⟩:=hI;obtain⟨a1,a2,a3,a4⟩:=U1.hf b' q hb ah ah;simp (disch:=omega) only [RR,U1.hp b' q hb ah ah,List.length_append,List.length_cons,List.length_nil];exact⟨λk6=>⟨ah,⟨ah,ah,a1,ah,ah,ah,k6'.snoc a4⟩,ah⟩,λk6=>⟨ah,ah,ah,k6'⟩⟩
def prA(v:List Int)(l:List Int):Int:=l.foldr (λk c=>gM v k*c) 1
def evS(v:List Int)(p:List aj):Int:=(p.map λm=>m.aW*prA v m.atoms).sum
theorem iP(v:List Int)(k:Int)(l:List Int):prA v (k::l)=gM v k*prA v l:=rfl
def FW(v:List Int):∀a b:List Int,prA v (a++b)=prA v a*prA v b
 | [],b=>by show prA v b=1*_;rw [Int.one_mul]
 | k::a,b=>by rw [List.cons_append,iP,iP,FW v a b,Int.mul_assoc]
def acj(v:List Int){a b:List Int}(h:a.Perm b):prA v a=prA v b:=by
 induction h with
 | nil=>rfl
 | cons x _ ih=>rw [iP,iP,ih]
 | swap x y l=>rw [iP,iP,iP,iP,Int.mul_left_comm]
 | trans _ _ h1 h2=>exact h1.trans h2
def jl(v:List Int)(m:aj)(p:List aj):evS v (m::p)=m.aW*prA v m.atoms+evS v p:=by simp [evS]
def y7(v:List Int)(a b:List aj):evS v (a++b)=evS v a+evS v b:=by simp [evS]
theorem VN(v:List Int):evS v []=0:=rfl
def acn(v:List Int):∀(l:List Int) (c:Int),evM v c l%65536=c*prA v l%65536
 | [],c=>by show c%65536=c*1%65536;rw [Int.mul_one]
 | k::l,c=>by
  show evM v (c*gM v k%65536) l%65536=_;rw [acn v l,iP,<-Int.mul_assoc,Int.mul_emod,Int.emod_emod_of_dvd _ (Int.dvd_refl _),<-Int.mul_emod]
def qQ(v:List Int)(p:List aj):evF v p=evS v p%65536:=by
 have:∀(p:List aj) (s:Int),p.foldl (λs m=>(s+evM v m.aW m.atoms)%65536) s%65536=(s+evS v p)%65536:=by
  intro p
  induction p with
  | nil=>intro s;show s%65536=(s+0)%65536;rw [Int.add_zero]
  | cons m p ih=>
   intro s;rw [List.foldl_cons,ih,jl];have h:=acn v m.atoms m.aW;omega
 have h:=this p 0;have r:=qP v p;unfold evF at r ⊢;rw [Int.zero_add]at h;omega
def Ik(v:List Int)(k:List Int):∀l:List aj,evS v l=cf l k*prA v k+evS v (l.filter λm=>decide (m.atoms≠k))
 | []=>by rw [gV,Int.zero_mul];rfl
 | m::l=>by
  have ih:=Ik v k l;rw [jl,aP];by_cases h:m.atoms=k
  .rw [if_pos h,List.filter_cons_of_neg (by simp [h]),ih,Int.add_mul,h];omega
  .rw [if_neg h,List.filter_cons_of_pos (by simp [h]),jl,ih,Int.zero_add];omega
def Il(k j:List Int):∀l:List aj,cf (l.filter λm=>decide (m.atoms≠k)) j=if j=k then 0 else cf l j
 | []=>by rw [List.filter_nil,gV];split<;>rfl
 | m::l=>by
  have ih:=Il k j l;by_cases h:m.atoms=k
  .rw [List.filter_cons_of_neg (by simp [h]),ih,aP];by_cases h2:j=k
   .rw [if_pos h2,if_pos h2]
   .rw [if_neg h2,if_neg h2,if_neg (by rw [h];exact λe=>h2 e.symm)];omega
  .rw [List.filter_cons_of_pos (by simp [h]),aP,ih,aP];by_cases h2:j=k
   .rw [if_pos h2,if_pos h2,if_neg (by rw [h2];exact h)];rfl
   .rw [if_neg h2,if_neg h2]
def MB(v:List Int):∀(n:Nat) (l:List aj),l.length<=n->(∀k,cf l k%65536=0)->evS v l%65536=0
 | 0,[],_,_=>rfl
 | n+1,[],_,_=>rfl
 | n+1,m::l,hl,h=>by
  have hs:=Ik v m.atoms (m::l);have hf:((m::l).filter λx=>decide (x.atoms≠m.atoms)).length<=n:=by
   rw [List.filter_cons_of_neg (by simp)];have:=List.length_filter_le (λx:aj=>decide (x.atoms≠m.atoms)) l;simp only [List.length_cons]at hl;omega
  have ih:=MB v n _ hf (λk=>by
   rw [Il];split
   .rfl
   .exact h k)
  have e:=h m.atoms;have e2:cf (m::l) m.atoms*prA v m.atoms%65536=0:=by rw [Int.mul_emod,e,Int.zero_mul];rfl
  rw [hs];omega
def negL(l:List aj):List aj:=l.map λm=>⟨-m.aW,m.atoms⟩
def Sy(k:List Int):∀l:List aj,cf (negL l) k= -cf l k
 | []=>rfl
 | m::l=>by
  have ih:=Sy k l;show cf (⟨-m.aW,m.atoms⟩::negL l) k=_;rw [aP,aP,ih];dsimp only;split<;>omega
def JQ(v:List Int):∀l:List aj,evS v (negL l)= -evS v l
 | []=>rfl
 | m::l=>by
  have ih:=JQ v l;show evS v (⟨-m.aW,m.atoms⟩::negL l)=_;rw [jl,jl,ih];dsimp only;rw [Int.neg_mul];omega
def Im(v:List Int){a b:List aj}(h:∀k,cf a k%65536=cf b k%65536):evS v a%65536=evS v b%65536:=by
 have h1:=MB v _ (a++negL b) (Nat.le_refl _) (λk=>by rw [bZ,Sy];have:=h k;omega);rw [y7,JQ]at h1;omega
def ins(c:Int)(at_:List Int):List aj->List aj
 | []=>if c%65536=0 then []else [⟨c%65536,at_⟩]
 | m::o=>if cB at_ m.atoms<0 then(if c%65536=0 then m::o else⟨c%65536,at_⟩::m::o)
  else if at_=m.atoms then(if(c+m.aW)%65536=0 then o else⟨(c+m.aW)%65536,at_⟩::o)else m::ins c at_ o
def aco{c:Int}{a:List Int}{x:aj}(hx:cB x.atoms a<0):∀ {o:List aj},(∀y∈o,lt x y)->∀y∈ins c a o,lt x y
 | [],_,y,hy=>by
  unfold ins at hy;split at hy
  .cases hy
  .rw [List.mem_singleton]at hy;subst hy;exact hx
 | m::o,h,y,hy=>by
  unfold ins at hy;split at hy
  .split at hy
   .exact h y hy
   .rcases List.mem_cons.1 hy with rfl | hy
    .exact hx
    .exact h y hy
  .split at hy
   .split at hy
    .exact h y (List.mem_cons_of_mem _ hy)
    .rcases List.mem_cons.1 hy with rfl | hy
     .exact hx
     .exact h y (List.mem_cons_of_mem _ hy)
   .rcases List.mem_cons.1 hy with rfl | hy
    .exact h _ (List.mem_cons_self ..)
    .exact aco hx (λz hz=>h z (List.mem_cons_of_mem _ hz)) y hy
def acp(c:Int)(a:List Int):∀ {o:List aj},Nf o->Nf (ins c a o)/\∀k,cf (ins c a o) k=((if a=k then c else 0)+cf o k)%65536
 | [],h=>by
  unfold ins;by_cases h1:c%65536=0
  .rw [if_pos h1];exact⟨h,λk=>by rw [gV];split<;>omega⟩
  .rw [if_neg h1];refine⟨⟨List.pairwise_singleton _ _,λm hm=>by rw [List.mem_singleton]at hm;subst hm;dsimp only;omega⟩,λk=> ?_⟩;rw [aP,gV];dsimp only;split<;>omega
 | m::o,h=>by
  have hb:=h.bnd;have ho:Nf o:=⟨h.ss.tail,λx hx=>h.co x (List.mem_cons_of_mem _ hx)⟩;have hm:=h.co m (List.mem_cons_self ..);unfold ins;by_cases h1:cB a m.atoms<0
  .rw [if_pos h1];by_cases h2:c%65536=0
   .rw [if_pos h2];exact⟨h,λk=>by have:=hb k;split<;>omega⟩
   .rw [if_neg h2];have g:Nf (⟨c%65536,a⟩::m::o):=⟨List.pairwise_cons.2 ⟨λy hy=>by
     rcases List.mem_cons.1 hy with rfl | hy
     .exact h1
     .exact dZ (b:=m) h1 (List.rel_of_pairwise_cons h.ss hy),h.ss⟩,λx hx=>by
     rcases List.mem_cons.1 hx with rfl | hx
     .dsimp only;omega
     .exact h.co x hx⟩
    refine⟨g,λk=> ?_⟩;have hk:=hb k;have gk:=g.bnd k;rw [aP]at gk ⊢;dsimp only at gk ⊢;split<;>split at gk<;>omega
  .rw [if_neg h1];by_cases h2:a=m.atoms
   .rw [if_pos h2];by_cases h3:(c+m.aW)%65536=0
    .rw [if_pos h3];refine⟨ho,λk=> ?_⟩;have ok:=ho.bnd k;have hk:=hb k;rw [aP]at hk ⊢;rw [h2];by_cases h4:m.atoms=k
     .rw [if_pos h4,if_pos h4];have:cf o k=0:=fT λx hx e=>(List.rel_of_pairwise_cons h.ss hx:lt m x).ne (h4.trans e.symm)
      omega
     .rw [if_neg h4,if_neg h4];omega
    .rw [if_neg h3];have g:Nf (⟨(c+m.aW)%65536,a⟩::o):=⟨List.pairwise_cons.2 ⟨λy hy=>by
      have:lt m y:=List.rel_of_pairwise_cons h.ss hy;unfold lt at this ⊢;rw [h2];exact this,ho.ss⟩,λx hx=>by
      rcases List.mem_cons.1 hx with rfl | hx
      .dsimp only;omega
      .exact ho.co x hx⟩
     refine⟨g,λk=> ?_⟩;have ok:=ho.bnd k;rw [aP,aP];dsimp only;rw [h2];by_cases h4:m.atoms=k
     .rw [if_pos h4,if_pos h4,if_pos h4];have:cf o k=0:=fT λx hx e=>(List.rel_of_pairwise_cons h.ss hx:lt m x).ne (h4.trans e.symm)
      omega
     .rw [if_neg h4,if_neg h4,if_neg h4];omega
   .rw [if_neg h2];obtain⟨i1,i2⟩:=acp c a ho;have hlt:cB m.atoms a<0:=by
     have:=jL m.atoms a;by_cases z:cB m.atoms a=0
     .exact absurd (gU.1 z).symm h2
     .omega
    refine⟨⟨List.pairwise_cons.2 ⟨aco hlt (λy hy=>List.rel_of_pairwise_cons h.ss hy),i1.ss⟩,λx hx=>by
     rcases List.mem_cons.1 hx with rfl | hx
     .exact hm
     .exact i1.co x hx⟩,λk=> ?_⟩
    rw [aP,aP,i2 k];by_cases h4:m.atoms=k
    .have:cf o k=0:=fT λx hx e=>(List.rel_of_pairwise_cons h.ss hx:lt m x).ne (h4.trans e.symm)
     rw [if_pos h4,if_neg (by rw [<-h4];exact h2),this];omega
    .rw [if_neg h4];omega
def aiw:∀l:List aj,∃o,Nf o/\∀k,cf o k=cf l k%65536
 | []=>⟨[],⟨List.Pairwise.nil,λm hm=>by cases hm⟩,λk=>rfl⟩
 | m::l=>by
  obtain⟨o,h1,h2⟩:=aiw l;obtain⟨g1,g2⟩:=acp m.aW m.atoms h1;refine⟨_,g1,λk=> ?_⟩;rw [g2,aP,h2];split<;>omega
def DW(l:List aj):Nf (nf l)/\∀k,cf (nf l) k=cf l k%65536:=by
 obtain⟨o,h1,h2⟩:=aiw l;rw [FN h1 h2];exact⟨h1,h2⟩
def acr(v:List Int){l:List aj}(h:(jf l).1=true):evF v (jf l).2=evS v l%65536:=by
 unfold jf at h ⊢;dsimp only at h ⊢;rw [h,if_pos rfl,qQ];exact Im v λk=>by rw [(DW l).2];omega
def acs(v:List Int){a b:List aj}(h:(jO a b).1=true):evF v (jO a b).2=(evF v a+evF v b)%65536:=by
 unfold jO at h ⊢;split at h
 .rename_i c;rw [if_pos c,acr v h,y7,qQ,qQ];omega
 .cases h
def MC(v:List Int)(m:aj):∀b:List aj,evS v (b.map (mulM m))%65536=m.aW*prA v m.atoms*evS v b%65536
 | []=>by rw [List.map_nil,VN,Int.mul_zero]
 | n::b=>by
  have ih:=MC v m b;rw [List.map_cons,jl,jl,Int.mul_add];have e:(mulM m n).aW*prA v (mulM m n).atoms%65536=m.aW*prA v m.atoms*(n.aW*prA v n.atoms)%65536:=by
   have p:prA v (mulM m n).atoms=prA v m.atoms*prA v n.atoms:=by rw [<-FW];exact acj v (List.mergeSort_perm _ _)
   rw [p];show m.aW*n.aW%65536*_%65536=_;rw [Int.mul_emod,Int.emod_emod_of_dvd _ (Int.dvd_refl _),<-Int.mul_emod]
   congr 1
   rw [Int.mul_assoc,Int.mul_assoc,Int.mul_left_comm n.aW]
  omega
def Io(v:List Int)(b:List aj):∀a:List aj,evS v (prods a b)%65536=evS v a*evS v b%65536
 | []=>by show evS v []%65536=_;rw [VN,Int.zero_mul]
 | m::a=>by
  have ih:=Io v b a;have h:=MC v m b;rw [Sw,y7,jl,Int.add_mul];omega
def alA(v:List Int){a b:List aj}(h:(jk a b).1=true):evF v (jk a b).2=(evF v a*evF v b)%65536:=by
 unfold jk at h ⊢;split at h
 .rename_i c;rw [if_pos c,acr v h,Io,qQ,qQ,<-Int.mul_emod]
 .cases h
def alB(v:List Int){x:List aj}(h:aF x):evF v (fP x 65535)=(-evF v x)%65536:=by
 rw [qQ,qQ];have:=Im v (a:=fP x 65535) (b:=negL x) λk=>by rw [(FV h).2,Sy];omega
 rw [this,JQ];omega
def Ab(v:List Int){n:Int}(h:0<=n/\n<=65535):evF v (bK n)=n:=by
 unfold bK;split
 .show(0+n)%65536=n;omega
 .show(0:Int)=n;omega
def VO(v:List Int){k:Int}(h:0<=k/\k<=199)(hv:wOK v):evF v (bQ k)=gM v k:=by
 have r:=uG hv k;unfold bQ;rw [if_pos h];show(0+1*gM v k%65536)%65536=_;omega
def Ip{a:Int}(h1:0<=a)(h2:a<=65535):fV .xor .i64 a 0=a:=by
 have:=Ih h1 h2;unfold fV at this ⊢;dsimp only at this ⊢;rw [BitVec.and_self]at this;rw [show BitVec.ofInt IntKind.i64.bits 0=0#IntKind.i64.bits by rfl,BitVec.xor_zero];exact this
def ME{op:Int}(hop:1<=op/\op<=5){x y:List aj}(hx:aF x)(hy:aF y):aF (dw op x y).1:=by
 unfold dw;split
 .exact JN _ _
 .split
  .exact JN _ _
  .split
   .exact VG _ _
   .unfold sO
    repeat' split
    all_goals first | exact ig _ | exact dM | assumption
theorem agE(v:List Int){op:Int}{x y:List aj}(hop:1<=op/\op<=5)(hx:aF x)(hy:aF y)(h:(dw op x y).2=true):evF v (dw op x y).1=wdo op (evF v x) (evF v y):=by
 have rx:=qP v x;have ry:=qP v y;have W:wdo op (evF v x) (evF v y)=if op=1 then(evF v x+evF v y)%65536 else if op=2 then(evF v x-evF v y)%65536 else if op=3 then(evF v x*evF v y)%65536 else if op=4 then fV .and .i64 (evF v x) (evF v y)else if op=5 then fV .xor .i64 (evF v x) (evF v y)else 0:=by
  unfold wdo;rw [if_pos ⟨rx,ry⟩]
 unfold dw at h ⊢;by_cases c1:op=1
 .rw [if_pos c1]at h ⊢;rw [W,if_pos c1];exact acs v h
 rw [if_neg c1]at h ⊢;by_cases c2:op=2
 .rw [if_pos c2]at h ⊢;rw [W,if_neg c1,if_pos c2];dsimp only at h ⊢;rw [acs v h,alB v hy];omega
 rw [if_neg c2]at h ⊢;by_cases c3:op=3
 .rw [if_pos c3]at h ⊢;rw [W,if_neg c1,if_neg c2,if_pos c3];exact alA v h
 rw [if_neg c3]at h ⊢;unfold sO at h ⊢;have N:∀ {z:List aj},(bE z).2=true->evF v z=(bE z).1:=λ{z} g=>by
  obtain⟨_,g2,g3⟩:=kQ g;have:=Ab v g3;rw [<-g2]at this;exact this
 have W4:op=4->wdo op (evF v x) (evF v y)=fV .and .i64 (evF v x) (evF v y):=λe=>by rw [W,if_neg c1,if_neg c2,if_neg c3,if_pos e]
 have W5:op≠4->wdo op (evF v x) (evF v y)=fV .xor .i64 (evF v x) (evF v y):=λe=>by rw [W,if_neg c1,if_neg c2,if_neg c3,if_neg e,if_pos ah]
 have N0:evF v []=0:=rfl;split
 .rename_i g;rw [Bool.and_eq_true]at g;rw [N g.1,N g.2];exact Ab v (DR _ _ _)
 .rename_i g0;rw [if_neg g0]at h;by_cases e1:dU x y=0
  .have exy:=iW.1 e1;by_cases e2:op=4
   .rw [if_pos ⟨e1,e2⟩,W4 e2,<-exy,Ih rx.1 rx.2]
   .rw [if_neg (λg=>e2 g.2),if_pos e1,W5 e2,<-exy,Xy];exact N0
  .rw [if_neg (λg=>e1 g.1),if_neg e1]at h ⊢;by_cases px:(bE x).2=true
   .rw [if_pos px]at h ⊢;have ex:=N px;by_cases d1:op=4/\(bE x).1=0
    .rw [if_pos d1,W4 d1.1,ex,d1.2,BP,Ii];exact N0
    .rw [if_neg d1]at h ⊢;by_cases d2:(op=4/\(bE x).1=65535)\/(op=5/\(bE x).1=0)
     .rw [if_pos d2];rcases d2 with⟨d2,d3⟩ | ⟨d2,d3⟩
      .rw [W4 d2,ex,d3,BP,FK];dsimp only;omega
      .rw [W5 ah,ex,d3,HZ,Ip ry.1 ry.2]
     .rw [if_neg d2]at h;cases h
   .rw [if_neg px]at h ⊢;by_cases py:(bE y).2=true
    .rw [if_pos py]at h ⊢;have ey:=N py;by_cases d1:op=4/\(bE y).1=0
     .rw [if_pos d1,W4 d1.1,ey,d1.2,Ii];exact N0
     .rw [if_neg d1]at h ⊢;by_cases d2:(op=4/\(bE y).1=65535)\/(op=5/\(bE y).1=0)
      .rw [if_pos d2];rcases d2 with⟨d2,d3⟩ | ⟨d2,d3⟩
       .rw [W4 d2,ey,d3,FK];dsimp only;omega
       .rw [W5 ah,ey,d3,Ip rx.1 rx.2]
      .rw [if_neg d2]at h;cases h
    .rw [if_neg py]at h;cases h
def Iq{v w:List Int}{p:List aj}{n:Nat}(hp:aF p)(hu:aN p n)(h:∀k:Int,0<=k->k<n->gM v k=gM w k):evF v p=evF w p:=by
 have e:∀l:List aj,(∀m∈l,∀k∈m.atoms,0<=k/\k<n)->evS v l=evS w l:=by
  intro l
  induction l with
  | nil=>exact λ_=>rfl
  | cons m l ih=>
   intro g;rw [jl,jl,ih λx hx=>g x (List.mem_cons_of_mem _ hx)];have:∀a:List Int,(∀k∈a,0<=k/\k<n)->prA v a=prA w a:=by
    intro a
    induction a with
    | nil=>exact λ_=>rfl
    | cons k a ih2=>intro g2;rw [iP,iP,ih2 λx hx=>g2 x (List.mem_cons_of_mem _ hx),h k (g2 k (List.mem_cons_self ..)).1 (g2 k (List.mem_cons_self ..)).2]
   rw [this m.atoms (g m (List.mem_cons_self ..))]
 rw [qQ,qQ,e p λm hm k hk=>⟨((hp.aok hm).2.2 k hk).1,bM.1 hu m hm k hk⟩]
def BX(regs loads ins:List Int):∀(b a:List Atom),∃c,tv regs loads ins (a++b)=tv regs loads ins a++c
 | [],a=>⟨[],by rw [List.append_nil,List.append_nil]⟩
 | x::b,a=>by
  obtain⟨c,hc⟩:=BX regs loads ins b (a++ [x]);rw [List.append_assoc,List.singleton_append]at hc;rw [hc,DV];exact⟨_,List.append_assoc _ _ _⟩
def uH{v c:List Int}{k:Int}(h0:0<=k)(h:k<v.length):gM (v++c) k=gM v k:=by
 unfold gM;rw [if_pos (by rw [List.length_append];omega),if_pos h,getD_lt (show k.toNat< (v++c).length by rw [List.length_append];omega),getD_lt (show k.toNat<v.length by omega),List.getElem_append_left]
def aq8{regs loads ins:List Int}{t:List Atom}(h:aC t){k:Int}(h0:0<=k)(h1:k<t.length)(hk:(t.getD k.toNat default).kind=4):
  gM (tv regs loads ins t) k=wdo (t.getD k.toNat default).k (evF (tv regs loads ins t) (t.getD k.toNat default).x) (evF (tv regs loads ins t) (t.getD k.toNat default).y):=by
 have hd:=(h.1 k h0 h1).1;unfold dJ at hd;rw [if_pos hk]at hd;obtain⟨_,px,py,ux,uy⟩:=hd;have hs:t=t.take k.toNat++((t).getD (k).toNat default)::t.drop (k.toNat+1):=by
  rw [getD_lt (show k.toNat<t.length by omega),<-List.drop_eq_getElem_cons,List.take_append_drop]
 generalize ((t).getD (k).toNat default)=a at hk px py ux uy hs ⊢;have hl:((t.take k.toNat).length:Int)=k:=by rw [List.length_take];omega
 generalize t.take k.toNat=t1 at hs hl;generalize t.drop (k.toNat+1)=t2 at hs;have hs':t=(t1++ [a])++t2:=by rw [hs,List.append_assoc,List.singleton_append]
 obtain⟨c,hc⟩:=BX regs loads ins t2 (t1++ [a]);rw [<-hs',DV]at hc;have lv:=JO regs loads ins t1;rw [hc];have e:∀j:Int,0<=j->j<t1.length->gM (tv regs loads ins t1++ [aVal regs loads ins (tv regs loads ins t1) a]++c) j=gM (tv regs loads ins t1) j:=λj j0 j1=>by
  rw [List.append_assoc,uH j0 ah]
 rw [Iq px (n:=t1.length) (by rw [hl];exact ux) e,Iq py (n:=t1.length) (by rw [hl];exact uy) e];rw [uH h0 (by rw [List.length_append,lv];simp only [List.length_cons,List.length_nil];omega)];unfold gM;rw [if_pos (by rw [List.length_append,lv];simp only [List.length_cons,List.length_nil];omega),getD_lt (by rw [List.length_append,lv];simp only [List.length_cons,List.length_nil];omega),List.getElem_append_right ah];simp only [lv,show k.toNat-t1.length=0 by omega,List.getElem_cons_zero];unfold aVal;rw [if_neg ah,if_neg ah,if_neg ah]
def aq9{regs loads ins:List Int}(r1:wOK regs)(r2:wOK loads)(r3:wOK ins){t:List Atom}{op:Int}{x y:List aj}(ht:aC t)(hop:1<=op/\op<=5)(hx:aF x)(hy:aF y)(ux:aN x t.length)(uy:aN y t.length)
  (hne:(tDo t op x y).1≠ []):aC (tDo t op x y).1/\(∃c,(tDo t op x y).1=t++c/\c.length<=1)/\aF (tDo t op x y).2/\
   evF (tv regs loads ins (tDo t op x y).1) (tDo t op x y).2=wdo op (evF (tv regs loads ins (tDo t op x y).1) x) (evF (tv regs loads ins (tDo t op x y).1) y):=by
 have ok:=(Xx ht hne).1;by_cases c:(dw op x y).2=true
 .have e:tDo t op x y=(t,(dw op x y).1):=by unfold tDo;rw [if_pos c]
  rw [e];exact⟨ht,⟨[],by rw [List.append_nil],by simp⟩,ME hop hx hy,agE _ hop hx hy c⟩
 have P:∀(x' y':List aj),aF x'->aF y'->tDo t op x y=(if(aI t ⟨4,op,x',y'⟩).2<0 then([],[])else((aI t ⟨4,op,x',y'⟩).1,bQ (aI t ⟨4,op,x',y'⟩).2))->
   (∃c,(tDo t op x y).1=t++c/\c.length<=1)/\aF (tDo t op x y).2/\evF (tv regs loads ins (tDo t op x y).1) (tDo t op x y).2=wdo op (evF (tv regs loads ins (tDo t op x y).1) x') (evF (tv regs loads ins (tDo t op x y).1) y'):=by
  intro x' y' hx' hy' e;rw [e]at hne ok ⊢;by_cases c3:(aI t ⟨4,op,x',y'⟩).2<0
  .rw [if_pos c3]at hne;exact absurd rfl hne
  rw [if_neg c3]at hne ok ⊢;dsimp only at hne ok ⊢;have K:∃k:Int,0<=k/\k< (aI t ⟨4,op,x',y'⟩).1.length/\(aI t ⟨4,op,x',y'⟩).2=k/\((aI t ⟨4,op,x',y'⟩).1).getD k.toNat default=⟨4,op,x',y'⟩/\∃c,(aI t ⟨4,op,x',y'⟩).1=t++c/\c.length<=1:=by
   by_cases d:0<=jY t ⟨4,op,x',y'⟩
   .have e2:aI t ⟨4,op,x',y'⟩=(t,jY t ⟨4,op,x',y'⟩):=by unfold aI;rw [if_pos d]
    rw [e2];rcases gJ t ⟨4,op,x',y'⟩with⟨g,_⟩ | ⟨g1,g2,g3,_⟩
    .exact absurd d ah
    .exact⟨_,g1,g2,rfl,g3.symm,[],by rw [List.append_nil],by simp⟩
   .by_cases d2:¬dJ ⟨4,op,x',y'⟩ t.length\/t.length=200
    .have e2:aI t ⟨4,op,x',y'⟩=(t, -1):=by unfold aI;rw [if_neg d,if_pos d2]
     rw [e2]at c3;exact absurd (show(-1:Int)<0 by decide) c3
    .have e2:aI t ⟨4,op,x',y'⟩=(t++ [⟨4,op,x',y'⟩],(t.length:Int)):=by unfold aI;rw [if_neg d,if_neg d2]
     rw [e2];refine⟨t.length,ah,by simp only [List.length_append,List.length_cons,List.length_nil];omega,rfl,?_,[⟨4,op,x',y'⟩],rfl,by simp⟩;rw [getD_lt (show((t.length:Int)).toNat< (t++ [(⟨4,op,x',y'⟩:Atom)]).length by simp),List.getElem_append_right (by simp)];simp
  obtain⟨k,k1,k2,k3,k4,k5⟩:=K;rw [k3];refine⟨k5,iF k,?_⟩;have hl:=ok.2;rw [VO _ ⟨k1,ah⟩ (VL r1 r2 r3 _),aq8 ok k1 k2 (by rw [k4]),k4]
 by_cases c2:op≠2/\0<dU x y
 .obtain⟨h1,h2,h3⟩:=P y x hy hx (by unfold tDo;rw [if_neg c,if_pos c2]);exact⟨ok,h1,h2,by rw [h3,abR c2.1]⟩
 .obtain⟨h1,h2,h3⟩:=P x y hx hy (by unfold tDo;rw [if_neg c,if_neg c2]);exact⟨ok,h1,h2,h3⟩
structure Y51(pp:List aj×List Int×Unit->Bool)(ff:List aj×List Int×Unit->Int×Unit):Prop where
 hp:∀a v,Sh a->v.length<1000000000->pp (a,v,())=true
 hf:∀a v,Sh a->v.length<1000000000->ff (a,v,())=(if bp (aF a/\wOK v)then evF v a else 0,())
abbrev hX(o : IOp) : Prop := o.kind ≠ 1 /\ o.kind ≠ 2 /\ o.kind ≠ 6
abbrev hY(o : IOp) : Prop := o.kind = 3 \/ o.kind = 5
abbrev mkV(o : IOp) : Prop := (1 <= o.kind /\ o.kind <= 4) \/ o.kind = 6
abbrev evO(o : IOp) : Prop := 4 <= o.kind /\ o.kind <= 7
def Vl(ops:List IOp)(x n:Int):Prop:=0<=x/\x<n/\mkV ((ops).getD (x).toNat default)
structure mO(ops:List IOp)(len i:Int)(o:IOp):Prop where
 kd:1<=o.kind/\o.kind<=8
 x1:hX o->Vl ops o.x i
 x0:¬hX o->o.x=0
 y1:hY o->Vl ops o.y i
 y0:¬hY o->o.y=0
 k1:o.kind=1->0<=o.k/\o.k<=65535
 k2:o.kind=2\/o.kind=8->0<=o.k/\o.k<=3
 k3:o.kind=3->1<=o.k/\o.k<=5
 k0:4<=o.kind->o.kind<=7->o.k=0
 a1:evO o->0<=o.at_/\o.at_<len
 a0:¬evO o->o.at_=0
structure Ac(b:Blk):Prop where
 f:1<=b.fin/\b.fin<=4
 x1:b.fin≠1->Vl b.ops b.x b.ops.length
 x0:b.fin=1->b.x=0
 y1:3<=b.fin->Vl b.ops b.y b.ops.length
 y0:b.fin<=2->b.y=0
 k1:b.fin≠2->0<=b.k/\b.k<=65535
 k0:b.fin=2->b.k=0
structure eP(b:Blk):Prop where
 ln:1<=b.len/\b.len<=8
 pc:0<=b.pc/\b.pc<=64-b.len
 sz:b.ops.length<=48
 op:∀i:Int,0<=i->i<b.ops.length->mO b.ops b.len i ((b.ops).getD (i).toNat default)
 en:Ac b
structure SS where
 t:List Atom
 regs:List (List aj)
 vals:List (List aj)
 ld:Int
 inn:Int
 evs:List Ev
def xOf(s:SS)(o:IOp):List aj:=if hX o then((s.vals).getD (o.x).toNat default)else []
def yOf(s:SS)(o:IOp):List aj:=if hY o then((s.vals).getD (o.y).toNat default)else []
def aOf(s:SS)(o:IOp):Atom:=if o.kind=4 then⟨2,s.ld,[],[]⟩else⟨3,s.inn,[],[]⟩
noncomputable def nT (s:SS) (o:IOp):List Atom:=if o.kind=3 then(tDo s.t o.k (xOf s o) (yOf s o)).1 else if o.kind=4\/o.kind=6 then(aI s.t (aOf s o)).1 else s.t
noncomputable def nV (s:SS) (o:IOp):List aj:=if o.kind=1 then bK o.k else if o.kind=2 then((s.regs).getD (o.k).toNat default)else if o.kind=3 then(tDo s.t o.k (xOf s o) (yOf s o)).2 else if o.kind=4\/o.kind=6 then bQ (aI s.t (aOf s o)).2 else []
def nR(s:SS)(o:IOp):List (List aj):=if o.kind=8 then s.regs.set o.k.toNat (xOf s o)else s.regs
def nE(s:SS)(o:IOp):List Ev:=if evO o then s.evs++ [⟨o.kind,o.at_,xOf s o,yOf s o,if o.kind=4\/o.kind=5 then s.regs else []⟩]else s.evs
noncomputable def stp (s:SS) (o:IOp):SS:=⟨nT s o,nR s o,s.vals++ [nV s o],if o.kind=4 then s.ld+1 else s.ld,if o.kind=6 then s.inn+1 else s.inn,nE s o⟩
noncomputable def rN (t:List Atom):Nat->List Atom×List (List aj)
 | 0=>(t,[])
 | n+1=>((aI (rN t n).1 ⟨1,n,[],[]⟩).1,(rN t n).2++ [bQ (aI (rN t n).1 ⟨1,n,[],[]⟩).2])
noncomputable def s0 (t:List Atom):SS:=⟨(rN t 4).1,(rN t 4).2,[],0,0,[]⟩
noncomputable def dK (t:List Atom) (b:Blk):SS:=b.ops.foldl stp (s0 t)
def mP(b:Blk)(s:SS):Sym:=⟨s.evs,s.regs,b.fin,if b.fin=1 then []else((s.vals).getD (b.x).toNat default),if 3<=b.fin then((s.vals).getD (b.y).toNat default)else [],b.k⟩
def Sz:Sym:=⟨[],[],0,[],[],0⟩
noncomputable def symEnd (s:Sym) (behind:Int):Sym:=
 if bp (aF s.x/\aF s.y)=false then Sz
 else if s.fin=2/\(bE s.x).2=true then⟨s.events,s.regs,1,[],[],(bE s.x).1⟩
 else if s.fin≠3/\s.fin≠4 then s
 else if s.x=s.y\/(bE s.x).2=true/\(bE s.y).2=true then
  ⟨s.events,s.regs,1,[],[],if s.x=s.y/\s.fin=3\/((bE s.x).2=true/\(bE s.y).2=true)/\(s.fin=3/\(bE s.x).1=(bE s.y).1\/s.fin=4/\(bE s.x).1< (bE s.y).1)then s.k else behind⟩
 else if s.fin=3/\0<dU s.x s.y then⟨s.events,s.regs,s.fin,s.y,s.x,s.k⟩else s
noncomputable def bq (t:List Atom) (b:Blk):List Atom×Sym:=if bp (aC t/\t.length<=100/\eP b)=true then((dK t b).t,symEnd (mP b (dK t b)) (b.pc+b.len))else([],Sz)
def qd(t:List Atom)(a:Atom):t<+:(aI t a).1:=by
 unfold aI;split
 .exact List.prefix_refl _
 .split
  .exact List.prefix_refl _
  .exact List.prefix_append _ _
def jr{α:Type}{a b:List α}(h:a<+:b):a.length<=b.length:=h.length_le
def SA{α:Type}{d:α}{a b:List α}(h:a<+:b){i:Int}(h1:i.toNat<a.length):b.getD i.toNat d=a.getD i.toNat d:=by
 obtain⟨c,rfl⟩:=h;rw [getD_lt h1,getD_lt (by rw [List.length_append];omega),List.getElem_append_left h1]
def mQ{t:List Atom}{a:Atom}(h:0<=(aI t a).2):(aI t a).2< (aI t a).1.length/\(((aI t a).1).getD ((aI t a).2).toNat default)=a:=by
 have hsp:=gJ t a
 revert h
 unfold aI;split
 .intro h;rcases hsp with⟨h1,_⟩ | ⟨_,h2,h3,_⟩
  .exact absurd h (by dsimp only;omega)
  .exact⟨h2,h3.symm⟩
 .split
  .intro h;exact absurd h (by dsimp only;omega)
  .intro _;dsimp only;refine⟨by rw [List.length_append];simp only [List.length_cons,List.length_nil];omega,?_⟩;rw [getD_lt (by rw [List.length_append];simp only [List.length_cons,List.length_nil];omega)];simp
def SB{u:List Atom}{a:Atom}(hu:aC u){k:Int}(h0:0<=k)(h1:k<u.length)(h2:((u).getD (k).toNat default)=a):aI u a=(u,k):=by
 have hf:jY u a=k:=by
  refine(gJ u a).uniq (Or.inr ⟨h0,h1,h2.symm,λj j1 j2=> ?_⟩);have:=(gW.1 hu).1 k h0 h1;have g:=this.2 j j1 j2;dsimp only at g ⊢;rw [h2]at g;exact g
 unfold aI;rw [hf,if_pos h0]
def Ad{t u:List Atom}{a:Atom}(hu:aC u)(h:0<=(aI t a).2)(hp:(aI t a).1<+:u):aI u a=(u,(aI t a).2):=by
 obtain⟨g1,g2⟩:=mQ h;have:=jr hp;exact SB hu h ah (by rw [SA hp ah,g2])
def MF{op n:Int}{x y:List aj}(ux:aN x n)(uy:aN y n):aN (dw op x y).1 n:=by
 unfold dw;split
 .exact yY ux uy
 .split
  .refine yY ux ?_;unfold fP;split
   .exact yZ uy (lC _ _)
   .exact iX _
  .split
   .exact yZ ux uy
   .unfold sO
    repeat' split
    all_goals first | exact ux | exact uy | exact iX _ | exact lC _ _
structure alC(t:List Atom)(op:Int)(x y:List aj):Prop where
 tok:aC (tDo t op x y).1
 pre:t<+:(tDo t op x y).1
 len:(tDo t op x y).1.length<=t.length+1
 pok:aF (tDo t op x y).2
 und:aN (tDo t op x y).2 (tDo t op x y).1.length
 ok:tOk t op x y=true
def agF{t:List Atom}{op:Int}{x y:List aj}(h:aC t)(h2:t.length<200)(h3:1<=op/\op<=5)(hx:aF x)(hy:aF y)(ux:aN x t.length)(uy:aN y t.length):alC t op x y:=by
 by_cases c:(dw op x y).2=true
 .have e:tDo t op x y=(t,(dw op x y).1):=by unfold tDo;rw [if_pos c]
  refine⟨?_,?_,?_,?_,?_,by unfold tOk;rw [c];rfl⟩<;>rw [e]
  .exact h
  .exact List.prefix_refl _
  .exact Nat.le_succ _
  .exact ME h3 hx hy
  .exact MF ux uy
 .have key:∀x' y',aF x'->aF y'->aN x' t.length->aN y' t.length->0<=(aI t ⟨4,op,x',y'⟩).2/\aC (aI t ⟨4,op,x',y'⟩).1/\(aI t ⟨4,op,x',y'⟩).1.length<=t.length+1:=λx' y' a1 a2 a3 a4=>by
   have p1:=mJ (a:=⟨4,op,x',y'⟩) h h2;have q1:=p1.2.2.2 (by unfold dJ;rw [if_pos rfl];exact⟨h3,a1,a2,a3,a4⟩);exact⟨q1,p1.1,p1.2.2.1⟩
  by_cases c2:op≠2/\0<dU x y
  .obtain⟨k1,k2,k3⟩:=key y x hy hx uy ux;have e:tDo t op x y=((aI t ⟨4,op,y,x⟩).1,bQ (aI t ⟨4,op,y,x⟩).2):=by unfold tDo;rw [if_neg c,if_pos c2,if_neg ah]
   refine⟨?_,?_,?_,?_,?_,by unfold tOk;rw [if_pos c2,decide_eq_false ah,Bool.not_false,Bool.or_true]⟩<;>rw [e]
   .exact k2
   .exact qd _ _
   .exact k3
   .exact iF _
   .exact nK (mQ k1).1
  .obtain⟨k1,k2,k3⟩:=key x y hx hy ux uy;have e:tDo t op x y=((aI t ⟨4,op,x,y⟩).1,bQ (aI t ⟨4,op,x,y⟩).2):=by unfold tDo;rw [if_neg c,if_neg c2,if_neg ah]
   refine⟨?_,?_,?_,?_,?_,by unfold tOk;rw [if_neg c2,decide_eq_false ah,Bool.not_false,Bool.or_true]⟩<;>rw [e]
   .exact k2
   .exact qd _ _
   .exact k3
   .exact iF _
   .exact nK (mQ k1).1
def SE{t u:List Atom}{op:Int}{x y:List aj}(hu:aC u)(h:tOk t op x y=true)(hp:(tDo t op x y).1<+:u):tDo u op x y=(u,(tDo t op x y).2):=by
 by_cases c:(dw op x y).2=true
 .unfold tDo;rw [if_pos c,if_pos c]
 .by_cases c2:op≠2/\0<dU x y
  .have k1:0<=(aI t ⟨4,op,y,x⟩).2:=by
    unfold tOk at h;rw [if_pos c2,Bool.or_eq_true,Bool.not_eq_true',decide_eq_false_iff_not]at h;have:=h.resolve_left c;omega
   have e:tDo t op x y=((aI t ⟨4,op,y,x⟩).1,bQ (aI t ⟨4,op,y,x⟩).2):=by unfold tDo;rw [if_neg c,if_pos c2,if_neg ah]
   rw [e]at hp ⊢;have:=Ad hu k1 hp;unfold tDo;rw [if_neg c,if_pos c2,this,if_neg (by dsimp only;omega)]
  .have k1:0<=(aI t ⟨4,op,x,y⟩).2:=by
    unfold tOk at h;rw [if_neg c2,Bool.or_eq_true,Bool.not_eq_true',decide_eq_false_iff_not]at h;have:=h.resolve_left c;omega
   have e:tDo t op x y=((aI t ⟨4,op,x,y⟩).1,bQ (aI t ⟨4,op,x,y⟩).2):=by unfold tDo;rw [if_neg c,if_neg c2,if_neg ah]
   rw [e]at hp ⊢;have:=Ad hu k1 hp;unfold tDo;rw [if_neg c,if_neg c2,this,if_neg (by dsimp only;omega)]
structure SI(n:Int)(i:Nat)(s:SS):Prop where
 tok:aC s.t
 tl:(s.t.length:Int)<=n+i
 r4:s.regs.length=4
 rok:∀p∈s.regs,aF p/\aN p s.t.length
 vl:s.vals.length=i
 vok:∀p∈s.vals,aF p/\aN p s.t.length
 ld:0<=s.ld/\s.ld<=i
 inn:0<=s.inn/\s.inn<=i
def y8{l:List (List aj)}{n:Int}(h:∀p∈l,aF p/\aN p n)(i:Int):aF ((l).getD (i).toNat default)/\aN ((l).getD (i).toNat default) n:=by
 by_cases c:i.toNat<l.length
 .rw [getD_lt c];exact h _ (List.getElem_mem _)
 .rw [List.getD_eq_getElem?_getD,List.getElem?_eq_none ah];exact⟨dM,iX _⟩
def SI.x{n:Int}{i:Nat}{s:SS}(h:SI n i s)(o:IOp):aF (xOf s o)/\aN (xOf s o) s.t.length:=by
 unfold xOf;split
 .exact y8 h.vok _
 .exact⟨dM,iX _⟩
def SI.y{n:Int}{i:Nat}{s:SS}(h:SI n i s)(o:IOp):aF (yOf s o)/\aN (yOf s o) s.t.length:=by
 unfold yOf;split
 .exact y8 h.vok _
 .exact⟨dM,iX _⟩
def VP{n:Int}{i:Nat}{s:SS}(h:SI n i s)(hi:i<200)(o:IOp)(m:Int):dJ (aOf s o) m:=by
 have h1:=h.ld;have h2:=h.inn;unfold aOf;split
 .unfold dJ;rw [if_neg (by simp)];exact⟨⟨rfl,rfl⟩,Or.inr ⟨Or.inl rfl,by dsimp only;omega,by dsimp only;omega⟩⟩
 .unfold dJ;rw [if_neg (by simp)];exact⟨⟨rfl,rfl⟩,Or.inr ⟨Or.inr rfl,by dsimp only;omega,by dsimp only;omega⟩⟩
structure SOK(s:SS)(o:IOp):Prop where
 pre:s.t<+:(stp s o).t
 d:o.kind=3->alC s.t o.k (xOf s o) (yOf s o)
 p:o.kind=4\/o.kind=6->0<=(aI s.t (aOf s o)).2
def nL{n:Int}{i:Nat}{s:SS}{o:IOp}(h:SI n i s)(hk:o.kind=3->1<=o.k/\o.k<=5)(hn:n+i<200)(hi:i<200):SI n (i+1) (stp s o)/\SOK s o:=by
 have hl:=h.tl;have tl:s.t.length<200:=by omega
 have hd:o.kind=3->alC s.t o.k (xOf s o) (yOf s o):=λe=>agF h.tok tl (hk e) (h.x o).1 (h.y o).1 (h.x o).2 (h.y o).2
 have hput:=mJ (a:=aOf s o) h.tok tl;have hp:=hput.2.2.2 (VP h hi o _);have T:aC (nT s o)/\(nT s o).length<=s.t.length+1/\s.t<+:nT s o:=by
  unfold nT;split
  .rename_i e;have:=hd e;exact⟨this.tok,this.len,this.pre⟩
  .split
   .exact⟨hput.1,hput.2.2.1,qd _ _⟩
   .exact⟨h.tok,Nat.le_succ _,List.prefix_refl _⟩
 have up:∀ {p:List aj},aF p/\aN p s.t.length->aF p/\aN p (nT s o).length:=λhp=>⟨hp.1,mY hp.2 (by have:=jr T.2.2;omega)⟩
 have V:aF (nV s o)/\aN (nV s o) (nT s o).length:=by
  unfold nV;split
  .exact⟨ig _,lC _ _⟩
  .split
   .exact up (y8 h.rok _)
   .split
    .rename_i e;have:=hd e;refine⟨this.pok,?_⟩;have e2:nT s o=(tDo s.t o.k (xOf s o) (yOf s o)).1:=by unfold nT;rw [if_pos e]
     rw [e2];exact this.und
    .split
     .rename_i e1 e2;have e3:nT s o=(aI s.t (aOf s o)).1:=by unfold nT;rw [if_neg ah,if_pos e2]
      rw [e3];exact⟨iF _,nK (mQ hp).1⟩
     .exact⟨dM,iX _⟩
 have g1:=h.ld;have g2:=h.inn;refine⟨⟨T.1,?_,?_,?_,?_,?_,?_,?_⟩,⟨T.2.2,hd,λ_=>hp⟩⟩
 .have:=T.2.1;show((nT s o).length:Int)<=_;omega
 .show(nR s o).length=4;unfold nR;split
  .rw [List.length_set];exact h.r4
  .exact h.r4
 .show∀p∈nR s o,_;intro p hp;unfold nR at hp;split at hp
  .rcases List.mem_or_eq_of_mem_set hp with hp | rfl
   .exact up (h.rok p hp)
   .exact up (h.x o)
  .exact up (h.rok p hp)
 .show(s.vals++ [nV s o]).length=i+1;rw [List.length_append,h.vl];rfl
 .show∀p∈s.vals++ [nV s o],_;intro p hp;rw [List.mem_append,List.mem_singleton]at hp;rcases hp with hp | rfl
  .exact up (h.vok p hp)
  .exact V
 .show 0<=(if o.kind=4 then s.ld+1 else s.ld)/\(if o.kind=4 then s.ld+1 else s.ld)<=_;split<;>omega
 .show 0<=(if o.kind=6 then s.inn+1 else s.inn)/\(if o.kind=6 then s.inn+1 else s.inn)<=_;split<;>omega
def oQ{n:Int}:∀(ops:List IOp) (i:Nat) (s:SS),SI n i s->(∀o∈ops,o.kind=3->1<=o.k/\o.k<=5)->n+i+ops.length<=200->i+ops.length<=200->SI n (i+ops.length) (ops.foldl stp s)/\s.t<+:(ops.foldl stp s).t
 | [],i,s,h,_,_,_=>⟨h,List.prefix_refl _⟩
 | o::r,i,s,h,hk,h1,h2=>by
  rw [List.length_cons]at h1 h2;obtain⟨a1,a2⟩:=nL h (hk o List.mem_cons_self) ah ah;obtain⟨b1,b2⟩:=oQ r (i+1) (stp s o) a1 (λo ho=>hk o (List.mem_cons_of_mem _ ho)) ah ah;rw [List.foldl_cons,List.length_cons,show i+(r.length+1)=i+1+r.length by omega];exact⟨b1,a2.pre.trans b2⟩
structure RI(t:List Atom)(n:Nat)(r:List Atom×List (List aj)):Prop where
 tok:aC r.1
 tl:r.1.length<=t.length+n
 pre:t<+:r.1
 r4:r.2.length=n
 rok:∀p∈r.2,aF p/\aN p r.1.length
def FX{t:List Atom}(h:aC t)(hl:t.length<=196):∀n:Nat,n<=4->RI t n (rN t n)
 | 0,_=>⟨h,Nat.le_refl _,List.prefix_refl _,rfl,λp hp=>absurd hp (by simp [rN])⟩
 | n+1,hn=>by
  have ih:=FX h hl n ah;have l:=ih.tl;have hp:=mJ (a:=⟨1,n,[],[]⟩) ih.tok ah;have h0:=hp.2.2.2 (by unfold dJ;rw [if_neg (by simp)];exact⟨⟨rfl,rfl⟩,Or.inl ⟨rfl,by dsimp only;omega,by dsimp only;omega⟩⟩);have pr:=qd (rN t n).1 ⟨1,n,[],[]⟩;unfold rN;refine⟨hp.1,?_,ih.pre.trans pr,?_,λp h=> ?_⟩
  .have:=hp.2.2.1;dsimp only;omega
  .dsimp only;rw [List.length_append,ih.r4];rfl
  .dsimp only at h ⊢;rw [List.mem_append,List.mem_singleton]at h;rcases h with h | rfl
   .have:=ih.rok p h;exact⟨this.1,mY this.2 (by have:=jr pr;omega)⟩
   .exact⟨iF _,nK (mQ h0).1⟩
def y9{t:List Atom}(h:aC t)(hl:t.length<=196){n:Nat}(hn:n<4):0<=(aI (rN t n).1 ⟨1,n,[],[]⟩).2:=by
 have ih:=FX h hl n ah;have l:=ih.tl;exact(mJ (a:=⟨1,n,[],[]⟩) ih.tok ah).2.2.2 (by unfold dJ;rw [if_neg (by simp)];exact⟨⟨rfl,rfl⟩,Or.inl ⟨rfl,by dsimp only;omega,by dsimp only;omega⟩⟩)
def CZ{t:List Atom}(h:aC t)(hl:t.length<=196):SI (t.length+4) 0 (s0 t):=by
 have:=FX h hl 4 ah;have l:=this.tl;exact⟨this.tok,by show((rN t 4).1.length:Int)<=_;omega,this.r4,this.rok,rfl,λp hp=>absurd hp (by simp [s0]),by simp [s0],by simp [s0]⟩
def eP.k3{b:Blk}(h:eP b):∀o∈b.ops,o.kind=3->1<=o.k/\o.k<=5:=λo ho=>by
 obtain⟨i,hi,rfl⟩:=List.getElem_of_mem ho;have:=(h.op i ah ah).k3;rw [show(i:Int).toNat=i from rfl,getD_lt hi]at this;exact this
def DX{t:List Atom}{b:Blk}(h:aC t)(hl:t.length<=100)(hb:eP b):SI (t.length+4) b.ops.length (dK t b)/\t<+:(dK t b).t:=by
 have sz:=hb.sz;obtain⟨h1,h2⟩:=oQ b.ops 0 (s0 t) (CZ h ah) hb.k3 ah ah;rw [Nat.zero_add]at h1;exact⟨h1,(FX h ah 4 ah).pre.trans h2⟩
def SS.on(s:SS)(u:List Atom):SS:=⟨u,s.regs,s.vals,s.ld,s.inn,s.evs⟩
theorem alD{s:SS}{o:IOp}{u:List Atom}(hu:aC u)(h:SOK s o)(hp:(stp s o).t<+:u):stp (s.on u) o=(stp s o).on u:=by
 have hp:nT s o<+:u:=hp;have ex:xOf (s.on u) o=xOf s o:=rfl;have ey:yOf (s.on u) o=yOf s o:=rfl;have ea:aOf (s.on u) o=aOf s o:=rfl;have eT:nT (s.on u) o=u:=by
  unfold nT;split
  .rename_i e;rw [ex,ey];have h3:=(h.d e).ok;unfold nT at hp;rw [if_pos e]at hp;rw [show(s.on u).t=u from rfl,SE hu h3 hp]
  .split
   .rename_i e1 e2;unfold nT at hp;rw [if_neg e1,if_pos e2]at hp;rw [ea,show(s.on u).t=u from rfl,Ad hu (h.p e2) hp]
   .rfl
 have eV:nV (s.on u) o=nV s o:=by
  unfold nV;split
  .rfl
  .split
   .rfl
   .split
    .rename_i e;rw [ex,ey];have h3:=(h.d e).ok;unfold nT at hp;rw [if_pos e]at hp;rw [show(s.on u).t=u from rfl,SE hu h3 hp]
    .split
     .rename_i e1 e2;unfold nT at hp;rw [if_neg e1,if_pos e2]at hp;rw [ea,show(s.on u).t=u from rfl,Ad hu (h.p e2) hp]
     .rfl
 show SS.mk (nT (s.on u) o) (nR (s.on u) o) ((s.on u).vals++ [nV (s.on u) o]) _ _ (nE (s.on u) o)=SS.mk u (nR s o) (s.vals++ [nV s o]) _ _ (nE s o);rw [eT,eV];rfl
def acu{n:Int}{u:List Atom}(hu:aC u):∀(ops:List IOp) (i:Nat) (s:SS),SI n i s->(∀o∈ops,o.kind=3->1<=o.k/\o.k<=5)->n+i+ops.length<=200->i+ops.length<=200->(ops.foldl stp s).t<+:u->ops.foldl stp (s.on u)=(ops.foldl stp s).on u
 | [],i,s,h,_,_,_,_=>rfl
 | o::r,i,s,h,hk,h1,h2,hp=>by
  rw [List.length_cons]at h1 h2;obtain⟨a1,a2⟩:=nL h (hk o List.mem_cons_self) ah ah;rw [List.foldl_cons]at hp;obtain⟨_,b2⟩:=oQ r (i+1) (stp s o) a1 (λo ho=>hk o (List.mem_cons_of_mem _ ho)) ah ah;rw [List.foldl_cons,List.foldl_cons,alD hu a2 (b2.trans hp)];exact acu hu r (i+1) (stp s o) a1 (λo ho=>hk o (List.mem_cons_of_mem _ ho)) ah ah hp
def aix{t u:List Atom}(h:aC t)(hl:t.length<=196)(hu:aC u):∀n:Nat,n<=4->(rN t n).1<+:u->rN u n=(u,(rN t n).2)
 | 0,_,_=>rfl
 | n+1,hn,hp=>by
  have h0:=y9 h hl (n:=n) ah;have pr:=qd (rN t n).1 ⟨1,n,[],[]⟩;have hp':(aI (rN t n).1 ⟨1,n,[],[]⟩).1<+:u:=hp;have ih:=aix h hl hu n ah (pr.trans hp');show((aI (rN u n).1 ⟨1,n,[],[]⟩).1,(rN u n).2++ [bQ (aI (rN u n).1 ⟨1,n,[],[]⟩).2])=(u,(rN t n).2++ [bQ (aI (rN t n).1 ⟨1,n,[],[]⟩).2]);rw [ih];dsimp only;rw [Ad hu h0 hp']
def agG{t u:List Atom}{b:Blk}(h:aC t)(hl:t.length<=100)(hb:eP b)(hu:aC u)(hp:(dK t b).t<+:u):dK u b=(dK t b).on u:=by
 have sz:=hb.sz;have i0:=CZ h ah;obtain⟨_,h2⟩:=oQ b.ops 0 (s0 t) i0 hb.k3 ah ah;have e:s0 u=(s0 t).on u:=by
  unfold s0 SS.on;rw [aix h ah hu 4 ah (h2.trans hp)]
 unfold dK at hp ⊢;rw [e];exact acu hu b.ops 0 (s0 t) i0 hb.k3 ah ah hp
def qR{t:List Atom}{b:Blk}(h:aC t)(hl:t.length<=100)(hb:eP b):bq t b=((dK t b).t,symEnd (mP b (dK t b)) (b.pc+b.len)):=by
 unfold bq;rw [if_pos (aV ⟨h,hl,hb⟩)]
def XA{t u:List Atom}{b:Blk}(h:aC t)(hl:t.length<=100)(hb:eP b)(hu:aC u)(hlu:u.length<=100)(hp:(bq t b).1<+:u):bq u b=(u,(bq t b).2):=by
 rw [qR h hl hb]at hp ⊢;rw [qR hu hlu hb,agG h hl hb hu hp];rfl
def BZ{t:List Atom}{b:Blk}(h:aC t)(hl:t.length<=100)(hb:eP b):aC (bq t b).1/\t<+:(bq t b).1/\(bq t b).1.length<=t.length+b.ops.length+4:=by
 unfold bq;rw [if_pos (aV ⟨h,hl,hb⟩)];obtain⟨h1,h2⟩:=DX h hl hb;have:=h1.tl;exact⟨h1.tok,h2,by dsimp only;omega⟩
def ShP(l:List (List aj)):Prop:=l.length<1000000000/\∀p∈l,Sh p
def ShE(e:Ev):Prop:=Sh e.x/\Sh e.y/\ShP e.regs
def alE(l:List Ev):Prop:=l.length<1000000000/\∀e∈l,ShE e
structure ShY(s:Sym):Prop where
 e:alE s.events
 r:ShP s.regs
 x:Sh s.x
 y:Sh s.y
def ShP.at{l:List (List aj)}(h:ShP l)(n:Nat):Sh (l.getD n default):=by
 by_cases c:n<l.length
 .rw [getD_lt c];exact h.2 _ (List.getElem_mem _)
 .rw [List.getD_eq_getElem?_getD,List.getElem?_eq_none ah];exact iE
def JR:ShP []:=⟨by simp,λp h=>absurd h (by simp)⟩
def alE.at{l:List Ev}(h:alE l)(n:Nat):ShE (l.getD n default):=by
 by_cases c:n<l.length
 .rw [getD_lt c];exact h.2 _ (List.getElem_mem _)
 .rw [List.getD_eq_getElem?_getD,List.getElem?_eq_none ah];exact⟨iE,iE,JR⟩
def agH:ShY Sz:=⟨⟨by simp [Sz],λe h=>absurd h (by simp [Sz])⟩,JR,iE,iE⟩
def SI.regs{n:Int}{i:Nat}{s:SS}(h:SI n i s):ShP s.regs:=⟨by have:=h.r4;omega,λp hp=>(h.rok p hp).1.sh⟩
def agI{n:Int}{i:Nat}{s:SS}{o:IOp}(h:SI n i s)(h2:s.evs.length<=i/\∀e∈s.evs,ShE e):(stp s o).evs.length<=i+1/\∀e∈(stp s o).evs,ShE e:=by
 show(nE s o).length<=i+1/\∀e∈nE s o,ShE e;unfold nE;split
 .refine⟨by rw [List.length_append];have:=h2.1;simp only [List.length_cons,List.length_nil];omega,λe he=> ?_⟩;rw [List.mem_append,List.mem_singleton]at he;rcases he with he | rfl
  .exact h2.2 e he
  .refine⟨(h.x o).1.sh,(h.y o).1.sh,?_⟩;dsimp only;split
   .exact h.regs
   .exact JR
 .exact⟨by have:=h2.1;omega,h2.2⟩
def JU{n:Int}:∀(ops:List IOp) (i:Nat) (s:SS),SI n i s->(∀o∈ops,o.kind=3->1<=o.k/\o.k<=5)->n+i+ops.length<=200->i+ops.length<=200->(s.evs.length<=i/\∀e∈s.evs,ShE e)->(ops.foldl stp s).evs.length<=i+ops.length/\∀e∈(ops.foldl stp s).evs,ShE e
 | [],i,s,h,_,_,_,h3=>h3
 | o::r,i,s,h,hk,h1,h2,h3=>by
  rw [List.length_cons]at h1 h2;obtain⟨a1,a2⟩:=nL h (hk o List.mem_cons_self) ah ah;have:=JU r (i+1) (stp s o) a1 (λo ho=>hk o (List.mem_cons_of_mem _ ho)) ah ah (agI h h3);rw [List.foldl_cons,List.length_cons,show i+(r.length+1)=i+1+r.length by omega];exact this
def evT(e:Ev):Int×Int×Nat:=(e.kind,e.at_,e.regs.length)
def opT(o:IOp):Int×Int×Nat:=(o.kind,o.at_,if o.kind=4\/o.kind=5 then 4 else 0)
def MG(ops:List IOp):List IOp:=ops.filter λo=>decide (evO o)
def VQ:∀(ops:List IOp) (s:SS),s.regs.length=4->(ops.foldl stp s).evs.map evT=s.evs.map evT++(MG ops).map opT
 | [],s,_=>by simp [MG]
 | o::r,s,h=>by
  have h':(stp s o).regs.length=4:=by
   show(nR s o).length=4;unfold nR;split
   .rw [List.length_set];exact h
   .exact h
  rw [List.foldl_cons,VQ r (stp s o) h'];show(nE s o).map evT++_=_;unfold nE MG;by_cases c:evO o
  .have e:evT ⟨o.kind,o.at_,xOf s o,yOf s o,if o.kind=4\/o.kind=5 then s.regs else []⟩=opT o:=by
    unfold evT opT;dsimp only;split
    .rw [h]
    .rfl
   rw [if_pos c,List.filter_cons_of_pos (by simpa using c),List.map_append,List.append_assoc];refine congrArg (s.evs.map evT++ ·) ?_;show evT _::_=opT o::_;rw [e];rfl
  .rw [if_neg c,List.filter_cons_of_neg (by simpa using c)]
def Ae{n:Int}{i:Nat}{s:SS}{b:Blk}(h:SI n i s):aF (mP b s).x/\aF (mP b s).y:=by
 unfold mP;dsimp only;constructor
 .split
  .exact dM
  .exact(y8 h.vok _).1
 .split
  .exact(y8 h.vok _).1
  .exact dM
def qU{s:Sym}{n:Int}(h:aF s.x/\aF s.y):(symEnd s n).events=s.events/\(symEnd s n).regs=s.regs/\aF (symEnd s n).x/\aF (symEnd s n).y:=by
 unfold symEnd;rw [if_neg (by rw [aV h];simp)]
 repeat' split
 all_goals first | exact⟨rfl,rfl,h⟩ | exact⟨rfl,rfl,dM,dM⟩ | exact⟨rfl,rfl,h.2,h.1⟩
structure ara(t:List Atom)(b:Blk):Prop where
 evs:(bq t b).2.events.map evT=(MG b.ops).map opT
 r4:(bq t b).2.regs.length=4
 sh:ShY (bq t b).2
 ne:0< (bq t b).1.length
theorem C8{t:List Atom}{b:Blk}(h:aC t)(hl:t.length<=100)(hb:eP b):ara t b:=by
 have sz:=hb.sz;have i0:=CZ h ah;obtain⟨h1,h2⟩:=DX h hl hb;have hs:=JU b.ops 0 (s0 t) i0 hb.k3 ah ah ⟨by simp [s0],λe he=>absurd he (by simp [s0])⟩;have he:=VQ b.ops (s0 t) i0.r4;have hk:=qU (n:=b.pc+b.len) (Ae (b:=b) h1);have e:bq t b=((dK t b).t,symEnd (mP b (dK t b)) (b.pc+b.len)):=by unfold bq;rw [if_pos (aV ⟨h,hl,hb⟩)]
 rw [Nat.zero_add]at hs;refine⟨?_,?_,?_,?_⟩
 .rw [e];dsimp only;rw [hk.1];show(dK t b).evs.map evT=_;unfold dK;rw [he];rfl
 .rw [e];dsimp only;rw [hk.2.1];exact h1.r4
 .rw [e];refine⟨?_,?_,hk.2.2.1.sh,hk.2.2.2.sh⟩
  .rw [hk.1];exact⟨by have:=hs.1;show(b.ops.foldl stp (s0 t)).evs.length<_;omega,hs.2⟩
  .rw [hk.2.1];exact h1.regs
 .rw [e];have r:=oQ b.ops 0 (s0 t) i0 hb.k3 ah ah;have:=jr r.2;have p:=mQ (y9 h ah (n:=3) ah);have p0:=y9 h ah (n:=3) ah;show 0< (dK t b).t.length;have:(s0 t).t.length=(aI (rN t 3).1 ⟨1,(3:Nat),[],[]⟩).1.length:=rfl;unfold dK;omega
def JV(t:List Atom)(b:Blk):ShY (bq t b).2/\ShT (bq t b).1:=by
 by_cases c:aC t/\t.length<=100/\eP b
 .exact⟨(C8 c.1 c.2.1 c.2.2).sh,(BZ c.1 c.2.1 c.2.2).1.sh⟩
 .unfold bq;rw [bP c,if_neg (by simp)];exact⟨agH,agz⟩
noncomputable def t4:List Atom:=(rN [] 4).1
def Ir:aC []:=gW.2 ⟨All.zero,by simp⟩
def arb:aC t4/\t4.length<=4:=by
 have:=FX Ir (by simp) 4 ah;exact⟨this.tok,Nat.le_trans this.tl (by simp)⟩
noncomputable def chk (b c:Blk):Bool:=bp (eP b/\eP c/\b.pc=c.pc/\b.len=c.len/\(b=c\/(bq t4 b).2=(bq (bq t4 b).1 c).2))
structure Lk(b c:Blk):Prop where
 ob:eP b
 oc:eP c
 pc:b.pc=c.pc
 len:b.len=c.len
 run:∀u,aC u->u.length<=100->(bq u b).1=u->bq u c=bq u b
def Lk.refl{b:Blk}(h:eP b):Lk b b:=⟨h,h,rfl,rfl,λ_ _ _ _=>rfl⟩
def Lk.trans{b c d:Blk}(h:Lk b c)(g:Lk c d):Lk b d:=⟨h.ob,g.oc,h.pc.trans g.pc,h.len.trans g.len,λu h1 h2 h3=>by
 have e:=h.run u h1 h2 h3;rw [g.run u h1 h2 (by rw [e];exact h3),e]⟩
def agJ{b:Blk}(hb:eP b):aC (bq t4 b).1/\(bq t4 b).1.length<=100/\bq (bq t4 b).1 b=bq t4 b:=by
 have h4:=arb;have hr:=BZ h4.1 ah hb;have sz:=hb.sz;refine⟨hr.1,ah,?_⟩;have:=XA h4.1 ah hb hr.1 ah (List.prefix_refl _);rw [this]
def Lk.chk{b c:Blk}(h:Lk b c):chk b c=true:=by
 obtain⟨h1,h2,h3⟩:=agJ h.ob;refine aV ⟨h.ob,h.oc,h.pc,h.len,Or.inr ?_⟩;rw [h.run _ h1 h2 (by rw [h3]),h3]
def SF:Blk:=⟨0,0,[],0,0,0,0⟩
def Iu{α:Type}{d x:α}{l:List α}{i:Nat}:(l++ [x]).getD i d=if i<l.length then l.getD i d else if i=l.length then x else d:=by
 split
 .rename_i h;rw [getD_lt (by rw [List.length_append];omega),getD_lt h,List.getElem_append_left]
 .split
  .rename_i h1 h2;subst h2;rw [getD_lt (by simp)];simp
  .rw [List.getD_eq_getElem?_getD,List.getElem?_eq_none (by rw [List.length_append];simp only [List.length_cons,List.length_nil];omega)];rfl
def SG(f:SS->IOp->SS)(s:SS){l:List IOp}{i:Nat}(h:i<l.length):(l.take (i+1)).foldl f s=f ((l.take i).foldl f s) l[i]:=by
 rw [List.take_succ_eq_append_getElem h,List.foldl_append];rfl
def ren(nm:List Int)(o:IOp):IOp:=⟨o.kind,if hX o then((nm).getD (o.x).toNat default)else o.x,if hY o then((nm).getD (o.y).toNat default)else o.y,o.k,o.at_⟩
def acv(nm:List Int)(b:Blk)(ops:List IOp):Blk:=⟨b.pc,b.len,ops.map (ren nm),b.fin,if b.fin=1 then b.x else((nm).getD (b.x).toNat default),if 3<=b.fin then((nm).getD (b.y).toNat default)else b.y,b.k⟩
def cpN(s:List Int×List Int)(i:Int)(o:IOp):Int:=if o.kind=2/\0<=((s.2).getD (o.k).toNat default)then((s.2).getD (o.k).toNat default)else i
def cpL(s:List Int×List Int)(i:Int)(o:IOp):List Int:=if o.kind=2 then(if 0<=((s.2).getD (o.k).toNat default)then s.2 else s.2.set o.k.toNat i)else if o.kind=8 then s.2.set o.k.toNat ((s.1).getD (o.x).toNat default)else s.2
def cpS(ops:List IOp):Nat->List Int×List Int
 | 0=>([],[-1, -1, -1, -1])
 | i+1=>((cpS ops i).1++ [cpN (cpS ops i) i (ops.getD i default)],cpL (cpS ops i) i (ops.getD i default))
noncomputable def jZ (b:Blk):Blk:=if bp (eP b)=true then acv (cpS b.ops b.ops.length).1 b b.ops else SF
def DY(ops:List IOp):∀i,(cpS ops i).1.length=i/\(cpS ops i).2.length=4
 | 0=>⟨rfl,rfl⟩
 | i+1=>by
  obtain⟨h1,h2⟩:=DY ops i;constructor
  .show((cpS ops i).1++ [_]).length=_;rw [List.length_append,h1];rfl
  .show(cpL (cpS ops i) i (ops.getD i default)).length=4;unfold cpL
   repeat' split
   all_goals first | exact h2 | (rw [List.length_set];exact h2)
def alF(ops:List IOp):∀ {i n:Nat} {j:Nat},j<i->i<=n->(cpS ops n).1.getD j default=(cpS ops i).1.getD j default:=by
  intro i n j h1 h2
  induction n with
  | zero => have : i = 0 := by omega
            subst this;rfl
  | succ n ih=>
    by_cases c:i=n+1
    · subst c;rfl
    · have:=ih ah;rw [<-this];show((cpS ops n).1++ [_]).getD j default=_;rw [Iu,if_pos (by rw [(DY ops n).1];omega)]
structure CI(ops:List IOp)(i:Nat)(s:SS):Prop where
 nm:∀j:Int,0<=j->j<i->(0<=(((cpS ops i).1).getD (j).toNat default)/\(((cpS ops i).1).getD (j).toNat default)<=j)/\((s.vals).getD ((((cpS ops i).1).getD (j).toNat default)).toNat default)=((s.vals).getD (j).toNat default)/\(mkV ((ops).getD (j).toNat default)->mkV ((ops).getD ((((cpS ops i).1).getD (j).toNat default)).toNat default))
 la:∀r:Int,0<=r->r<=3->0<=(((cpS ops i).2).getD (r).toNat default)->(((cpS ops i).2).getD (r).toNat default)<i/\((s.vals).getD ((((cpS ops i).2).getD (r).toNat default)).toNat default)=((s.regs).getD (r).toNat default)/\mkV ((ops).getD ((((cpS ops i).2).getD (r).toNat default)).toNat default)
def fcO(f:List IOp)(o:IOp):IOp:=if o.kind=3/\(((f).getD (o.x).toNat default)).kind=1/\(((f).getD (o.y).toNat default)).kind=1 then⟨1,0,0,wdo o.k (((f).getD (o.x).toNat default)).k (((f).getD (o.y).toNat default)).k,0⟩else o
def fc(ops:List IOp):Nat->List IOp
 | 0=> []
 | i+1=>fc ops i++ [fcO (fc ops i) (ops.getD i default)]
def fcB(b:Blk)(f:List IOp):Blk:=
 if b.fin=2/\(((f).getD (b.x).toNat default)).kind=1 then⟨b.pc,b.len,f,1,0,b.y,(((f).getD (b.x).toNat default)).k⟩
 else if 3<=b.fin/\(((f).getD (b.x).toNat default)).kind=1/\(((f).getD (b.y).toNat default)).kind=1 then⟨b.pc,b.len,f,1,0,0,if b.fin=3/\(((f).getD (b.x).toNat default)).k=(((f).getD (b.y).toNat default)).k\/b.fin=4/\(((f).getD (b.x).toNat default)).k< (((f).getD (b.y).toNat default)).k then b.k else b.pc+b.len⟩
 else⟨b.pc,b.len,f,b.fin,b.x,b.y,b.k⟩
noncomputable def jm (b:Blk):Blk:=if bp (eP b)=true then fcB b (fc b.ops b.ops.length)else SF
def JW(ops:List IOp):∀i,(fc ops i).length=i
 | 0=>rfl
 | i+1=>by show(fc ops i++ [_]).length=_;rw [List.length_append,JW ops i];rfl
structure FI(ops:List IOp)(i:Nat)(s:SS):Prop where
 c:∀j:Int,0<=j->j<i->((((fc ops i)).getD (j).toNat default)).kind=1->(0<=((((fc ops i)).getD (j).toNat default)).k/\((((fc ops i)).getD (j).toNat default)).k<=65535)/\((s.vals).getD (j).toNat default)=bK ((((fc ops i)).getD (j).toNat default)).k
 m:∀j:Int,0<=j->j<i->mkV ((ops).getD (j).toNat default)->mkV (((fc ops i)).getD (j).toNat default)
def kpS(ops:List IOp)(kp:List Bool):Nat->List Int×List IOp
 | 0=>([],[])
 | i+1=>((kpS ops kp i).1++ [((kpS ops kp i).2.length:Int)],if kp.getD i default=true then(kpS ops kp i).2++ [ops.getD i default]else(kpS ops kp i).2)
def FY(b:Blk)(kp:List Bool):Blk:=acv (kpS b.ops kp b.ops.length).1 b (kpS b.ops kp b.ops.length).2
def qg:List IOp->Int->Bool
 | [],_=>false
 | o::l,r=>if o.kind=4\/o.kind=5\/o.kind=2/\o.k=r then false else if o.kind=8/\o.k=r then true else qg l r
def Af(ops:List IOp)(kp:List Bool):∀i,(kpS ops kp i).1.length=i/\(kpS ops kp i).2.length<=i
 | 0=>⟨rfl,Nat.le_refl _⟩
 | i+1=>by
  obtain⟨h1,h2⟩:=Af ops kp i;unfold kpS;refine⟨by rw [List.length_append,h1];rfl,?_⟩;dsimp only;split
  .rw [List.length_append];simp only [List.length_cons,List.length_nil];omega
  .omega
def agK(ops:List IOp)(kp:List Bool){i n:Nat}(h:i<=n):(kpS ops kp i).2<+:(kpS ops kp n).2/\(kpS ops kp i).1<+:(kpS ops kp n).1:=by
 induction n with
 | zero=>rw [show i=0 by omega];exact⟨List.prefix_refl _,List.prefix_refl _⟩
 | succ n ih=>
  by_cases c:i=n+1
  .subst c;exact⟨List.prefix_refl _,List.prefix_refl _⟩
  .obtain⟨h1,h2⟩:=ih ah;refine⟨h1.trans ?_,h2.trans (List.prefix_append _ _)⟩;show _<+:if kp.getD n default=true then _ else _
   split
   .exact List.prefix_append _ _
   .exact List.prefix_refl _
structure KP(b:Blk)(kp:List Bool):Prop where
 x:∀i:Int,0<=i->i<b.ops.length->((kp).getD (i).toNat default)=true->hX ((b.ops).getD (i).toNat default)->((kp).getD ((((b.ops).getD (i).toNat default)).x).toNat default)=true
 y:∀i:Int,0<=i->i<b.ops.length->((kp).getD (i).toNat default)=true->hY ((b.ops).getD (i).toNat default)->((kp).getD ((((b.ops).getD (i).toNat default)).y).toNat default)=true
 ex:b.fin≠1->((kp).getD (b.x).toNat default)=true
 ey:3<=b.fin->((kp).getD (b.y).toNat default)=true
 no:∀i:Int,0<=i->i<b.ops.length->((kp).getD (i).toNat default)=false->(((b.ops).getD (i).toNat default)).kind<=3\/(((b.ops).getD (i).toNat default)).kind=8/\qg (b.ops.drop (i.toNat+1)) (((b.ops).getD (i).toNat default)).k=true
structure KI(b:Blk)(kp:List Bool)(i:Nat)(s s':SS):Prop where
 t:s'.t=s.t
 ld:s'.ld=s.ld
 inn:s'.inn=s.inn
 evs:s'.evs=s.evs
 vl:s'.vals.length=(kpS b.ops kp i).2.length
 v:∀j:Nat,j<i->kp.getD j default=true->s'.vals.getD (kpS b.ops kp j).2.length default=s.vals.getD j default
 r4:s'.regs.length=4/\s.regs.length=4
 rg:∀r:Int,0<=r->r<=3->qg (b.ops.drop i) r=false->((s'.regs).getD (r).toNat default)=((s.regs).getD (r).toNat default)
def qV(ops:List IOp):List Bool:=(List.range ops.length).map λi=> !(decide ((ops.getD i default).kind=8)&&qg (ops.drop (i+1)) (ops.getD i default).k)
noncomputable def qW (b:Blk):Blk:=if bp (eP b)=true then FY b (qV b.ops)else SF
def XB{ops:List IOp}{i:Nat}(h:i<ops.length):(qV ops).getD i default= !(decide ((ops.getD i default).kind=8)&&qg (ops.drop (i+1)) (ops.getD i default).k):=by
 unfold qV;rw [getD_lt (by rw [List.length_map,List.length_range];exact h),List.getElem_map,List.getElem_range]
def us0(b:Blk):List Bool:=(λm:List Bool=>if 3<=b.fin then m.set b.y.toNat true else m) (if b.fin=1 then List.replicate b.ops.length false else(List.replicate b.ops.length false).set b.x.toNat true)
def usO(o:IOp)(i:Nat)(m:List Bool):List Bool:=
 if(m.getD i default || decide (4<=o.kind))=true then(λm:List Bool=>if hY o then m.set o.y.toNat true else m) ((λm:List Bool=>if hX o then m.set o.x.toNat true else m) (m.set i true))else m
def us(b:Blk):Nat->List Bool
 | 0=>us0 b
 | k+1=>usO (b.ops.getD (b.ops.length-1-k) default) (b.ops.length-1-k) (us b k)
noncomputable def DZ (b:Blk):List Bool:=if bp (eP b)=true then us b b.ops.length else []
noncomputable def mU (b:Blk):Blk:=if bp (eP b)=true then FY b (us b b.ops.length)else SF
def agL(o:IOp)(i:Nat)(m:List Bool):(usO o i m).length=m.length:=by
 unfold usO;dsimp only;repeat' split
 all_goals simp only [List.length_set]
def agM(b:Blk):(us0 b).length=b.ops.length:=by
 unfold us0;dsimp only;repeat' split
 all_goals simp only [List.length_set,List.length_replicate]
def Ca(b:Blk):∀k,(us b k).length=b.ops.length
 | 0=>agM b
 | k+1=>by unfold us;rw [agL,Ca b k]
def wI{m:List Bool}{i:Nat}{j:Int}(h:j.toNat<m.length):(m.set j.toNat true).getD i default=(m.getD i default || decide (i=j.toNat)):=by
 by_cases c:i=j.toNat
 .subst c;rw [getD_lt (by rw [List.length_set];exact h),List.getElem_set_self,decide_eq_true rfl,Bool.or_true]
 .rw [decide_eq_false c,Bool.or_false];simp only [List.getD,List.getElem?_set_ne (Ne.symm c)]
def VR{o:IOp}{i t:Nat}{m:List Bool}(hi:i<m.length)(hx:hX o->o.x.toNat<m.length)(hy:hY o->o.y.toNat<m.length):(usO o i m).getD t default=true↔m.getD t default=true\/(m.getD i default=true\/4<=o.kind)/\(t=i\/hX o/\t=o.x.toNat\/hY o/\t=o.y.toNat):=by
 unfold usO;dsimp only;by_cases c:(m.getD i default || decide (4<=o.kind))=true
 .rw [if_pos c];rw [Bool.or_eq_true,decide_eq_true_eq]at c;have e1:∀t:Nat,(m.set i true).getD t default=true↔m.getD t default=true\/t=i:=λt=>by
   have:=wI (m:=m) (i:=t) (j:=(i:Int)) hi;rw [show((i:Int)).toNat=i from rfl]at this;rw [this,Bool.or_eq_true,decide_eq_true_eq]
  have e2:∀t:Nat,((if hX o then(m.set i true).set o.x.toNat true else m.set i true).getD t default=true)↔(m.getD t default=true\/t=i)\/hX o/\t=o.x.toNat:=λt=>by
   by_cases d:hX o
   .rw [if_pos d,wI (by rw [List.length_set];exact hx d),Bool.or_eq_true,decide_eq_true_eq,e1];exact⟨λh=>h.elim Or.inl (λh=>Or.inr ⟨d,h⟩),λh=>h.elim Or.inl (λh=>Or.inr h.2)⟩
   .rw [if_neg d,e1];exact⟨Or.inl,λh=>h.elim id (λh=>absurd h.1 d)⟩
  have l2:(if hX o then(m.set i true).set o.x.toNat true else m.set i true).length=m.length:=by split<;>simp only [List.length_set]
  by_cases d:hY o
  .rw [if_pos d,wI (by rw [l2];exact hy d),Bool.or_eq_true,decide_eq_true_eq,e2];have c':=eq_true c;have d':=eq_true d;generalize hY o=Y at d' ⊢;generalize hX o=Z;rw [c',d'];grind
  .rw [if_neg d,e2];have c':=eq_true c;have d':=eq_false d;generalize hY o=Y at d' ⊢;generalize hX o=Z;rw [c',d'];grind
 .rw [if_neg c];rw [Bool.or_eq_true,decide_eq_true_eq]at c;simp only [c,false_and,or_false]
def SH{m:List Bool}{t:Nat}{j:Int}(h:j.toNat<m.length):(m.set j.toNat true).getD t default=true↔m.getD t default=true\/t=j.toNat:=by rw [wI h,Bool.or_eq_true,decide_eq_true_eq]
structure UI(b:Blk)(p:Nat)(m:List Bool):Prop where
 k:∀i:Nat,p<=i->i<b.ops.length->4<=(b.ops.getD i default).kind->m.getD i default=true
 x:∀i:Nat,p<=i->i<b.ops.length->m.getD i default=true->hX (b.ops.getD i default)->((m).getD ((b.ops.getD i default).x).toNat default)=true
 y:∀i:Nat,p<=i->i<b.ops.length->m.getD i default=true->hY (b.ops.getD i default)->((m).getD ((b.ops.getD i default).y).toNat default)=true
 ex:b.fin≠1->((m).getD (b.x).toNat default)=true
 ey:3<=b.fin->((m).getD (b.y).toNat default)=true
 wh:∀t:Nat,t<b.ops.length->m.getD t default=true->4<=(b.ops.getD t default).kind\/b.fin≠1/\t=b.x.toNat\/3<=b.fin/\t=b.y.toNat\/∃j:Nat,p<=j/\j<b.ops.length/\t<j/\m.getD j default=true/\(hX (b.ops.getD j default)/\t=(b.ops.getD j default).x.toNat\/hY (b.ops.getD j default)/\t=(b.ops.getD j default).y.toNat)
def VT{b:Blk}(hb:eP b)(t:Nat):(us0 b).getD t default=true↔b.fin≠1/\t=b.x.toNat\/3<=b.fin/\t=b.y.toNat:=by
 have en:=hb.en;have fx:=en.x1;have fy:=en.y1;unfold us0;dsimp only;have r:∀t,(List.replicate b.ops.length false).getD t default=false:=λt=>by
  by_cases c:t<b.ops.length
  .rw [getD_lt (by rw [List.length_replicate];exact c),List.getElem_replicate]
  .rw [List.getD_eq_getElem?_getD,List.getElem?_eq_none (by rw [List.length_replicate];omega)];rfl
 have e1:∀t:Nat,((if b.fin=1 then List.replicate b.ops.length false else(List.replicate b.ops.length false).set b.x.toNat true).getD t default=true)↔b.fin≠1/\t=b.x.toNat:=λt=>by
  by_cases d:b.fin=1
  .rw [if_pos d,r];simp [d]
  .have:=fx d;have g0:=this.1;have g1:=this.2.1;rw [if_neg d,wI (by rw [List.length_replicate];omega),r];simp [d]
 have l1:(if b.fin=1 then List.replicate b.ops.length false else(List.replicate b.ops.length false).set b.x.toNat true).length=b.ops.length:=by split<;>simp only [List.length_set,List.length_replicate]
 by_cases d:3<=b.fin
 .have:=fy d;have g0:=this.1;have g1:=this.2.1;rw [if_pos d,wI (by rw [l1];omega),Bool.or_eq_true,decide_eq_true_eq,e1];simp only [d,true_and]
 .rw [if_neg d,e1];simp only [d,false_and,or_false]
def aiy{b:Blk}(hb:eP b):∀k,k<=b.ops.length->UI b (b.ops.length-k) (us b k)
 | 0,_=>by
  have e:=VT hb;exact⟨λi h1 h2=>absurd h2 ah,λi h1 h2=>absurd h2 ah,λi h1 h2=>absurd h2 ah,λc=>(e _).2 (Or.inl ⟨c,rfl⟩),λc=>(e _).2 (Or.inr ⟨c,rfl⟩),λt _ h=>((e t).1 h).elim (λh=>Or.inr (Or.inl h)) (λh=>Or.inr (Or.inr (Or.inl h)))⟩
 | k+1,hk=>by
  have ih:=aiy hb k ah;have ul:=Ca b k;have ho:=hb.op ((b.ops.length-1-k:Nat):Int) ah ah;rw [show(((b.ops.length-1-k:Nat):Int)).toNat=b.ops.length-1-k from rfl]at ho;generalize hp:b.ops.length-1-k=p at ho;have e0:b.ops.length-k=p+1:=by omega
  rw [e0]at ih;rw [show b.ops.length- (k+1)=p by omega];have pl:p<b.ops.length:=by omega
  show UI b p (usO (b.ops.getD (b.ops.length-1-k) default) (b.ops.length-1-k) (us b k));rw [hp];have X:hX (b.ops.getD p default)->(b.ops.getD p default).x.toNat<p:=λc=>by have:=ho.x1 c;have g0:=this.1;have g1:=this.2.1;omega
  have Y:hY (b.ops.getD p default)->(b.ops.getD p default).y.toNat<p:=λc=>by have:=ho.y1 c;have g0:=this.1;have g1:=this.2.1;omega
  generalize us b k=m at ih ul;have e:∀t:Nat,_↔_:=λt=>VR (o:=b.ops.getD p default) (i:=p) (t:=t) (m:=m) ah (λc=>by have:=X c;omega) (λc=>by have:=Y c;omega)
  have hi:∀t:Nat,p<t->((usO (b.ops.getD p default) p m).getD t default=true↔m.getD t default=true):=λt h=>by
   rw [e];constructor
   .rintro(h1 | ⟨_,h1 | ⟨h1,h2⟩ | ⟨h1,h2⟩⟩)
    .exact h1
    .omega
    .have:=X h1;omega
    .have:=Y h1;omega
   .exact Or.inl
  have mono:∀t:Nat,m.getD t default=true->(usO (b.ops.getD p default) p m).getD t default=true:=λt h=>(e t).2 (Or.inl h)
  have pp:(usO (b.ops.getD p default) p m).getD p default=true↔m.getD p default=true\/4<=(b.ops.getD p default).kind:=by
   rw [e];constructor
   .rintro(h1 | ⟨h1,_⟩)
    .exact Or.inl h1
    .exact h1
   .intro h;exact Or.inr ⟨h,Or.inl rfl⟩
  refine⟨λi h1 h2 h3=> ?_,λi h1 h2 h3 h4=> ?_,λi h1 h2 h3 h4=> ?_,λc=>mono _ (ih.ex c),λc=>mono _ (ih.ey c),λt h1 h2=> ?_⟩
  .by_cases c:i=p
   .subst c;exact pp.2 (Or.inr h3)
   .exact mono _ (ih.k i ah h2 h3)
  .by_cases c:i=p
   .subst c;exact(e _).2 (Or.inr ⟨pp.1 h3,Or.inr (Or.inl ⟨h4,rfl⟩)⟩)
   .exact mono _ (ih.x i ah h2 ((hi i ah).1 h3) h4)
  .by_cases c:i=p
   .subst c;exact(e _).2 (Or.inr ⟨pp.1 h3,Or.inr (Or.inr ⟨h4,rfl⟩)⟩)
   .exact mono _ (ih.y i ah h2 ((hi i ah).1 h3) h4)
  .have old:m.getD t default=true->_:=λh=>ih.wh t h1 h
   have go:m.getD t default=true->4<=(b.ops.getD t default).kind\/b.fin≠1/\t=b.x.toNat\/3<=b.fin/\t=b.y.toNat\/∃j:Nat,p<=j/\j<b.ops.length/\t<j/\(usO (b.ops.getD p default) p m).getD j default=true/\(hX (b.ops.getD j default)/\t=(b.ops.getD j default).x.toNat\/hY (b.ops.getD j default)/\t=(b.ops.getD j default).y.toNat):=λh=>by
    rcases old h with h | h | h | ⟨j,j1,j2,j3,j4,j5⟩
    .exact Or.inl h
    .exact Or.inr (Or.inl h)
    .exact Or.inr (Or.inr (Or.inl h))
    .exact Or.inr (Or.inr (Or.inr ⟨j,ah,j2,j3,mono _ j4,j5⟩))
   rcases(e t).1 h2 with h | ⟨h,g⟩
   .exact go h
   .rcases g with g | ⟨g1,g2⟩ | ⟨g1,g2⟩
    .subst g;rcases h with h | h
     .exact go h
     .exact Or.inl h
    .exact Or.inr (Or.inr (Or.inr ⟨p,Nat.le_refl _,pl,by have:=X g1;omega,pp.2 h,Or.inl ⟨g1,g2⟩⟩))
    .exact Or.inr (Or.inr (Or.inr ⟨p,Nat.le_refl _,pl,by have:=Y g1;omega,pp.2 h,Or.inr ⟨g1,g2⟩⟩))
def ard{b:Blk}(hb:eP b):UI b 0 (us b b.ops.length):=by
 have:=aiy hb b.ops.length (Nat.le_refl _);rw [Nat.sub_self]at this;exact this
def acw(b:Blk)(kp:List Bool):(FY b kp).ops.length=(kpS b.ops kp b.ops.length).2.length:=List.length_map _
theorem SK(o:IOp)(l:List IOp)(r:Int):qg (o::l) r=if o.kind=4\/o.kind=5\/o.kind=2/\o.k=r then false else if o.kind=8/\o.k=r then true else qg l r:=rfl
def MH(b:Blk)(kp:List Bool):(FY b kp).ops.length<=b.ops.length:=by rw [acw];exact(Af b.ops kp b.ops.length).2
def FZ(b:Blk):(qW b).ops.length<=b.ops.length:=by
 unfold qW;split
 .exact MH _ _
 .exact Nat.zero_le _
def za(b:Blk):(mU b).ops.length<=b.ops.length:=by
 unfold mU;split
 .exact MH _ _
 .exact Nat.zero_le _
def agN(b:Blk)(f:List IOp):(fcB b f).ops=f:=by
 unfold fcB;split; · rfl
 split<;>rfl
def C9(b:Blk):(jm b).ops.length<=b.ops.length:=by
 unfold jm;split
 .rw [agN,JW];exact Nat.le_refl _
 .exact Nat.zero_le _
def ze(b:Blk):(jZ b).ops.length<=b.ops.length:=by
 unfold jZ;split
 .exact Nat.le_of_eq (List.length_map _)
 .exact Nat.zero_le _
noncomputable def JX (b:Blk):Blk:=mU (qW (mU (jm (jZ b))))
def Iw(b:Blk):(JX b).ops.length<=b.ops.length:=Nat.le_trans (za _) (Nat.le_trans (FZ _) (Nat.le_trans (za _) (Nat.le_trans (C9 _) (ze _))))
def JY{b:Blk}(hb:eP b):jm b=fcB b (fc b.ops b.ops.length):=by unfold jm;rw [if_pos (aV hb)]
def RB:(∀o:IOp,fZ .iop 0 o=o.kind)/\(∀o:IOp,fZ .iop 1 o=o.x)/\(∀o:IOp,fZ .iop 2 o=o.y)/\(∀o:IOp,fZ .iop 3 o=o.k)/\(∀o:IOp,fZ .iop 4 o=o.at_)/\
  (∀b:Blk,fZ .blk 0 b=b.pc)/\(∀b:Blk,fZ .blk 1 b=b.len)/\(∀b:Blk,je .blk 2 .iop b=b.ops)/\(∀b:Blk,fZ .blk 3 b=b.fin)/\(∀b:Blk,fZ .blk 4 b=b.x)/\(∀b:Blk,fZ .blk 5 b=b.y)/\(∀b:Blk,fZ .blk 6 b=b.k)/\
  (∀x,Co.mk .iop x=⟨x.1,x.2.1,x.2.2.1,x.2.2.2.1,x.2.2.2.2.1⟩)/\(∀x,Co.mk .blk x=⟨x.1,x.2.1,x.2.2.1,x.2.2.2.1,x.2.2.2.2.1,x.2.2.2.2.2.1,x.2.2.2.2.2.2.1⟩)/\
  (∀i:Ins,fZ .ins 0 i=i.op)/\(∀i:Ins,fZ .ins 1 i=i.d)/\(∀i:Ins,fZ .ins 2 i=i.a)/\(∀i:Ins,fZ .ins 3 i=i.k)/\(∀x,Co.mk .ins x=⟨x.1,x.2.1,x.2.2.1,x.2.2.2.1⟩)/\
  (∀e:Ev,fZ .ev 0 e=e.kind)/\(∀e:Ev,fZ .ev 1 e=e.at_)/\(∀e:Ev,je .ev 2 .mono e=e.x)/\(∀e:Ev,je .ev 3 .mono e=e.y)/\(∀e:Ev,je .ev 4 .poly e=e.regs)/\(∀x,Co.mk .ev x=⟨x.1,x.2.1,x.2.2.1,x.2.2.2.1,x.2.2.2.2.1⟩)/\
  (∀s:Sym,je .sym 0 .ev s=s.events)/\(∀s:Sym,je .sym 1 .poly s=s.regs)/\(∀s:Sym,fZ .sym 2 s=s.fin)/\(∀s:Sym,je .sym 3 .mono s=s.x)/\(∀s:Sym,je .sym 4 .mono s=s.y)/\(∀s:Sym,fZ .sym 5 s=s.k)/\
  (∀x,Co.mk .sym x=⟨x.1,x.2.1,x.2.2.1,x.2.2.2.1,x.2.2.2.2.1,x.2.2.2.2.2.1⟩)/\(∀x,Co.mk .bool x=x.1)/\(∀x:Bool,af0 .bool 0 x=x):=
 ⟨λ_=>rfl,λ_=>rfl,λ_=>rfl,λ_=>rfl,λ_=>rfl,λ_=>rfl,λ_=>rfl,λ_=>rfl,λ_=>rfl,λ_=>rfl,λ_=>rfl,λ_=>rfl,λ_=>rfl,λ_=>rfl,λ_=>rfl,λ_=>rfl,λ_=>rfl,λ_=>rfl,λ_=>rfl,λ_=>rfl,λ_=>rfl,λ_=>rfl,λ_=>rfl,λ_=>rfl,λ_=>rfl,λ_=>rfl,λ_=>rfl,λ_=>rfl,λ_=>rfl,λ_=>rfl,λ_=>rfl,λ_=>rfl,λ_=>rfl,λ_=>rfl⟩
abbrev hK(o : IOp) : Prop := o.kind = 1 \/ o.kind = 2 \/ o.kind = 3 \/ o.kind = 8
def arf{p1 f1}(U1:Y1 p1 f1)(o:IOp):
  aax.F (p1,f1,()) (o,()) (λy=>y=(decide (hX o),decide (hY o),decide (hK o),decide (evO o),())):=by
 dsimp only [aax,gm];simp (disch:=omega) only [RR,RB,U1.hp,U1.hf];refine Prod.ext ?_ (Prod.ext ?_ (Prod.ext ?_ (Prod.ext ?_ rfl)))<;>rw [Bool.eq_iff_iff]<;>simp [hX,hY,hK,evO,inB,or_assoc,and_assoc]
def arh{p1 f1}(U1:Y1 p1 f1)(o:IOp):
  aaA.F (p1,f1,()) (o,()) (λy=>y=(decide (mkV o),())):=by
 dsimp only [aaA,gm];simp (disch:=omega) only [RR,RB,U1.hp,U1.hf];refine Prod.ext ?_ rfl;rw [Bool.eq_iff_iff];simp [mkV,inB]
def ari{p1 f1}(U1:Y1 p1 f1)(o:IOp):
  aa2.F (p1,f1,()) (o,()) (λy=>y=(decide (evO o),())):=by
 dsimp only [aa2,gm];simp (disch:=omega) only [RR,RB,U1.hp,U1.hf];refine Prod.ext ?_ rfl;rw [Bool.eq_iff_iff];simp [evO,inB]
def arj{p1 f1}{p2:IOp×Unit->Bool}{f2:IOp×Unit->Bool×Unit}(hp2:∀o,p2 (o,())=true)(hf2:∀o,f2 (o,())=(decide (mkV o),()))(U1:Y1 p1 f1)(b:Blk)(x n:Int)(h0:0<=n)(h1:n<=b.ops.length)(h2:b.ops.length<1000000000):
  aaB.F (p2,f2,p1,f1,()) (b,x,n,()) (λy=>y=(bp (Vl b.ops x n),())):=by
 dsimp only [aaB,gm];simp (disch:=omega) only [RR,RB,U1.hp,U1.hf,hp2,hf2,bL,ji];refine⟨ah,ah,?_⟩;refine Prod.ext ?_ rfl;dsimp only;rw [Bool.eq_iff_iff,aQ,Bool.and_eq_true,bL,decide_eq_true_eq];unfold Vl;constructor
 .rintro⟨⟨a1,a2⟩,a3⟩;exact⟨a1,ah,a3⟩
 .rintro⟨a1,a2,a3⟩;exact⟨⟨a1,ah⟩,a3⟩
def MI{ops:List IOp}{len i:Int}{o:IOp}:mO ops len i o↔(1<=o.kind/\o.kind<=8)/\(hX o/\Vl ops o.x i\/¬hX o/\o.x=0)/\(hY o/\Vl ops o.y i\/¬hY o/\o.y=0)/\
  (hK o/\(o.kind=1/\(0<=o.k/\o.k<=65535)\/(o.kind=2\/o.kind=8)/\(0<=o.k/\o.k<=3)\/o.kind=3/\(1<=o.k/\o.k<=5))\/¬hK o/\o.k=0)/\(evO o/\(0<=o.at_/\o.at_<len)\/¬evO o/\o.at_=0):=by
 constructor
 .rintro⟨kd,x1,x0,y1,y0,k1,k2,k3,k0,a1,a0⟩;refine⟨kd,?_,?_,?_,?_⟩
  .by_cases h:hX o
   .exact Or.inl ⟨h,x1 h⟩
   .exact Or.inr ⟨h,x0 h⟩
  .by_cases h:hY o
   .exact Or.inl ⟨h,y1 h⟩
   .exact Or.inr ⟨h,y0 h⟩
  .unfold hK;omega
  .by_cases h:evO o
   .exact Or.inl ⟨h,a1 h⟩
   .exact Or.inr ⟨h,a0 h⟩
 .rintro⟨kd,x,y,k,a⟩;refine⟨kd,λh=> ?_,λh=> ?_,λh=> ?_,λh=> ?_,λh=> ?_,λh=> ?_,λh=> ?_,λh h'=> ?_,λh=> ?_,λh=> ?_⟩
  .rcases x with x | x
   .exact x.2
   .exact absurd h x.1
  .rcases x with x | x
   .exact absurd x.1 h
   .exact x.2
  .rcases y with y | y
   .exact y.2
   .exact absurd h y.1
  .rcases y with y | y
   .exact absurd y.1 h
   .exact y.2
  .unfold hK at k;omega
  .unfold hK at k;omega
  .unfold hK at k;omega
  .unfold hK at k;omega
  .rcases a with a | a
   .exact a.2
   .exact absurd h a.1
  .rcases a with a | a
   .exact absurd a.1 h
   .exact a.2
structure Y52(pp:Blk×Int×Int×Unit->Bool)(ff:Blk×Int×Int×Unit->Bool×Unit):Prop where
 hp:∀b x n,0<=n->n<=b.ops.length->b.ops.length<1000000000->pp (b,x,n,())=true
 hf:∀b x n,0<=n->n<=b.ops.length->b.ops.length<1000000000->ff (b,x,n,())=(bp (Vl b.ops x n),())
structure Y53(pp:IOp×Unit->Bool)(ff:IOp×Unit->Bool×Bool×Bool×Bool×Unit):Prop where
 hp:∀o,pp (o,())=true
 hf:∀o,ff (o,())=(decide (hX o),decide (hY o),decide (hK o),decide (evO o),())
def ark{p3 f3 p2 f2 p4 f4 p1 f1 p5 f5 p6 f6}(U3:Y52 p3 f3)(U2:Y53 p2 f2)(U4:Y9 p4 f4)(U1:Y1 p1 f1)(U5:Y16 p5 f5)(U6:Y17 p6 f6)(b:Blk)(i:Int)(h0:0<=i)(h1:i<b.ops.length)(h2:b.ops.length<1000000000)(h3:1<=b.len/\b.len<=8):
  aaC.F (p3,f3,p2,f2,p4,f4,p1,f1,p5,f5,p6,f6,()) (b,i,()) (λy=>y=(bp (mO b.ops b.len i ((b.ops).getD (i).toNat default)),())):=by
 have SL:=λx=>U3.hp b x i h0 ah h2
 have SN:=λx=>U3.hf b x i h0 ah h2
 dsimp only [aaC,gm];simp (disch:=omega) only [RR,RB,U1.hp,U1.hf,U2.hp,U2.hf,SL,SN,U4.hp,U4.hf,U5.hp,U5.hf,U6.hp,U6.hf,ji];refine⟨ah,ah,λh=> ?_,λh=> ?_⟩
 .rw [bP (λg=>h g.kd)]
 .have h:=bL.1 h;refine Prod.ext ?_ rfl;dsimp only;rw [Bool.eq_iff_iff,aQ,MI];generalize ((b.ops).getD (i).toNat default)=o at h ⊢;simp only [Bool.and_eq_true,Bool.or_eq_true,Bool.not_eq_true',decide_eq_true_eq,decide_eq_false_iff_not,aQ,bL,h,true_and,and_true];have e:∀ {a:Int},(0<=a/\a<=b.len-1)↔(0<=a/\a<b.len):=λ{a}=>by omega
  have k:(bif decide (o.kind=1)then inB o.k 0 65535 else bif decide (o.kind=2)then inB o.k 0 3 else bif decide (o.kind=3)then inB o.k 1 5 else(decide (o.kind=8)&&inB o.k 0 3))=true↔(o.kind=1/\(0<=o.k/\o.k<=65535)\/(o.kind=2\/o.kind=8)/\(0<=o.k/\o.k<=3)\/o.kind=3/\(1<=o.k/\o.k<=5)):=by
   rcases(by omega:o.kind=1\/o.kind=2\/o.kind=3\/o.kind=8\/(o.kind≠1/\o.kind≠2/\o.kind≠3/\o.kind≠8))with c | c | c | c | ⟨c1,c2,c3,c4⟩
   .simp [c,inB]
   .simp [c,inB]
   .simp [c,inB]
   .simp [c,inB]
   .simp [c1,c2,c3,c4]
  rw [k];simp only [e,and_assoc]
def arl(b:Blk):akB.F () (b,()) (λy=>y=(decide (b.fin≠1),decide (3<=b.fin),decide (b.fin≠2),())):=by
 dsimp only [akB,gm];simp (disch:=omega) only [RR,RB];refine Prod.ext ?_ (Prod.ext rfl (Prod.ext ?_ rfl))<;>simp
def Iy{b:Blk}:Ac b↔(1<=b.fin/\b.fin<=4)/\(b.fin≠1/\Vl b.ops b.x b.ops.length\/¬b.fin≠1/\b.x=0)/\(3<=b.fin/\Vl b.ops b.y b.ops.length\/¬3<=b.fin/\b.y=0)/\(b.fin≠2/\(0<=b.k/\b.k<=65535)\/¬b.fin≠2/\b.k=0):=by
 constructor
 .rintro⟨f,x1,x0,y1,y0,k1,k0⟩;refine⟨f,?_,?_,ah⟩
  .by_cases h:b.fin=1
   .exact Or.inr ⟨λg=>g h,x0 h⟩
   .exact Or.inl ⟨h,x1 h⟩
  .by_cases h:3<=b.fin
   .exact Or.inl ⟨h,y1 h⟩
   .exact Or.inr ⟨h,y0 ah⟩
 .rintro⟨f,x,y,k⟩;refine⟨f,λh=> ?_,λh=> ?_,λh=> ?_,λh=> ?_,λh=>by omega,λh=>by omega⟩
  .rcases x with x | x
   .exact x.2
   .exact absurd h x.1
  .rcases x with x | x
   .exact absurd h x.1
   .exact x.2
  .rcases y with y | y
   .exact y.2
   .exact absurd h y.1
  .rcases y with y | y
   .exact absurd y.1 ah
   .exact y.2
structure Y54(pp:Blk×Unit->Bool)(ff:Blk×Unit->Bool×Bool×Bool×Unit):Prop where
 hp:∀b,pp (b,())=true
 hf:∀b,ff (b,())=(decide (b.fin≠1),decide (3<=b.fin),decide (b.fin≠2),())
def auv{p2 f2 p3 f3 p4 f4 p1 f1}(U2:Y54 p2 f2)(U3:Y52 p3 f3)(U4:Y9 p4 f4)(U1:Y1 p1 f1)(b:Blk)(h2:b.ops.length<1000000000):
  akC.F (p2,f2,p3,f3,p4,f4,p1,f1,()) (b,()) (λy=>y=(bp (Ac b),())):=by
 have SL:=λx=>U3.hp b x b.ops.length ah (Int.le_refl _) h2
 have SN:=λx=>U3.hf b x b.ops.length ah (Int.le_refl _) h2
 dsimp only [akC,gm];simp (disch:=omega) only [RR,RB,U1.hp,U1.hf,U2.hp,U2.hf,SL,SN,U4.hp,U4.hf];refine Prod.ext ?_ rfl;dsimp only;rw [Bool.eq_iff_iff,aQ,Iy];simp only [Bool.and_eq_true,Bool.or_eq_true,Bool.not_eq_true',decide_eq_true_eq,decide_eq_false_iff_not,aQ,bL,and_assoc]
def arn{p1 f1}{p2:Blk×Unit->Bool}{f2:Blk×Unit->Bool×Unit}(hp2:∀b,b.ops.length<1000000000->p2 (b,())=true)(hf2:∀b,b.ops.length<1000000000->f2 (b,())=(bp (Ac b),())){p3:Blk×Int×Unit->Bool}{f3:Blk×Int×Unit->Bool×Unit}(hp3:∀(b:Blk) (i:Int),0<=i->i<b.ops.length->b.ops.length<1000000000->1<=b.len/\b.len<=8->p3 (b,i,())=true)(hf3:∀(b:Blk) (i:Int),0<=i->i<b.ops.length->b.ops.length<1000000000->1<=b.len/\b.len<=8->f3 (b,i,())=(bp (mO b.ops b.len i ((b.ops).getD (i).toNat default)),()))(U1:Y1 p1 f1)(b:Blk)(h2:b.ops.length<1000000000):
  aaD.F (p2,f2,p3,f3,p1,f1,()) (b,()) (λy=>y=(bp (eP b),())):=by
 dsimp only [aaD,gm];simp (disch:=omega) only [RR,RB,U1.hp,U1.hf];by_cases hl:1<=b.len/\b.len<=8
 .have hl':=bL.2 hl;simp (disch:=omega) only [RR,hl',bL,ji];refine⟨λh=> ?_,λh=> ?_⟩
  .rw [bP (λg=> ?_)];have g1:=g.pc;have g2:=g.sz;omega
  .refine ak (λ(y:Int×Int×Blk×Unit)=>y.1=b.ops.length/\y.2.2.1=b/\0<=y.2.1/\y.2.1<=b.ops.length/\All y.2.1 (λi=>mO b.ops b.len i ((b.ops).getD (i).toNat default))) (λy=>(b.ops.length-y.2.1).toNat) ⟨rfl,rfl,by simp,by simp,All.zero⟩ ?_;rintro⟨(n:Int),(i:Int),(b':Blk),⟨⟩⟩ hI;dsimp only at hI ⊢;obtain⟨rfl,rfl,h3,h4,h5⟩:=hI;simp (disch:=omega) only [RR,hp2 b' h2,hf2 b' h2];refine⟨λh6=>⟨hp3 b' i h3 h6 h2 hl,?_⟩,λh6=> ?_⟩
   .rw [hf3 b' i h3 h6 h2 hl];dsimp only;refine⟨λh7=> ?_,λh7=>⟨⟨ah,ah,h5.snoc (aQ.1 h7)⟩,ah⟩⟩;rw [bP (λg=>jh.1 h7 (g.op i h3 h6))]
   .by_cases he:Ac b'
    .rw [aV he,aV (show eP b' from⟨hl,ah,ah,λj j1 j2=>h5 j j1 ah,he⟩)]
    .rw [bP he,bP (λg=>he g.en)]
 .have hl':=ji.2 hl;simp (disch:=omega) only [RR,hl'];rw [bP (λg=>hl g.ln)];exact⟨rfl,λh=>h.1.1.elim⟩
def alG{p1 f1}(U1:Y1 p1 f1)(k:Int):
  Pp.F (p1,f1,()) (k,()) (λy=>y=(decide ((1<=k/\k<=4)\/k=6),())):=by
 dsimp only [Pp,gm];simp (disch:=omega) only [RR,U1.hp,U1.hf];refine Prod.ext ?_ rfl;rw [Bool.eq_iff_iff];simp [inB]
def alH{p1:Int×Unit->Bool}{f1:Int×Unit->Bool×Unit}(hp1:∀k,p1 (k,())=true)(hf1:∀k,f1 (k,())=(decide ((1<=k/\k<=4)\/k=6),()))(ops:List IOp)(x n:Int)(h1:n<=ops.length):
  Pq.F (p1,f1,()) (ops,x,n,()) (λy=>y=(bp (Vl ops x n),())):=by
 dsimp only [Pq,gm];simp (disch:=omega) only [RR,RB,hp1,hf1];refine⟨by simp only [Bool.and_eq_false_iff,decide_eq_false_iff_not];omega,by simp only [Bool.and_eq_false_iff,decide_eq_false_iff_not];omega,?_⟩;refine Prod.ext ?_ rfl;dsimp only;rw [Bool.eq_iff_iff,aQ,Bool.and_eq_true,Bool.and_eq_true,decide_eq_true_eq,decide_eq_true_eq,decide_eq_true_eq,and_assoc];rfl
structure Y55(pp:List IOp×Int×Int×Unit->Bool)(ff:List IOp×Int×Int×Unit->Bool×Unit):Prop where
 hp:∀(ops:List IOp) (x n:Int),n<=ops.length->pp (ops,x,n,())=true
 hf:∀(ops:List IOp) (x n:Int),n<=ops.length->ff (ops,x,n,())=(bp (Vl ops x n),())
def alI{p4 f4 p1 f1 p3 f3}(U4:Y9 p4 f4)(U1:Y1 p1 f1)(U3:Y55 p3 f3)(ops:List IOp)(i len:Int)(h0:0<=i)(h1:i<ops.length)(h3:1<=len/\len<=8):Pv.F (p4,f4,p1,f1,p3,f3,()) (ops,i,len,()) (λy=>y=(bp (mO ops len i ((ops).getD (i).toNat default)),())):=by
 have SL:=λx=>U3.hp ops x i ah
 have SN:=λx=>U3.hf ops x i ah
 have e:∀ {a:Int},(0<=a/\a<=len-1)↔(0<=a/\a<len):=λ{a}=>by omega
 dsimp only [Pv,gm];simp (disch:=omega) only [RR,RB,U1.hp,U1.hf,SL,SN,U4.hp,U4.hf];refine⟨ah,ah,?_⟩;rw [show bp (mO ops len i ((ops).getD (i).toNat default))=bp (_)from uE MI];generalize ((ops).getD (i).toNat default)=o;have go:∀ {c:Bool} {P:Prop},(c=true↔P)->(c,())=(bp P,()):=λ{c P} h=>Prod.ext (by dsimp only;rw [Bool.eq_iff_iff,aQ];exact h) rfl
 refine⟨λc=> ?_,λc1=>⟨λc=> ?_,λc2=>⟨λc=> ?_,λc3=> ?_⟩⟩⟩
 .refine go ?_;simp only [Bool.and_eq_true,decide_eq_true_eq,aQ,bL,c,hX,hY,hK,evO,e];simp [and_assoc]
 .refine go ?_;simp only [Bool.and_eq_true,decide_eq_true_eq,aQ,bL,c,hX,hY,hK,evO,e];simp [and_assoc]
 .refine go ?_;simp only [Bool.and_eq_true,decide_eq_true_eq,aQ,bL,c,hX,hY,hK,evO,e];simp [and_assoc]
 .by_cases c4:o.kind=4\/o.kind=7
  .have c5:o.kind≠8:=by omega
   rcases c4 with c | c<;>simp (disch:=omega) only [RR,c,Int.reduceEq]<;>(refine go ?_)<;>simp only [Bool.and_eq_true,decide_eq_true_eq,aQ,bL,c,hX,hY,hK,evO,e]<;>simp [and_assoc]
  .by_cases c:o.kind=5
   .simp (disch:=omega) only [RR,c,Int.reduceEq];refine go ?_;simp only [Bool.and_eq_true,decide_eq_true_eq,aQ,bL,c,hX,hY,hK,evO,e];simp [and_assoc]
   .by_cases c':o.kind=6
    .simp (disch:=omega) only [RR,c',Int.reduceEq];refine go ?_;simp only [Bool.and_eq_true,decide_eq_true_eq,aQ,bL,c',hX,hY,hK,evO,e];simp [and_assoc]
    .by_cases c8:o.kind=8
     .simp (disch:=omega) only [RR,c8,Int.reduceEq];refine go ?_;simp only [Bool.and_eq_true,decide_eq_true_eq,aQ,bL,c8,hX,hY,hK,evO,e];simp [and_assoc]
     .have n4:¬o.kind=4:=λh=>c4 (Or.inl h)
      have n7:¬o.kind=7:=λh=>c4 (Or.inr h)
      simp (disch:=omega) only [RR,n4,n7,c,c',c8];rw [bP (λh=>by have:=h.1;omega)]
def alJ{p4 f4 p3 f3}(U4:Y9 p4 f4)(U3:Y55 p3 f3)(b:Blk):Pw.F (p4,f4,p3,f3,()) (b,()) (λy=>y=(bp (Ac b),())):=by
 have SL:=λx=>U3.hp b.ops x b.ops.length (Int.le_refl _)
 have SN:=λx=>U3.hf b.ops x b.ops.length (Int.le_refl _)
 dsimp only [Pw,gm];simp (disch:=omega) only [RR,RB,SL,SN,U4.hp,U4.hf];rw [show bp (Ac b)=bp (_)from uE Iy];have go:∀ {c:Bool} {P:Prop},(c=true↔P)->(c,())=(bp P,()):=λ{c P} h=>Prod.ext (by dsimp only;rw [Bool.eq_iff_iff,aQ];exact h) rfl
 refine⟨λc=> ?_,λc1=>⟨λc=> ?_,λc2=> ?_⟩⟩
 .refine go ?_;simp only [Bool.and_eq_true,decide_eq_true_eq,aQ,bL,c];simp [and_assoc]
 .refine go ?_;simp only [Bool.and_eq_true,decide_eq_true_eq,aQ,bL,c];simp [and_assoc]
 .by_cases c:b.fin=3
  .simp (disch:=omega) only [RR,c,Int.reduceEq];refine go ?_;simp only [Bool.and_eq_true,decide_eq_true_eq,aQ,bL,c];simp [and_assoc]
  .by_cases c4:b.fin=4
   .simp (disch:=omega) only [RR,c4,Int.reduceEq];refine go ?_;simp only [Bool.and_eq_true,decide_eq_true_eq,aQ,bL,c4];simp [and_assoc]
   .simp (disch:=omega) only [RR,c,c4];rw [bP (λh=>by have:=h.1;omega)]
def alK{p1 f1}(U1:Y1 p1 f1){p2:Blk×Unit->Bool}{f2:Blk×Unit->Bool×Unit}(hp2:∀b,p2 (b,())=true)(hf2:∀b,f2 (b,())=(bp (Ac b),())){p3:List IOp×Int×Int×Unit->Bool}{f3:List IOp×Int×Int×Unit->Bool×Unit}(hp3:∀(ops:List IOp) (i len:Int),0<=i->i<ops.length->1<=len/\len<=8->p3 (ops,i,len,())=true)(hf3:∀(ops:List IOp) (i len:Int),0<=i->i<ops.length->1<=len/\len<=8->f3 (ops,i,len,())=(bp (mO ops len i ((ops).getD (i).toNat default)),()))(b:Blk)(h2:b.ops.length<1000000000):
  Px.F (p1,f1,p2,f2,p3,f3,()) (b,()) (λy=>y=(bp (eP b),())):=by
 dsimp only [Px,gm];simp (disch:=omega) only [RR,RB,U1.hp,U1.hf];by_cases hl:1<=b.len/\b.len<=8
 .have hl':=bL.2 hl;simp (disch:=omega) only [RR,hl',bL,ji];refine⟨λh=> ?_,λh=> ?_⟩
  .rw [bP (λg=> ?_)];have g1:=g.pc;have g2:=g.sz;omega
  .refine ak (λ(y:Int×Blk×Unit)=>y.2.1=b/\0<=y.1/\y.1<=b.ops.length/\All y.1 (λi=>mO b.ops b.len i ((b.ops).getD (i).toNat default))) (λy=>(b.ops.length-y.1).toNat) ⟨rfl,by simp,by simp,All.zero⟩ ?_;rintro⟨(i:Int),(b':Blk),⟨⟩⟩ hI;dsimp only at hI ⊢;obtain⟨rfl,h3,h4,h5⟩:=hI;simp (disch:=omega) only [RR,hp2 b',hf2 b'];refine⟨λh6=>⟨hp3 b'.ops i b'.len h3 h6 hl,?_⟩,λh6=> ?_⟩
   .rw [hf3 b'.ops i b'.len h3 h6 hl];dsimp only;refine⟨λh7=> ?_,λh7=>⟨⟨ah,ah,h5.snoc (aQ.1 h7)⟩,ah⟩⟩;rw [bP (λg=>jh.1 h7 (g.op i h3 h6))]
   .by_cases he:Ac b'
    .rw [aV he,aV (show eP b' from⟨hl,ah,ah,λj j1 j2=>h5 j j1 ah,he⟩)]
    .rw [bP he,bP (λg=>he g.en)]
 .have hl':=ji.2 hl;simp (disch:=omega) only [RR,hl'];rw [bP (λg=>hl g.ln)];exact⟨rfl,λh=>h.1.1.elim⟩
def aro{p4 f4}(U4:Y9 p4 f4)(r a b:Int):
  abp.F (p4,f4,()) (r,a,b,()) (λy=>y=(inB a 0 65535&&inB b 0 65535&& (decide (r=1/\a=b\/r=2/\a<b)),())):=by
 dsimp only [abp,gm];simp (disch:=omega) only [RR,U4.hp,U4.hf];refine Prod.ext ?_ rfl;rw [Bool.eq_iff_iff];simp
def arp{p1 f1}(U1:Y13 p1 f1)(a:List (List aj))(ha:ShP a):
  abq.F (p1,f1,()) (a,()) (λy=>y=(a,())):=by
 have hlen:=ha.1;dsimp only [abq,gm];refine ak (λ(y:List (List aj)×Int×Int×List (List aj)×Unit)=>y.1=a/\y.2.1=a.length/\y.2.2.2.1=a.take y.2.2.1.toNat/\0<=y.2.2.1/\y.2.2.1<=a.length) (λy=>(a.length-y.2.2.1).toNat) ⟨rfl,rfl,by simp,by simp,by simp⟩ ?_;rintro⟨(l:List (List aj)),(m:Int),(i:Int),(o:List (List aj)),⟨⟩⟩ hI;dsimp only at hI ⊢;obtain⟨rfl,rfl,rfl,h1,h2⟩:=hI;simp (disch:=omega) only [RR,U1.hp _ (ha.at _),U1.hf _ (ha.at _)];refine⟨λh4=>⟨ah,ah,?_,⟨bB h1 h4 rfl,ah,ah⟩,ah⟩,λh4=>by rw [List.take_of_length_le ah]⟩;have:=List.length_take_le' i.toNat l;simp only [List.length_cons,List.length_nil];omega
structure Y56(pp:List (List aj)×Unit->Bool)(ff:List (List aj)×Unit->List (List aj)×Unit):Prop where
 hp:∀a,ShP a->pp (a,())=true
 hf:∀a,ShP a->ff (a,())=(a,())
def arq{p1 f1 p2 f2}(U1:Y13 p1 f1)(U2:Y56 p2 f2)(s:Sym)(hs:ShY s):
  abr.F (p1,f1,p2,f2,()) (s,()) (λy=>y=(s.fin,s.k,s.events,s.regs,s.x,s.y,())):=by
 have hlen:=hs.e.1;dsimp only [abr,gm];simp (disch:=omega) only [RR,RB,U1.hp _ hs.x,U1.hf _ hs.x,U1.hp _ hs.y,U1.hf _ hs.y,U2.hp _ hs.r,U2.hf _ hs.r];refine ak (λ(y:List Ev×Int×Int×Int×Int×Int×Int×List Ev×List (List aj)×List aj×List aj×Unit)=>y.1=s.events/\y.2.1=s.events.length/\y.2.2.2.2.2.1=s.fin/\y.2.2.2.2.2.2.1=s.k/\y.2.2.2.2.2.2.2.1=s.events.take y.2.2.1.toNat/\y.2.2.2.2.2.2.2.2.1=s.regs/\y.2.2.2.2.2.2.2.2.2.1=s.x/\y.2.2.2.2.2.2.2.2.2.2.1=s.y/\0<=y.2.2.1/\y.2.2.1<=s.events.length) (λy=>(s.events.length-y.2.2.1).toNat) ⟨rfl,rfl,rfl,rfl,by simp,rfl,rfl,rfl,by simp,by simp⟩ ?_;rintro⟨(l:List Ev),(m:Int),(i:Int),(q1:Int),(q2:Int),(q3:Int),(q4:Int),(o:List Ev),(r:List (List aj)),(u:List aj),(v:List aj),⟨⟩⟩ hI;dsimp only at hI ⊢;obtain⟨rfl,rfl,rfl,rfl,rfl,rfl,rfl,rfl,h1,h2⟩:=hI;have he:=hs.e.at i.toNat;simp (disch:=omega) only [RR,RB,U1.hp _ he.1,U1.hf _ he.1,U1.hp _ he.2.1,U1.hf _ he.2.1,U2.hp _ he.2.2,U2.hf _ he.2.2];refine⟨λh4=>⟨ah,ah,?_,⟨bB h1 h4 rfl,ah,ah⟩,ah⟩,λh4=>by rw [List.take_of_length_le ah]⟩;have:=List.length_take_le' i.toNat s.events;simp only [List.length_cons,List.length_nil];omega
def ars{p1 f1}(U1:Y28 p1 f1){p2:List Atom×Atom×Unit->Bool}{f2:List Atom×Atom×Unit->List Atom×Int×Unit}(hp2:∀(t:List Atom) a,t.length<1000000000->ShA a->p2 (t,a,())=true)(hf2:∀(t:List Atom) a,t.length<1000000000->ShA a->f2 (t,a,())=((aI t a).1,(aI t a).2,()))(kd k:Int)(t:List Atom)(fl:Bool)(ht:t.length<1000000000):
  aa0.F (p1,f1,p2,f2,()) (kd,k,t,fl,()) (λy=>y=if(aI t ⟨kd,k,[],[]⟩).2<0 then([],t,true,())else(bQ (aI t ⟨kd,k,[],[]⟩).2,(aI t ⟨kd,k,[],[]⟩).1,fl,())):=by
 have sa:ShA ⟨kd,k,[],[]⟩:=⟨iE,iE⟩;dsimp only [aa0,gm];simp (disch:=omega) only [RR,U1.hp,U1.hf,hp2 _ _ ht sa,hf2 _ _ ht sa];exact⟨λh=>by rw [if_pos h],λh=>by rw [if_neg h]⟩
theorem JZ(t:List Atom)(n:Nat):rN t (n+1)=((aI (rN t n).1 ⟨1,n,[],[]⟩).1,(rN t n).2++ [bQ (aI (rN t n).1 ⟨1,n,[],[]⟩).2]):=rfl
structure Y57(pp:Int×Int×List Atom×Bool×Unit->Bool)(ff:Int×Int×List Atom×Bool×Unit->List aj×List Atom×Bool×Unit):Prop where
 hp:∀kd k (t:List Atom) fl,t.length<1000000000->pp (kd,k,t,fl,())=true
 hf:∀kd k (t:List Atom) fl,t.length<1000000000->ff (kd,k,t,fl,())=if(aI t ⟨kd,k,[],[]⟩).2<0 then([],t,true,())else(bQ (aI t ⟨kd,k,[],[]⟩).2,(aI t ⟨kd,k,[],[]⟩).1,fl,())
def aru{p1 f1}(U1:Y57 p1 f1)(t:List Atom)(fl:Bool)(ht:aC t)(hl:t.length<=196):aa1.F (p1,f1,()) (t,fl,()) (λy=>y=((rN t 4).1,fl,(rN t 4).2,())):=by
 dsimp only [aa1,gm];refine ak (λ(y:Int×List Atom×Bool×List (List aj)×Unit)=>0<=y.1/\y.1<=4/\y.2.2.1=fl/\y.2.1=(rN t y.1.toNat).1/\y.2.2.2.1=(rN t y.1.toNat).2) (λy=>(4-y.1).toNat) ⟨by simp,by simp,rfl,rfl,rfl⟩ ?_;rintro⟨(i:Int),(u:List Atom),(g:Bool),(r:List (List aj)),⟨⟩⟩ hI;dsimp only at hI ⊢;obtain⟨h1,h2,rfl,rfl,rfl⟩:=hI;have ok:=FX ht hl i.toNat ah;have l1:=ok.tl;have l2:=ok.r4;simp (disch:=omega) only [RR,U1.hp _ _ (rN t i.toNat).1 _ ah,U1.hf _ _ (rN t i.toNat).1 _ ah,List.length_cons,List.length_nil];refine⟨λh3=> ?_,λh3=> ?_⟩
 .have hp:=y9 ht hl (n:=i.toNat) ah;rw [show((i.toNat:Nat):Int)=i by omega]at hp;rw [if_neg ah];have e:(i+1).toNat=i.toNat+1:=by omega
  have e2:((i.toNat:Nat):Int)=i:=by omega
  refine⟨ah,⟨ah,ah,rfl,?_,?_⟩,ah⟩
  .rw [e,JZ,e2]
  .rw [e,JZ,e2]
 .rw [show i.toNat=4 by omega]
def arv(a:List (List aj))(h0:0<a.length)(h1:a.length<1000000000):aa3.F () (a,()) (λy=>y=(a,a,())):=by
 dsimp only [aa3,gm];simp (disch:=omega) only [RR,List.length_nil];exact⟨ah,ah,rfl⟩
structure Y58(pp:List Atom×Bool×Unit->Bool)(ff:List Atom×Bool×Unit->List Atom×Bool×List (List aj)×Unit):Prop where
 hp:∀(t:List Atom) fl,aC t->t.length<=196->pp (t,fl,())=true
 hf:∀(t:List Atom) fl,aC t->t.length<=196->ff (t,fl,())=((rN t 4).1,fl,(rN t 4).2,())
structure Y59(pp:Int×Int×Int×Unit->Bool)(ff:Int×Int×Int×Unit->Bool×Unit):Prop where
 hp:∀r a b,pp (r,a,b,())=true
 hf:∀r a b,ff (r,a,b,())=(inB a 0 65535&&inB b 0 65535&& (decide (r=1/\a=b\/r=2/\a<b)),())
def arw{p1 f1 p2 f2 p3 f3 p5 f5 p6 f6}(U1:Y27 p1 f1)(U2:Y11 p2 f2)(U3:Y8 p3 f3){p4:Sym×Unit->Bool}{f4:Sym×Unit->Int×Int×List Ev×List (List aj)×List aj×List aj×Unit}(hp4:∀s,ShY s->p4 (s,())=true)(hf4:∀s,ShY s->f4 (s,())=(s.fin,s.k,s.events,s.regs,s.x,s.y,()))(U5:Y14 p5 f5)(U6:Y59 p6 f6)(s:Sym)(n:Int)(hs:ShY s)(h0:0<=s.fin)(h1:s.fin<=4):abt.F (p1,f1,p2,f2,p3,f3,p4,f4,p5,f5,p6,f6,()) (s,n,()) (λy=>y=(symEnd s n,())):=by
 dsimp only [abt,gm];simp (disch:=omega) only [RR,RB,U1.hp _ hs.x,U1.hf _ hs.x,U1.hp _ hs.y,U1.hf _ hs.y,U2.hp _ hs.x,U2.hf _ hs.x,U2.hp _ hs.y,U2.hf _ hs.y,U3.hp _ _ hs.x,U3.hf _ _ hs.x,hp4 s hs,hf4 s hs,U5.hp _ _ hs.x,U5.hf _ _ hs.x,U6.hp,U6.hf];have xy:dU s.x s.y=0↔s.x=s.y:=iW;have rx:(bE s.x).2=true->inB (bE s.x).1 0 65535=true:=λh=>bL.2 (kQ h).2.2
 have ry:(bE s.y).2=true->inB (bE s.y).1 0 65535=true:=λh=>bL.2 (kQ h).2.2
 unfold symEnd;refine⟨λh=> ?_,λh=>⟨λg=> ?_,λg=>⟨λk=> ?_,λk=>⟨λl=>⟨λm=> ?_,λm=> ?_⟩,λl=>⟨λm=> ?_,λm=> ?_⟩⟩⟩⟩⟩
 .rw [if_pos (by rw [lN,Bool.and_eq_false_iff];exact h)];rfl
 all_goals rw [if_neg (by rw [lN,h.1,h.2];simp)]
 .rw [if_pos g]
 all_goals rw [if_neg (show¬(s.fin=2/\(bE s.x).2=true) by
  rintro⟨a,b⟩;rw [decide_eq_true a,b]at g;cases g)]
 .rw [if_pos k]
 all_goals rw [if_neg (show¬(s.fin≠3/\s.fin≠4) by
  rintro⟨a,b⟩;rw [decide_eq_false a,decide_eq_false b]at k;cases k)]
 .rw [if_pos (by rw [<-xy];exact l),if_neg];rintro(⟨q1,q2⟩ | ⟨⟨q1,q2⟩,q3⟩)
  .have:=m.1;rw [decide_eq_true (xy.2 q1),decide_eq_true q2]at this;cases this
  .have:=m.2;rw [q1,q2,rx q1,ry q2,decide_eq_true ah]at this;cases this
 .rw [if_pos (by rw [<-xy];exact l),if_pos];rcases m with⟨q1,q2⟩ | ⟨q1,_,q3⟩
  .exact Or.inl ⟨xy.1 q1,q2⟩
  .exact Or.inr ⟨q1,ah⟩
 all_goals rw [if_neg (show¬(s.x=s.y\/(bE s.x).2=true/\(bE s.y).2=true) by
  rintro(q | ⟨q1,q2⟩)
  .exact l.1 (xy.2 q)
  .have:=l.2;rw [q1,q2]at this;cases this)]
 .rw [if_pos m]
 .rw [if_neg];rintro⟨a,b⟩;rw [decide_eq_true a,decide_eq_true b]at m;cases m
noncomputable def SW (t:List Atom) (b:Blk) (i:Nat):SS:=(b.ops.take i).foldl stp (s0 t)
structure At(t:List Atom)(b:Blk)(i:Nat)(ld inn:Int)(tb:List Atom)(V:List (List aj))(ev:List Ev)(rg:List (List aj)):Prop where
 ld:ld=(SW t b i).ld
 inn:inn=(SW t b i).inn
 tb:tb=(SW t b i).t
 V:V=(SW t b i).vals++List.replicate (b.ops.length-i) []
 ev:ev=(SW t b i).evs
 rg:rg=(SW t b i).regs
def At.auw{t:List Atom}{b:Blk}{i:Nat}{ld inn:Int}{tb:List Atom}{V:List (List aj)}{ev:List Ev}{rg:List (List aj)}(h:At t b i ld inn tb V ev rg)(hv:(SW t b i).vals.length=i)(hi:i<=b.ops.length):V.length=b.ops.length:=by
 rw [h.V,List.length_append,List.length_replicate,hv];omega
def VU(t:List Atom):∀(l:List IOp) (s:SS),(l.foldl stp s).evs.length<=s.evs.length+l.length
 | [],s=>Nat.le_refl _
 | o::r,s=>by
  rw [List.foldl_cons,List.length_cons];have h1:=VU t r (stp s o);have h2:(stp s o).evs.length<=s.evs.length+1:=by
   show(nE s o).length<=_;unfold nE;split
   .rw [List.length_append];exact Nat.le_refl _
   .omega
  omega
theorem acy{t:List Atom}{b:Blk}(i:Nat)(hi:i<=b.ops.length):(SW t b i).evs.length<=i:=by
 have:=VU t (b.ops.take i) (s0 t);rw [List.length_take,Nat.min_eq_left hi]at this;show((b.ops.take i).foldl stp (s0 t)).evs.length<=i;have e:(s0 t).evs.length=0:=rfl;omega
def VW{t:List Atom}{b:Blk}{i:Nat}(hi:i<b.ops.length):SW t b (i+1)=stp (SW t b i) (b.ops.getD i default):=by
 unfold SW;rw [SG _ _ hi,getD_lt hi]
def At.next{t:List Atom}{b:Blk}{i:Nat}{ld inn:Int}{tb:List Atom}{V:List (List aj)}{ev:List Ev}{rg:List (List aj)}(h:At t b i ld inn tb V ev rg)(hv:(SW t b i).vals.length=i)(hi:i<b.ops.length){o:IOp}(ho:b.ops.getD i default=o)
  {ld' acz:Int} {tb':List Atom} {V':List (List aj)} {ev':List Ev} {rg':List (List aj)} (h1:ld'=if o.kind=4 then ld+1 else ld) (h2:acz=if o.kind=6 then inn+1 else inn) (h3:tb'=nT (SW t b i) o) (h4:V'=V.set i (nV (SW t b i) o)) (h5:ev'=nE (SW t b i) o) (h6:rg'=nR (SW t b i) o):At t b (i+1) ld' acz tb' V' ev' rg':=by
 have e:=VW (t:=t) hi;rw [ho]at e;refine⟨?_,?_,?_,?_,?_,?_⟩<;>rw [e]
 .rw [h1,h.ld];rfl
 .rw [h2,h.inn];rfl
 .exact h3
 .rw [h4,h.V];show _=((SW t b i).vals++ [nV (SW t b i) o])++_;rw [List.set_append_right _ _ ah,hv,Nat.sub_self,show b.ops.length-i=(b.ops.length- (i+1))+1 by omega,List.replicate_succ,List.set_cons_zero,List.append_assoc];rfl
 .exact h5
 .exact h6
structure Y60(pp:Blk×Unit->Bool)(ff:Blk×Unit->Bool×Unit):Prop where
 hp:∀b,b.ops.length<1000000000->pp (b,())=true
 hf:∀b,b.ops.length<1000000000->ff (b,())=(bp (eP b),())
structure Y61(pp:IOp×Unit->Bool)(ff:IOp×Unit->Bool×Unit):Prop where
 hp:∀o,pp (o,())=true
 hf:∀o,ff (o,())=(decide (evO o),())
structure Y62(pp:Sym×Int×Unit->Bool)(ff:Sym×Int×Unit->Sym×Unit):Prop where
 hp:∀s n,ShY s->0<=s.fin->s.fin<=4->pp (s,n,())=true
 hf:∀s n,ShY s->0<=s.fin->s.fin<=4->ff (s,n,())=(symEnd s n,())
set_option maxHeartbeats 1000000 in
theorem arx{p1 f1 p2 f2 p3 f3 p4 f4 p5 f5 p6 f6 p7 f7 p8 f8 p9 f9 p10 f10 p11 f11}(U1:Y54 p1 f1)(U2:Y60 p2 f2)(U3:Y61 p3 f3)(U4:Y53 p4 f4)(U5:Y22 p5 f5)(U6:Y62 p6 f6)(U7:Y29 p7 f7)(U8:Y31 p8 f8)(U9:Y30 p9 f9)(U10:Y57 p10 f10)(U11:Y58 p11 f11){p12:List (List aj)×Unit->Bool}{f12:List (List aj)×Unit->List (List aj)×List (List aj)×Unit}(J2:∀a:List (List aj),0<a.length->a.length<1000000000->p12 (a,())=true)(J3:∀a:List (List aj),0<a.length->a.length<1000000000->f12 (a,())=(a,a,()))(t:List Atom)(b:Blk)(ht:ShT t)(hb:b.ops.length<1000000000):abu.F (p1,f1,p2,f2,p3,f3,p4,f4,p5,f5,p6,f6,p7,f7,p8,f8,p9,f9,p10,f10,p11,f11,p12,f12,()) (t,b,()) (λy=>y=((bq t b).1,(bq t b).2,())):=by
 obtain⟨hp1,hf1⟩:=U1;obtain⟨hp2,hf2⟩:=U2;obtain⟨hp3,hf3⟩:=U3;obtain⟨hp4,hf4⟩:=U4;obtain⟨hp5,hf5⟩:=U5;obtain⟨hp6,hf6⟩:=U6;obtain⟨hp7,hf7⟩:=U7;obtain⟨hp8,hf8⟩:=U8;obtain⟨hp9,hf9⟩:=U9;obtain⟨XC,acA⟩:=U10;obtain⟨XD,XE⟩:=U11;have hlt:=ht.1;dsimp only [abu,gm];simp (disch:=omega) only [RR,RB,hp7 t ht,hf7 t ht,hp2 b hb,hf2 b hb];by_cases c:aC t/\t.length<=100/\eP b
 case neg=>
  refine⟨λ_=> ?_,λh=> ?_⟩
  .unfold bq;rw [bP c];rfl
  .exact absurd ⟨aQ.1 h.1.1,ah,aQ.1 h.2⟩ c
 obtain⟨c1,c2,c3⟩:=c;simp (disch:=omega) only [RR,aV c1,aV c3,XD t false c1 ah,XE t false c1 ah];have sz:=c3.sz;have hop:=c3.op;have hk3:=c3.k3;have i0:=CZ c1 ah;have siw:∀j:Nat,j<=b.ops.length->SI (t.length+4) j (SW t b j):=λj hj=>by
  have:=(oQ (b.ops.take j) 0 (s0 t) i0 (λo ho=>hk3 o (List.mem_of_mem_take ho)) (by rw [List.length_take];omega) (by rw [List.length_take];omega)).1;rw [List.length_take,Nat.min_eq_left hj,Nat.zero_add]at this;exact this
 refine⟨λh=>absurd h ah,λ_=>⟨ah,ah,?_⟩⟩
 refine ak (λ(y:Int×Int×List IOp×Int×Int×Blk×Int×Int×List Atom×Bool×Int×Int×List (List aj)×List Ev×List (List aj)×Unit)=>y.2.2.2.2.2.1=b/\y.2.2.1=b.ops/\y.2.2.2.1=b.ops.length/\y.2.2.2.2.2.2.2.2.2.1=false/\y.2.2.2.2.2.2.2.2.2.2.1=b.fin/\y.2.2.2.2.2.2.2.2.2.2.2.1=b.k/\
   0<=y.2.2.2.2.1/\y.2.2.2.2.1<=b.ops.length/\At t b y.2.2.2.2.1.toNat y.1 y.2.1 y.2.2.2.2.2.2.2.2.1 y.2.2.2.2.2.2.2.2.2.2.2.2.1 y.2.2.2.2.2.2.2.2.2.2.2.2.2.1 y.2.2.2.2.2.2.2.2.2.2.2.2.2.2.1) (λy=>(b.ops.length-y.2.2.2.2.1).toNat)
  ⟨rfl,rfl,rfl,rfl,rfl,rfl,by simp,by simp,⟨rfl,rfl,rfl,rfl,rfl,rfl⟩⟩ ?_
 rintro⟨(ld:Int),(inn:Int),(ops:List IOp),(n:Int),(i:Int),(b':Blk),(z1:Int),(z2:Int),(tb:List Atom),(fl:Bool),(fin:Int),(kk:Int),(V:List (List aj)),(ev:List Ev),(rg:List (List aj)),⟨⟩⟩ hI;dsimp only at hI ⊢;obtain⟨e1,e2,e3,e4,e5,e6,h1,h2,hA⟩:=hI;subst e1 e2 e3 e4 e5 e6;have hl:V.length=b'.ops.length:=hA.auw (siw i.toNat ah).vl ah;have si:=siw i.toNat ah;obtain⟨a1,a2,a3,a4,a5,a6⟩:=hA;have tl:tb.length<1000000000:=by rw [a3];have:=si.tl;omega
 have r4:rg.length=4:=by rw [a6];exact si.r4
 have evl:ev.length<=i.toNat:=by rw [a5];exact acy i.toNat ah
 by_cases h7:i<b'.ops.length
 case neg=>
  have en:=c3.en;have hf:=en.f;have hpc:=c3.pc;have hln:=c3.ln;have ein:i.toNat=b'.ops.length:=by omega
  have eS:SW t b' i.toNat=dK t b':=by unfold SW dK;rw [ein,List.take_of_length_le (Nat.le_refl _)]
  rw [eS]at a1 a2 a3 a4 a5 a6 si;have eV:V=(dK t b').vals:=by rw [a4,ein,Nat.sub_self];simp
  clear a4
  have pk:=Ae (b:=b') si;have eR:=qR c1 c2 c3;have sh:ShY (mP b' (dK t b')):=by
   have i0:=CZ c1 ah;have hs:=JU b'.ops 0 (s0 t) i0 hk3 ah ah ⟨by simp [s0],λe he=>absurd he (by simp [s0])⟩;exact⟨⟨by have:=hs.1;show(b'.ops.foldl stp (s0 t)).evs.length<_;omega,hs.2⟩,si.regs,pk.1.sh,pk.2.sh⟩
  have st:=si.tok.sh;have q6:=hp6 (mP b' (dK t b')) (b'.pc+b'.len) sh (by show 0<=b'.fin;omega) hf.2;have r6:=hf6 (mP b' (dK t b')) (b'.pc+b'.len) sh (by show 0<=b'.fin;omega) hf.2;subst a1 a2 a3 a5 a6 eV;have x1:=en.x1;have y1:=en.y1;have sl:=si.vl;have E:mP b' (dK t b')=⟨(dK t b').evs,(dK t b').regs,b'.fin,if b'.fin=1 then []else(((dK t b').vals).getD (b'.x).toNat default),if 3<=b'.fin then(((dK t b').vals).getD (b'.y).toNat default)else [],b'.k⟩:=rfl;rw [E]at q6 r6;rcases(by omega:b'.fin=1\/b'.fin=2\/3<=b'.fin)with c | c | c
  .have n2:¬3<=b'.fin:=by omega
   rw [if_pos c,if_neg n2]at q6 r6;simp (disch:=omega) only [RR,RB,h7,hp1,hf1,decide_eq_false n2,c,ne_eq,not_true_eq_false,decide_false,hp8 _ st,hf8 _ st];rw [c]at q6 r6;rw [eR,E,if_pos c,if_neg n2,c];exact⟨λh=>absurd h ah,λ_=>⟨q6,by rw [r6]⟩⟩
  .have n1:b'.fin≠1:=by omega
   have n2:¬3<=b'.fin:=by omega
   obtain⟨v1,v2,_⟩:=x1 n1;rw [if_neg n1,if_neg n2]at q6 r6;simp (disch:=omega) only [RR,RB,h7,hp1,hf1,decide_eq_true n1,decide_eq_false n2,hp8 _ st,hf8 _ st];rw [eR,E,if_neg n1,if_neg n2];exact⟨v1,ah,v1,ah,q6,by rw [r6]⟩
  .have n1:b'.fin≠1:=by omega
   obtain⟨v1,v2,_⟩:=x1 n1;obtain⟨w1,w2,_⟩:=y1 c;rw [if_neg n1,if_pos c]at q6 r6;simp (disch:=omega) only [RR,RB,h7,hp1,hf1,decide_eq_true n1,decide_eq_true c,hp8 _ st,hf8 _ st];rw [eR,E,if_neg n1,if_pos c];exact⟨v1,ah,v1,ah,w1,ah,w1,ah,q6,by rw [r6]⟩
 have hok:=hop i h1 h7;have nxt:=λ{ld' acz:Int} {tb':List Atom} {V':List (List aj)} {ev':List Ev} {rg':List (List aj)}=>At.next (t:=t) (b:=b') (i:=i.toNat) (o:=((b'.ops).getD (i).toNat default)) ⟨a1,a2,a3,a4,a5,a6⟩ si.vl ah rfl (ld':=ld') (acz:=acz) (tb':=tb') (V':=V') (ev':=ev') (rg':=rg')
 have ei:(i+1).toNat=i.toNat+1:=by omega
 have vx:∀j:Int,0<=j->j<i->((V).getD (j).toNat default)=(((SW t b' i.toNat).vals).getD (j).toNat default):=λj j1 j2=>by
  have:=si.vl;rw [a4,getD_lt (by rw [List.length_append];omega),getD_lt ah,List.getElem_append_left]
 have ex:hX ((b'.ops).getD (i).toNat default)->((V).getD ((((b'.ops).getD (i).toNat default)).x).toNat default)=xOf (SW t b' i.toNat) ((b'.ops).getD (i).toNat default):=λh=>by
  unfold xOf;rw [if_pos h];exact vx _ (hok.x1 h).1 (hok.x1 h).2.1
 have ey:hY ((b'.ops).getD (i).toNat default)->((V).getD ((((b'.ops).getD (i).toNat default)).y).toNat default)=yOf (SW t b' i.toNat) ((b'.ops).getD (i).toNat default):=λh=>by
  unfold yOf;rw [if_pos h];exact vx _ (hok.y1 h).1 (hok.y1 h).2.1
 have v0:V.set i.toNat []=V:=by
  have:=si.vl;rw [a4,List.set_append_right _ _ ah,this,Nat.sub_self,show b'.ops.length-i.toNat=(b'.ops.length- (i.toNat+1))+1 by omega,List.replicate_succ,List.set_cons_zero]
 obtain⟨sn,so⟩:=nL (o:=((b'.ops).getD (i).toNat default)) si hok.k3 ah ah;have gl:=si.ld;have gi:=si.inn;have shx:=(si.x ((b'.ops).getD (i).toNat default)).1.sh;have shy:=(si.y ((b'.ops).getD (i).toNat default)).1.sh;generalize hs:SW t b' i.toNat=s at*;generalize ho:((b'.ops).getD (i).toNat default)=o at*;have kd:=hok.kd;subst a1 a2 a3 a5 a6;have L0:o.kind≠4->s.ld=if o.kind=4 then s.ld+1 else s.ld:=λh=>by rw [if_neg h]
 have I0:o.kind≠6->s.inn=if o.kind=6 then s.inn+1 else s.inn:=λh=>by rw [if_neg h]
 have T0:o.kind≠3->o.kind≠4->o.kind≠6->s.t=nT s o:=λh3 h4 h6=>by unfold nT;rw [if_neg h3,if_neg ah]
 have R0:o.kind≠8->s.regs=nR s o:=λh=>by unfold nR;rw [if_neg h]
 have E0:¬evO o->s.evs=nE s o:=λh=>by unfold nE;rw [if_neg h]
 have V0:o.kind=5\/o.kind=7\/o.kind=8->V=V.set i.toNat (nV s o):=λh=>by
  rw [show nV s o=[] by unfold nV;rw [if_neg ah,if_neg ah,if_neg ah,if_neg ah],v0]
 have P0:∀kd k,0<=(aI s.t ⟨kd,k,[],[]⟩).2->f10 (kd,k,s.t,false,())=(bQ (aI s.t ⟨kd,k,[],[]⟩).2,(aI s.t ⟨kd,k,[],[]⟩).1,false,()):=λkd k h=>by
  rw [acA _ _ _ _ tl,if_neg ah]
 have y0:¬hY o->yOf s o=[]:=λh=>by unfold yOf;rw [if_neg h]
 have x0:¬hX o->xOf s o=[]:=λh=>by unfold xOf;rw [if_neg h]
 rcases(by omega:o.kind=1\/o.kind=2\/o.kind=3\/o.kind=4\/o.kind=5\/o.kind=6\/o.kind=7\/o.kind=8)with c | c | c | c | c | c | c | c
 .have dX:decide (hX o)=false:=decide_eq_false (by unfold hX;omega);have dY:decide (hY o)=false:=decide_eq_false (by unfold hY;omega);have dE:decide (evO o)=false:=decide_eq_false (by unfold evO;omega);have N:At t b' (i.toNat+1) s.ld s.inn s.t (V.set i.toNat (bK o.k)) s.evs s.regs:=nxt (L0 ah) (I0 ah) (T0 ah ah ah) (by unfold nV;rw [if_pos c]) (E0 (by unfold evO;omega)) (R0 ah);simp (disch:=omega) only [RR,RB,ho,h7,hp4,hf4,hp3,hf3,dX,dY,dE,c,Int.reduceEq,List.length_cons,List.length_nil,hp5,hf5]
  repeat' apply And.intro
  all_goals first | omega | (rw [ei];exact N)
 .have dX:decide (hX o)=false:=decide_eq_false (by unfold hX;omega);have dY:decide (hY o)=false:=decide_eq_false (by unfold hY;omega);have dE:decide (evO o)=false:=decide_eq_false (by unfold evO;omega);have k2:=hok.k2 (Or.inl c);have N:At t b' (i.toNat+1) s.ld s.inn s.t (V.set i.toNat ((s.regs).getD (o.k).toNat default)) s.evs s.regs:=nxt (L0 ah) (I0 ah) (T0 ah ah ah) (by unfold nV;rw [if_neg ah,if_pos c]) (E0 (by unfold evO;omega)) (R0 ah);simp (disch:=omega) only [RR,RB,ho,h7,hp4,hf4,hp3,hf3,dX,dY,dE,c,Int.reduceEq,List.length_cons,List.length_nil,r4]
  repeat' apply And.intro
  all_goals first | omega | (rw [ei];exact N)
 .have dX:decide (hX o)=true:=decide_eq_true (by unfold hX;omega);have dY:decide (hY o)=true:=decide_eq_true (by unfold hY;omega);have dE:decide (evO o)=false:=decide_eq_false (by unfold evO;omega);have v1:=hok.x1 (by unfold hX;omega);have v2:=hok.y1 (by unfold hY;omega);have u1:=v1.2.1;have u2:=v2.2.1;have w1:=v1.1;have w2:=v2.1;obtain⟨d1,d2,d3⟩:=hf9 s.t o.k _ _ tl shx shy;have d4:=(so.d c).ok;have N:At t b' (i.toNat+1) s.ld s.inn (tDo s.t o.k (xOf s o) (yOf s o)).1 (V.set i.toNat (tDo s.t o.k (xOf s o) (yOf s o)).2) s.evs s.regs:=nxt (L0 ah) (I0 ah) (by unfold nT;rw [if_pos c]) (by unfold nV;rw [if_neg ah,if_neg ah,if_pos c]) (E0 (by unfold evO;omega)) (R0 ah);simp (disch:=omega) only [RR,RB,ho,h7,hp4,hf4,hp3,hf3,dX,dY,dE,c,Int.reduceEq,List.length_cons,List.length_nil,ex (by unfold hX;omega),ey (by unfold hY;omega),hp9 s.t o.k _ _ tl shx shy,d1,d2,d3,d4]
  repeat' apply And.intro
  all_goals first | omega | (rw [ei];exact N)
 .have dX:decide (hX o)=true:=decide_eq_true (by unfold hX;omega);have dY:decide (hY o)=false:=decide_eq_false (by unfold hY;omega);have dE:decide (evO o)=true:=decide_eq_true (by unfold evO;omega);have v1:=hok.x1 (by unfold hX;omega);have u1:=v1.2.1;have w1:=v1.1;have ea:aOf s o=⟨2,s.ld,[],[]⟩:=by unfold aOf;rw [if_pos c]
  have pp:=so.p (Or.inl c);rw [ea]at pp;have N:At t b' (i.toNat+1) (s.ld+1) s.inn (aI s.t ⟨2,s.ld,[],[]⟩).1 (V.set i.toNat (bQ (aI s.t ⟨2,s.ld,[],[]⟩).2)) (s.evs++ [⟨4,o.at_,xOf s o,[],s.regs⟩]) s.regs:=nxt (by rw [if_pos c]) (I0 ah) (by unfold nT;rw [if_neg ah,if_pos (Or.inl c),ea]) (by unfold nV;rw [if_neg ah,if_neg ah,if_neg ah,if_pos (Or.inl c),ea]) (by unfold nE;rw [if_pos (by unfold evO;omega),if_pos (Or.inl c),c,y0 (by unfold hY;omega)]) (R0 ah);simp (disch:=omega) only [RR,RB,ho,h7,hp4,hf4,hp3,hf3,dX,dY,dE,c,Int.reduceEq,List.length_cons,List.length_nil,ex (by unfold hX;omega),J2 s.regs ah ah,J3 s.regs ah ah,XC 2 s.ld s.t false tl,P0 2 s.ld pp]
  repeat' apply And.intro
  all_goals first | omega | (rw [ei];exact N)
 .have dX:decide (hX o)=true:=decide_eq_true (by unfold hX;omega);have dY:decide (hY o)=true:=decide_eq_true (by unfold hY;omega);have dE:decide (evO o)=true:=decide_eq_true (by unfold evO;omega);have v1:=hok.x1 (by unfold hX;omega);have v2:=hok.y1 (by unfold hY;omega);have u1:=v1.2.1;have u2:=v2.2.1;have w1:=v1.1;have w2:=v2.1;have N:At t b' (i.toNat+1) s.ld s.inn s.t V (s.evs++ [⟨5,o.at_,xOf s o,yOf s o,s.regs⟩]) s.regs:=nxt (L0 ah) (I0 ah) (T0 ah ah ah) (V0 ah) (by unfold nE;rw [if_pos (by unfold evO;omega),if_pos (Or.inr c),c]) (R0 ah);simp (disch:=omega) only [RR,RB,ho,h7,hp4,hf4,hp3,hf3,dX,dY,dE,c,Int.reduceEq,List.length_cons,List.length_nil,ex (by unfold hX;omega),ey (by unfold hY;omega),J2 s.regs ah ah,J3 s.regs ah ah]
  repeat' apply And.intro
  all_goals first | omega | (rw [ei];exact N)
 .have dX:decide (hX o)=false:=decide_eq_false (by unfold hX;omega);have dY:decide (hY o)=false:=decide_eq_false (by unfold hY;omega);have dE:decide (evO o)=true:=decide_eq_true (by unfold evO;omega);have ea:aOf s o=⟨3,s.inn,[],[]⟩:=by unfold aOf;rw [if_neg ah]
  have pp:=so.p (Or.inr c);rw [ea]at pp;have N:At t b' (i.toNat+1) s.ld (s.inn+1) (aI s.t ⟨3,s.inn,[],[]⟩).1 (V.set i.toNat (bQ (aI s.t ⟨3,s.inn,[],[]⟩).2)) (s.evs++ [⟨6,o.at_,[],[],[]⟩]) s.regs:=nxt (L0 ah) (by rw [if_pos c]) (by unfold nT;rw [if_neg ah,if_pos (Or.inr c),ea]) (by unfold nV;rw [if_neg ah,if_neg ah,if_neg ah,if_pos (Or.inr c),ea]) (by unfold nE;rw [if_pos (by unfold evO;omega),if_neg ah,c,x0 (by unfold hX;omega),y0 (by unfold hY;omega)]) (R0 ah);simp (disch:=omega) only [RR,RB,ho,h7,hp4,hf4,hp3,hf3,dX,dY,dE,c,Int.reduceEq,List.length_cons,List.length_nil,XC 3 s.inn s.t false tl,P0 3 s.inn pp]
  repeat' apply And.intro
  all_goals first | omega | (rw [ei];exact N)
 .have dX:decide (hX o)=true:=decide_eq_true (by unfold hX;omega);have dY:decide (hY o)=false:=decide_eq_false (by unfold hY;omega);have dE:decide (evO o)=true:=decide_eq_true (by unfold evO;omega);have v1:=hok.x1 (by unfold hX;omega);have u1:=v1.2.1;have w1:=v1.1;have N:At t b' (i.toNat+1) s.ld s.inn s.t V (s.evs++ [⟨7,o.at_,xOf s o,[],[]⟩]) s.regs:=nxt (L0 ah) (I0 ah) (T0 ah ah ah) (V0 ah) (by unfold nE;rw [if_pos (by unfold evO;omega),if_neg ah,c,y0 (by unfold hY;omega)]) (R0 ah);simp (disch:=omega) only [RR,RB,ho,h7,hp4,hf4,hp3,hf3,dX,dY,dE,c,Int.reduceEq,List.length_cons,List.length_nil,ex (by unfold hX;omega)]
  repeat' apply And.intro
  all_goals first | omega | (rw [ei];exact N)
 .have dX:decide (hX o)=true:=decide_eq_true (by unfold hX;omega);have dY:decide (hY o)=false:=decide_eq_false (by unfold hY;omega);have dE:decide (evO o)=false:=decide_eq_false (by unfold evO;omega);have v1:=hok.x1 (by unfold hX;omega);have u1:=v1.2.1;have w1:=v1.1;have k2:=hok.k2 (Or.inr c);have N:At t b' (i.toNat+1) s.ld s.inn s.t V s.evs (s.regs.set o.k.toNat (xOf s o)):=nxt (L0 ah) (I0 ah) (T0 ah ah ah) (V0 ah) (E0 (by unfold evO;omega)) (by unfold nR;rw [if_pos c]);simp (disch:=omega) only [RR,RB,ho,h7,hp4,hf4,hp3,hf3,dX,dY,dE,c,Int.reduceEq,List.length_cons,List.length_nil,ex (by unfold hX;omega),r4]
  repeat' apply And.intro
  all_goals first | omega | (rw [ei];exact N)
structure Y63(pp:Ins×Unit->Bool)(ff:Ins×Unit->Bool×Unit):Prop where
 hp:∀i,pp (i,())=true
structure Y64(pp:Int×Unit->Bool)(ff:Int×Unit->Bool×Unit):Prop where
 hp:∀i,pp (i,())=true
structure Y65(pp:Int×Int×Int×Int×Int×Int×IOp×List IOp×Unit->Bool)(ff:Int×Int×Int×Int×Int×Int×IOp×List IOp×Unit->Int×Int×Int×Int×Int×Int×Int×List IOp×Unit):Prop where
 hp:∀a1 a2 a3 a4 a5 a6 o ops,(ops.length:Int)<1000000->pp (a1,a2,a3,a4,a5,a6,o,ops,())=true
 hf:∀a1 a2 a3 a4 a5 a6 o ops,(ops.length:Int)<1000000->((ff (a1,a2,a3,a4,a5,a6,o,ops,())).2.2.2.2.2.2.2.1.length:Int)=ops.length+1
structure Y66(pp:Int×Int×Int×Int×Int×Int×Int×List IOp×Unit->Bool)(ff:Int×Int×Int×Int×Int×Int×Int×List IOp×Unit->Int×Int×Int×Int×Int×Int×Int×List IOp×Unit):Prop where
 hp:∀a1 a2 a3 a4 a5 a6 k ops,(ops.length:Int)<1000000->pp (a1,a2,a3,a4,a5,a6,k,ops,())=true
 hf:∀a1 a2 a3 a4 a5 a6 k ops,(ops.length:Int)<1000000->((ff (a1,a2,a3,a4,a5,a6,k,ops,())).2.2.2.2.2.2.2.1.length:Int)=ops.length+1
structure Y67(pp:Int×Int×Int×Int×Int×Int×Int×Int×IOp×List IOp×Unit->Bool)(ff:Int×Int×Int×Int×Int×Int×Int×Int×IOp×List IOp×Unit->Int×Int×Int×Int×Int×Int×Int×List IOp×Unit):Prop where
 hp:∀a1 a2 a3 a4 a5 a6 k a o ops,(ops.length:Int)<999000->pp (a1,a2,a3,a4,a5,a6,k,a,o,ops,())=true
 hf:∀a1 a2 a3 a4 a5 a6 k a o ops,(ops.length:Int)<999000->((ff (a1,a2,a3,a4,a5,a6,k,a,o,ops,())).2.2.2.2.2.2.2.1.length:Int)=ops.length+3
structure Y68(pp:Int×Int×Int×Int×Int×Int×Int×Int×List IOp×Unit->Bool)(ff:Int×Int×Int×Int×Int×Int×Int×Int×List IOp×Unit->Int×Int×Int×Int×Int×Int×List IOp×Unit):Prop where
 hp:∀a1 a2 a3 a4 a5 a6 k x ops,(ops.length:Int)<1000000->pp (a1,a2,a3,a4,a5,a6,k,x,ops,())=true
 hf:∀a1 a2 a3 a4 a5 a6 k x ops,(ops.length:Int)<1000000->((ff (a1,a2,a3,a4,a5,a6,k,x,ops,())).2.2.2.2.2.2.1.length:Int)=ops.length+1
def KB(l:List Ins):Prop:=∀i∈l,i.k<1000
def KB.at{l:List Ins}(h:KB l)(n:Nat):(l.getD n default).k<1000:=by
 by_cases h1:n<l.length
 .rw [getD_lt h1];exact h _ (List.getElem_mem _)
 .simp only [List.getD,List.getElem?_eq_none (by omega:l.length<=n)];decide
structure Y69(pp:Int×List Ins×Unit->Bool)(ff:Int×List Ins×Unit->Bool×Unit):Prop where
 hp:∀pc l,(l.length:Int)<1000->pp (pc,l,())=true
structure InD(m:Int)(b:List Int)(p:Int)(y:Int×Int×Int×Int×List Int×Int×Unit):Prop where
 b:y.2.2.2.2.1=b
 lo:p<=y.2.2.2.2.2.1
 hi:y.2.2.2.2.2.1<=p+m
 k:0<=y.2.2.2.1/\y.2.2.2.1<=255
abbrev alL : List Int -> Prop
 | []=>True
 | x::l=>(0<=x/\x<=255)/\alL l
def MK:∀(l:List Int) (n:Nat),alL l->0<=l.getD n default/\l.getD n default<=255
 | [],n,_=>by simp only [List.getD_nil];decide
 | x::l,0,h=>h.1
 | x::l,n+1,h=>MK l n h.2
def pkR{f1:Int×List Int×Int×Unit->Int×List Int×Int×Unit}{b:List Int}(hb:Bt b)(hf1:∀n b p,Bt b->0<=p->p<1000000000->Pk n b p (f1 (n,b,p,()))):
  (∀n p,0<=p->p<1000000000->(f1 (n,b,p,())).2.1=b)/\(∀n p,0<=p->p<1000000000->(f1 (n,b,p,())).2.2.1=p+1)/\
  (∀n p,0<=p->p<1000000000->(0<=(f1 (n,b,p,())).1)=True)/\(∀n p k,0<=p->p<1000000000->n<=k->0<k->((f1 (n,b,p,())).1<k)=True)/\
  (∀n p k,0<=p->p<1000000000->n<=k+1->0<=k->((f1 (n,b,p,())).1<=k)=True):=
 ⟨λn p h1 h2=>(hf1 n b p hb h1 h2).1,λn p h1 h2=>(hf1 n b p hb h1 h2).2.1,λn p h1 h2=>eq_true (hf1 n b p hb h1 h2).2.2.1,
  λn p k h1 h2 h3 h4=>eq_true (by have:=(hf1 n b p hb h1 h2).2.2;omega),λn p k h1 h2 h3 h4=>eq_true (by have:=(hf1 n b p hb h1 h2).2.2;omega)⟩
def alM{p1 f1}(U1:Y38 p1 f1)(b:List Int)(p:Int)(hb:Bt b)(h1:0<=p)(h2:p<900000000):PN.F (p1,f1,()) (b,p,()) (λy=>InD 20 b p y):=by
 have R:=pkR hb U1.hf;have P:=λn p h1 h2=>U1.hp n b p hb h1 h2
 dsimp only [PN,gm];simp (disch:=omega) only [RR,R,P,List.length_cons,List.length_nil]
 repeat' (first | (refine⟨?_,?_⟩) | intro _)
 all_goals try omega
 all_goals refine⟨rfl,by dsimp only;omega,by dsimp only;omega,?_⟩
 all_goals dsimp only
 all_goals first | omega | (refine MK _ _ ?_;simp (disch:=omega) only [alL,R,Int.reduceLE,and_self,true_and,and_true]) | (simp (disch:=omega) only [R,Int.reduceLE,and_self,true_and,and_true])
structure Y70(pp:List Int×Int×Unit->Bool)(ff:List Int×Int×Unit->Int×Int×Int×Int×List Int×Int×Unit):Prop where
 hp:∀b p,Bt b->0<=p->p<900000000->pp (b,p,())=true
 hf:∀b p,Bt b->0<=p->p<900000000->InD 20 b p (ff (b,p,()))
def alN{p1 f1 p2 f2 p3 f3}(U1:Y70 p1 f1)(U2:Y38 p2 f2)(U3:Y63 p3 f3)(b:List Int)(p:Int)(hb:Bt b)(h1:0<=p)(h2:p<800000000):PO.F (p1,f1,p2,f2,p3,f3,()) (b,p,()) (λy=>InD 30 b p y):=by
 obtain⟨a1,a2,a3,a4⟩:=U1.hf b p hb h1 ah;have R:=pkR hb U2.hf;have P:=λn p h1 h2=>U2.hp n b p hb h1 h2
 dsimp only [PO,gm];simp (disch:=omega) only [RR,U1.hp b p hb h1 ah,U3.hp,a1,R,P];refine⟨λ_=>⟨rfl,by dsimp only;omega,by dsimp only;omega,?_⟩,λ_=>⟨rfl,a2,by dsimp only;omega,a4⟩⟩;dsimp only;simp (disch:=omega) only [R,Int.reduceLE,and_self]
structure LiD(b:List Int)(p:Int)(y:List Int×Int×List Ins×Unit):Prop where
 b:y.1=b
 lo:p<=y.2.1
 hi:y.2.1<=p+1000
 len:(y.2.2.1.length:Int)<=20
 k:KB y.2.2.1
 l1:1<=y.2.2.1.length
def KB.app{l:List Ins}{i:Ins}(h:KB l)(h2:i.k<=255):KB (l++ [i]):=λx hx=>by
 rw [List.mem_append,List.mem_singleton]at hx;rcases hx with hx | rfl
 .exact h x hx
 .omega
structure Y71(pp:List Int×Int×Unit->Bool)(ff:List Int×Int×Unit->Int×Int×Int×Int×List Int×Int×Unit):Prop where
 hp:∀b p,Bt b->0<=p->p<800000000->pp (b,p,())=true
 hf:∀b p,Bt b->0<=p->p<800000000->InD 30 b p (ff (b,p,()))
def alO{p1 f1 p2 f2}(U1:Y71 p1 f1)(U2:Y38 p2 f2)(b:List Int)(p:Int)(hb:Bt b)(h1:0<=p)(h2:p<700000000):PU.F (p1,f1,p2,f2,()) (b,p,()) (λy=>LiD b p y):=by
 obtain⟨e1,e2,e3,e4⟩:=U2.hf 8 b p hb h1 ah;dsimp only [PU,gm];simp (disch:=omega) only [RR,U2.hp 8 b p hb h1 ah,e1,e2]
 refine ak (λ(y:Int×List Int×Int×List Ins×Unit)=>0<=y.1/\y.1<=8/\y.2.1=b/\p<=y.2.2.1/\y.2.2.1+40*y.1<=p+400/\(y.2.2.2.1.length:Int)+y.1<=8/\KB y.2.2.2.1) (λy=>y.1.toNat)
  ⟨e3,by dsimp only;omega,rfl,by dsimp only;omega,by dsimp only;omega,by dsimp only [List.length_nil];omega,λx hx=>by cases hx⟩ ?_
 rintro⟨(k:Int),(b':List Int),(q:Int),(l:List Ins),⟨⟩⟩ hI;dsimp only at hI ⊢;obtain⟨k1,k2,rfl,k3,k4,k5,k6⟩:=hI;have R:=pkR hb U2.hf;have P:=λn p h1 h2=>U2.hp n b' p hb h1 h2
 obtain⟨a1,a2,a3,a4⟩:=U1.hf b' q hb ah ah;obtain⟨b1,b2,b3,b4⟩:=U1.hf b' (q+1) hb ah ah;simp (disch:=omega) only [RR,RB,U1.hp b' q hb ah ah,U1.hp b' (q+1) hb ah ah,a1,b1,R,P,List.length_cons,List.length_nil,List.length_append];refine⟨λc=>⟨ah,⟨ah,ah,ah,ah,ah,k6.app a4.2⟩,ah⟩,λc=>⟨λ_=>⟨ah,rfl,by dsimp only;omega,by dsimp only;omega,?_,?_,?_⟩,λ_=>⟨λ_=>⟨ah,rfl,by dsimp only;omega,by dsimp only;omega,?_,?_,?_⟩,λ_=>⟨ah,rfl,by dsimp only;omega,by dsimp only;omega,?_,?_,?_⟩⟩⟩⟩
 .dsimp only;rw [List.length_append];simp only [List.length_cons,List.length_nil];omega
 .refine k6.app ?_;dsimp only;simp (disch:=omega) only [R]
 .dsimp only;rw [List.length_append];simp only [List.length_cons,List.length_nil];omega
 .dsimp only;rw [List.length_append];simp only [List.length_cons,List.length_nil];omega
 .exact k6.app (by dsimp only;omega)
 .dsimp only;rw [List.length_append];simp only [List.length_cons,List.length_nil];omega
 .dsimp only;rw [List.length_append];simp only [List.length_cons,List.length_nil];omega
 .exact k6.app b4.2
 .dsimp only;rw [List.length_append];simp only [List.length_cons,List.length_nil];omega
def acB(b:Blk)(hb:b.ops.length<1000000):PD.F () (b,()) (λy=>y=(b.pc,b.len,b.fin,b.x,b.y,b.k,b.ops,())):=by
 dsimp only [PD,gm];simp (disch:=omega) only [RR,RB,List.nil_append,List.length_nil];omega
def kn(ops:List IOp)(k:Int):Int×Bool:=if 0<=k/\k<ops.length/\(((ops).getD (k).toNat default)).kind=1 then((((ops).getD (k).toNat default)).k,true)else(0,false)
abbrev bk7(b : Blk) : Int × Int × Int × Int × Int × Int × List IOp × Unit := (b.pc, b.len, b.fin, b.x, b.y, b.k, b.ops, ())
structure FE(b:Blk):Prop where
 f:1<=b.fin/\b.fin<=4
 x:b.fin≠1->0<=b.x/\b.x<b.ops.length
 y:3<=b.fin->0<=b.y/\b.y<b.ops.length
 y0:b.fin<=2->b.y=0
 p:0<=b.pc/\b.pc<=100/\0<=b.len/\b.len<=100
def acC(ops:List IOp)(k:Int):Qn.F () (ops,k,()) (λy=>y=((kn ops k).1,(kn ops k).2,())):=by
 dsimp only [Qn,gm];simp (disch:=omega) only [RR,RB];unfold kn;refine⟨ah,ah,λh=> ?_,λh=>⟨ah,ah,?_⟩⟩
 .rw [if_neg ah]
 .rw [if_pos ah]
def acD(b:Blk)(k:Int):Qo.F () (b,k,()) (λy=>y=(b.pc,b.len,b.ops,1,0,0,k,())):=by
 dsimp only [Qo,gm];simp (disch:=omega) only [RR,RB]
structure Y72(pp:List IOp×Int×Unit->Bool)(ff:List IOp×Int×Unit->Int×Bool×Unit):Prop where
 hp:∀ops k,pp (ops,k,())=true
 hf:∀ops k,ff (ops,k,())=((kn ops k).1,(kn ops k).2,())
theorem alP{p2 f2}{p1:Blk×Int×Unit->Bool}{f1:Blk×Int×Unit->Int×Int×List IOp×Int×Int×Int×Int×Unit}(hp1:∀b k,p1 (b,k,())=true)(hf1:∀b k,f1 (b,k,())=(b.pc,b.len,b.ops,1,0,0,k,()))(U2:Y72 p2 f2)(b:Blk)(h:FE b):Qp.F (p1,f1,p2,f2,()) (b,()) (λy=>y=(fcB b b.ops,())):=by
 have hp:=h.p;have hf:=h.f;have k1:b.fin≠1->kn b.ops b.x=if(((b.ops).getD (b.x).toNat default)).kind=1 then((((b.ops).getD (b.x).toNat default)).k,true)else(0,false):=λc=>by
  have:=h.x c;unfold kn;simp only [this,true_and]
 have k2:3<=b.fin->kn b.ops b.y=if(((b.ops).getD (b.y).toNat default)).kind=1 then((((b.ops).getD (b.y).toNat default)).k,true)else(0,false):=λc=>by
  have:=h.y c;unfold kn;simp only [this,true_and]
 have y0:=h.y0;have mkE:∀p l o f x y k,Co.mk .blk (p,l,o,f,x,y,k,())=Blk.mk p l o f x y k:=λ_ _ _ _ _ _ _=>rfl
 dsimp only [Qp,gm];simp (disch:=omega) only [RR,RB,hp1,hf1,U2.hp,U2.hf,mkE,Bool.and_eq_false_iff];by_cases c1:b.fin=1
 .have e:fcB b b.ops=b:=by unfold fcB;rw [if_neg ah,if_neg ah]
  rw [e];refine⟨λh=>absurd h.1 ah,λ_=>⟨λh=>absurd h.1.1.1 ah,λ_=>⟨λh=>absurd h.1.1.1 ah,λ_=>⟨λh=>absurd h.1.1 ah,λ_=>rfl⟩⟩⟩⟩
 .rw [k1 c1];by_cases c2:b.fin=2
  .by_cases d:(((b.ops).getD (b.x).toNat default)).kind=1
   .have e:fcB b b.ops=⟨b.pc,b.len,b.ops,1,0,0,(((b.ops).getD (b.x).toNat default)).k⟩:=by unfold fcB;rw [if_pos ⟨c2,d⟩,y0 ah]
    rw [if_pos d,e];refine⟨λ_=>rfl,λh=> ?_⟩;rcases h with h | h
    .exact absurd c2 h
    .cases h
   .have e:fcB b b.ops=b:=by unfold fcB;rw [if_neg (λg=>d g.2),if_neg ah]
    rw [if_neg d,e];refine⟨λh=>absurd h.2 (by decide),λ_=>⟨λh=>absurd h.1.1.1 ah,λ_=>⟨λh=>absurd h.1.1.1 ah,λ_=>⟨λh=>absurd h.1.1 ah,λ_=>rfl⟩⟩⟩⟩
  .rw [k2 ah];refine⟨λh=>absurd h.1 c2,λ_=> ?_⟩;by_cases d:(((b.ops).getD (b.x).toNat default)).kind=1/\(((b.ops).getD (b.y).toNat default)).kind=1
   .have e:fcB b b.ops=⟨b.pc,b.len,b.ops,1,0,0,if b.fin=3/\(((b.ops).getD (b.x).toNat default)).k=(((b.ops).getD (b.y).toNat default)).k\/b.fin=4/\(((b.ops).getD (b.x).toNat default)).k< (((b.ops).getD (b.y).toNat default)).k then b.k else b.pc+b.len⟩:=by
     unfold fcB;rw [if_neg ah,if_pos ⟨ah,d⟩]
    rw [if_pos d.1,if_pos d.2,e];dsimp only;simp only [and_true,Bool.true_eq_false,or_false,Prod.mk.injEq,Blk.mk.injEq,true_and];refine⟨λh=>⟨λ_=>by rw [if_pos (Or.inl h)],λg=>by omega⟩,λh=>⟨λg=>by rw [if_pos (Or.inr g)],λg=>⟨λ_=>by rw [if_neg ah],λq=>by omega⟩⟩⟩
   .have e:fcB b b.ops=b:=by unfold fcB;rw [if_neg ah,if_neg (λg=>d g.2)]
    rw [e];have n:¬((if(((b.ops).getD (b.x).toNat default)).kind=1 then((((b.ops).getD (b.x).toNat default)).k,true)else((0:Int),false)).2=true/\(if(((b.ops).getD (b.y).toNat default)).kind=1 then((((b.ops).getD (b.y).toNat default)).k,true)else((0:Int),false)).2=true):=λ⟨g1,g2⟩=>by
     split at g1
     .split at g2
      .exact d ⟨by assumption,by assumption⟩
      .cases g2
     .cases g1
    exact⟨λh=>absurd ⟨h.1.1.2,h.1.2⟩ n,λ_=>⟨λh=>absurd ⟨h.1.1.2,h.1.2⟩ n,λ_=>⟨λh=>absurd ⟨h.1.2,h.2⟩ n,λ_=>rfl⟩⟩⟩
def acE{p1 f1}(U1:Y1 p1 f1)(o:IOp)(al:List Int)(hk:1<=o.kind/\o.kind<=8)(hx:hX o->0<=o.x/\o.x< (al.length:Int))(hy:hY o->0<=o.y/\o.y< (al.length:Int)):Qe.F (p1,f1,()) (o,al,()) (λy=>y=(ren al o,())):=by
 dsimp only [Qe,gm];simp (disch:=omega) only [RR,RB,U1.hp,U1.hf,bL,ji];have X:((3<=o.kind/\o.kind<=5)\/o.kind=7)\/o.kind=8->hX o:=λc=>by unfold hX;omega
 have Xn:(¬(3<=o.kind/\o.kind<=5)/\¬o.kind=7)/\¬o.kind=8->¬hX o:=λc g=>by unfold hX at g;omega
 unfold ren;refine⟨λc=>⟨(hx (X c)).1,(hx (X c)).2,λd=>⟨(hy d).1,(hy d).2,?_⟩,λd=> ?_⟩,λc=>⟨λd=>⟨(hy d).1,(hy d).2,?_⟩,λd=> ?_⟩⟩
 .rw [if_pos (X c),if_pos (show hY o from d)]
 .rw [if_pos (X c),if_neg (show¬hY o from λg=>g.elim d.1 d.2)]
 .rw [if_neg (Xn c),if_pos (show hY o from d)]
 .rw [if_neg (Xn c),if_neg (show¬hY o from λg=>g.elim d.1 d.2)]
def acF(ops:List IOp)(k:Int)(h0:0<=k)(h1:k<ops.length)(h2:(ops.length:Int)<1000000):Qj.F () (ops,k,()) (λy=>y=(qg (ops.drop (k.toNat+1)) (((ops).getD (k).toNat default)).k,())):=by
 dsimp only [Qj,gm];simp (disch:=omega) only [RR,RB];refine ak (λ(y:List IOp×Int×Int×Unit)=>y.1=ops/\y.2.1=k/\0<=y.2.2.1/\y.2.2.1<=ops.length/\qg (ops.drop (k.toNat+1)) (((ops).getD (k).toNat default)).k=qg (ops.drop y.2.2.1.toNat) (((ops).getD (k).toNat default)).k) (λy=>((ops.length:Int)-y.2.2.1).toNat) ⟨rfl,rfl,by dsimp only;omega,by dsimp only;omega,by dsimp only;rw [show(k+1).toNat=k.toNat+1 by omega]⟩ ?_;rintro⟨(l:List IOp),(k':Int),(j:Int),⟨⟩⟩ hI;dsimp only at hI ⊢;obtain⟨rfl,rfl,h3,h4,h5⟩:=hI;rw [h5];simp (disch:=omega) only [RR,RB,Bool.and_eq_false_iff];have st:j<l.length->qg (l.drop j.toNat) (((l).getD (k').toNat default)).k=if(((l).getD (j).toNat default)).kind=4\/(((l).getD (j).toNat default)).kind=5\/(((l).getD (j).toNat default)).kind=2/\(((l).getD (j).toNat default)).k=(((l).getD (k').toNat default)).k then false else if(((l).getD (j).toNat default)).kind=8/\(((l).getD (j).toNat default)).k=(((l).getD (k').toNat default)).k then true else qg (l.drop (j+1).toNat) (((l).getD (k').toNat default)).k:=λh=>by
  rw [List.drop_eq_getElem_cons (show j.toNat<l.length by omega),SK,<-getD_lt (d:=default) (show j.toNat<l.length by omega),show(j+1).toNat=j.toNat+1 by omega]
 refine⟨λh=>⟨h3,h,ah,ah,ah,ah,ah,ah,ah,ah,λc=> ?_,λc=>⟨h3,h,ah,ah,ah,ah,λd=> ?_,λd=>⟨⟨ah,ah,?_⟩,ah⟩⟩⟩,λh=> ?_⟩
 .rw [st h,if_pos ah]
 .rw [st h,if_neg ah,if_pos ah]
 .rw [st h,if_neg ah,if_neg ah]
 .rw [List.drop_of_length_le ah];rfl
structure Y73(pp:Blk×Unit->Bool)(ff:Blk×Unit->Blk×Unit):Prop where
 hp:∀b,b.ops.length<1000000->pp (b,())=true
 hf:∀b,b.ops.length<1000000->ff (b,())=(jm b,())
structure Y74(pp:Blk×Unit->Bool)(ff:Blk×Unit->Int×Int×Int×Int×Int×Int×List IOp×Unit):Prop where
 hp:∀b,b.ops.length<1000000->pp (b,())=true
 hf:∀b,b.ops.length<1000000->ff (b,())=bk7 (jZ b)
structure Y75(pp:Blk×Unit->Bool)(ff:Blk×Unit->Int×Int×Int×Int×Int×Int×List IOp×Unit):Prop where
 hp:∀b,b.ops.length<1000000->pp (b,())=true
 hf:∀b,b.ops.length<1000000->ff (b,())=bk7 (mU b)
structure Y76(pp:Blk×Unit->Bool)(ff:Blk×Unit->Int×Int×Int×Int×Int×Int×List IOp×Unit):Prop where
 hp:∀b,b.ops.length<1000000->pp (b,())=true
 hf:∀b,b.ops.length<1000000->ff (b,())=bk7 (qW b)
theorem alQ{p1 f1 p2 f2 p3 f3 p4 f4}(U1:Y73 p1 f1)(U2:Y74 p2 f2)(U3:Y75 p3 f3)(U4:Y76 p4 f4)(b:Blk)(hb:b.ops.length<1000000):Qr.F (p1,f1,p2,f2,p3,f3,p4,f4,()) (b,()) (λy=>y=bk7 (JX b)):=by
 have m1:(jZ b).ops.length<1000000:=Nat.lt_of_le_of_lt (ze b) hb;have m2:=Nat.lt_of_le_of_lt (C9 (jZ b)) m1;have m3:=Nat.lt_of_le_of_lt (za (jm (jZ b))) m2;have m4:=Nat.lt_of_le_of_lt (FZ (mU (jm (jZ b)))) m3;have mkE:∀c:Blk,Co.mk .blk (c.pc,c.len,c.ops,c.fin,c.x,c.y,c.k,())=c:=λ_=>rfl
 dsimp only [Qr,gm];simp (disch:=omega) only [RR,U2.hp b hb,U2.hf b hb,mkE,U1.hp _ m1,U1.hf _ m1,U3.hp _ m2,U3.hf _ m2,U4.hp _ m3,U4.hf _ m3,U3.hp _ m4,U3.hf _ m4];rfl
def acG{α:Type}{d:α}{f l:List α}{k:Nat}(hf:f.length=k)(h:k<l.length):(f++l.drop k).getD k d=l.getD k d:=by
 rw [getD_lt (by rw [List.length_append,List.length_drop];omega),getD_lt h,List.getElem_append_right ah,List.getElem_drop];simp only [hf,Nat.sub_self,Nat.add_zero]
def alR{α:Type}{d:α}{f l:List α}{k j:Nat}(hf:f.length=k)(h:j<k):(f++l.drop k).getD j d=f.getD j d:=by
 rw [getD_lt (by rw [List.length_append];omega),getD_lt ah,List.getElem_append_left]
def VX{α:Type}{x:α}{f l:List α}{k:Nat}(hf:f.length=k)(h:k<l.length):(f++l.drop k).set k x=(f++ [x])++l.drop (k+1):=by
 rw [List.set_append_right _ _ ah,hf,Nat.sub_self,List.drop_eq_getElem_cons h,List.set_cons_zero,List.append_assoc];rfl
def acH{α:Type}{d:α}{f l:List α}{k:Nat}(h:k<l.length):f++l.drop k=(f++ [l.getD k d])++l.drop (k+1):=by
 rw [List.drop_eq_getElem_cons h,getD_lt h,List.append_assoc];rfl
def VY{α:Type}{f l:List α}{k:Nat}(hf:f.length=k)(h:k<=l.length):(f++l.drop k).length=l.length:=by
 rw [List.length_append,hf,List.length_drop];omega
def eP.fe{b:Blk}(ok:eP b){f:List IOp}(h:f.length=b.ops.length):FE ⟨b.pc,b.len,f,b.fin,b.x,b.y,b.k⟩:=by
 have en:=ok.en;have hp:=ok.pc;have hl:=ok.ln;exact⟨en.f,λc=>⟨(en.x1 c).1,by dsimp only;rw [h];exact(en.x1 c).2.1⟩,λc=>⟨(en.y1 c).1,by dsimp only;rw [h];exact(en.y1 c).2.1⟩,en.y0,by dsimp only;omega⟩
structure Y77(pp:Blk×Unit->Bool)(ff:Blk×Unit->Int×Int×Int×Int×Int×Int×List IOp×Unit):Prop where
 hp:∀b,b.ops.length<1000000->pp (b,())=true
 hf:∀b,b.ops.length<1000000->ff (b,())=(b.pc,b.len,b.fin,b.x,b.y,b.k,b.ops,())
theorem alS{p1 f1 p2 f2 p4 f4 p5 f5}(U1:Y60 p1 f1)(U2:Y24 p2 f2){p3:Blk×Unit->Bool}{f3:Blk×Unit->Blk×Unit}(hp3:∀b,FE b->p3 (b,())=true)(hf3:∀b,FE b->f3 (b,())=(fcB b b.ops,()))(U4:Y72 p4 f4)(U5:Y77 p5 f5)(b:Blk)(hb:b.ops.length<1000000):Qq.F (p1,f1,p2,f2,p3,f3,p4,f4,p5,f5,()) (b,()) (λy=>y=(jm b,())):=by
 have mkE:∀p l o f x y k,Co.mk .blk (p,l,o,f,x,y,k,())=Blk.mk p l o f x y k:=λ_ _ _ _ _ _ _=>rfl
 dsimp only [Qq,gm];simp (disch:=omega) only [RR,RB,U1.hp b ah,U1.hf b ah,U5.hp b hb,U5.hf b hb,mkE];refine⟨λh=>by unfold jm;rw [h,if_neg (by decide)];rfl,λh=> ?_⟩;have ok:=aQ.1 h;rw [JY ok];refine ak (λ(y:Int×Int×Int×Int×Int×Int×Int×Int×Int×Int×Int×Int×Int×List IOp×Unit)=>0<=y.1/\y.1<=b.ops.length/\y.2.2.2.2.2.2.2=(b.pc,b.len,b.fin,b.x,b.y,b.k,fc b.ops y.1.toNat++b.ops.drop y.1.toNat,())) (λy=>((b.ops.length:Int)-y.1).toNat) ⟨by dsimp only;omega,by dsimp only;omega,rfl⟩ ?_;rintro⟨(k:Int),u1,u2,u3,u4,u5,u6,b1,b2,b3,b4,b5,b6,(ops:List IOp),⟨⟩⟩ hI;dsimp only at hI ⊢;simp only [Prod.mk.injEq,and_true]at hI;obtain⟨h1,h2,rfl,rfl,rfl,rfl,rfl,rfl,rfl⟩:=hI;have fl:=JW b.ops k.toNat;have ln:=VY (l:=b.ops) fl ah;simp (disch:=omega) only [RR,RB,U4.hp,U4.hf,U2.hp,U2.hf,ln,mkE];refine⟨λh=> ?_,λh=> ?_⟩
 .have o:=ok.op k h1 h;have ek:=acG (d:=default) (l:=b.ops) fl ah;have kv:∀x:Int,Vl b.ops x k->kn (fc b.ops k.toNat++b.ops.drop k.toNat) x=if((((fc b.ops k.toNat)).getD (x).toNat default)).kind=1 then(((((fc b.ops k.toNat)).getD (x).toNat default)).k,true)else(0,false):=λx v=>by
   have v0:=v.1;have v1:=v.2.1;unfold kn;rw [alR fl ah];simp only [show 0<=x/\x< ((fc b.ops k.toNat++b.ops.drop k.toNat).length:Int)from⟨v0,ah⟩,true_and]
  have nx:fc b.ops (k+1).toNat=fc b.ops k.toNat++ [fcO (fc b.ops k.toNat) ((b.ops).getD (k).toNat default)]:=by rw [show(k+1).toNat=k.toNat+1 by omega];rfl
  rw [ek];have hk:=acH (d:=default) (f:=fc b.ops k.toNat) (l:=b.ops) (k:=k.toNat) ah;have hs:=λx=>VX (x:=x) (l:=b.ops) fl ah
  rw [nx,show(k+1).toNat=k.toNat+1 by omega];generalize ((b.ops).getD (k).toNat default)=q at o hk ⊢;have vx:=λc=>o.x1 c
  have vy:=λc=>o.y1 c
  refine⟨h1,h,h1,h,λc=>⟨h1,h,h1,h,⟨ah,ah,?_⟩,ah⟩,λc=>⟨⟨ah,ah,?_⟩,ah⟩⟩
  .have k1:=kv _ (o.x1 (by unfold hX;omega));have k2:=kv _ (o.y1 (Or.inl c.1.1));rw [k1,k2]at c ⊢;by_cases d1:((((fc b.ops k.toNat)).getD (q.x).toNat default)).kind=1
   .by_cases d2:((((fc b.ops k.toNat)).getD (q.y).toNat default)).kind=1
    .rw [if_pos d1,if_pos d2,hs];have e:fcO (fc b.ops k.toNat) q=⟨1,0,0,wdo q.k ((((fc b.ops k.toNat)).getD (q.x).toNat default)).k ((((fc b.ops k.toNat)).getD (q.y).toNat default)).k,0⟩:=by unfold fcO;rw [if_pos ⟨c.1.1,d1,d2⟩]
     rw [e]
    .rw [if_neg d2]at c;exact absurd c.2 (by decide)
   .rw [if_neg d1]at c;exact absurd c.1.2 (by decide)
  .have e:fcO (fc b.ops k.toNat) q=q:=by
    unfold fcO;refine if_neg ?_;rintro⟨d0,d1,d2⟩;rw [kv _ (o.x1 (by unfold hX;omega)),kv _ (o.y1 (Or.inl d0)),if_pos d1,if_pos d2,decide_eq_true d0]at c;cases c
   rw [e,hk]
 .have e:fc b.ops k.toNat++b.ops.drop k.toNat=fc b.ops b.ops.length:=by rw [List.drop_of_length_le ah,List.append_nil,show k.toNat=b.ops.length by omega]
  rw [e];have fe:=ok.fe (JW b.ops b.ops.length);rw [hf3 _ fe];exact⟨hp3 _ fe,rfl⟩
def acI{a b:List Bool}(h:a.length=b.length)(g:∀t:Nat,t<a.length->(a.getD t default=true↔b.getD t default=true)):a=b:=by
 refine List.ext_getElem h λi h1 h2=> ?_
 have:=g i h1;rw [getD_lt h1,getD_lt h2]at this;exact Bool.eq_iff_iff.2 this
theorem alT{p1 f1 p2 f2}(U1:Y60 p1 f1)(U2:Y1 p2 f2)(b:Blk)(hb:b.ops.length<1000000):Qh.F (p1,f1,p2,f2,()) (b,()) (λy=>y=(DZ b,())):=by
 obtain⟨hp1,hf1⟩:=U1;obtain⟨hp2,hf2⟩:=U2;dsimp only [Qh,gm];simp (disch:=omega) only [RR,RB,hp1 b ah,hf1 b ah];unfold DZ;refine⟨λh=>by rw [h,if_neg (by decide)],λh=> ?_⟩;rw [if_pos h];have ok:=aQ.1 h;have n48:=ok.sz;have en:=ok.en;refine ak (λ(y:Int×Blk×List Bool×Unit)=>0<=y.1/\y.1<=b.ops.length/\y.2.1=b/\(y.2.2.1.length:Int)=y.1/\∀t:Nat,t<y.2.2.1.length->(y.2.2.1.getD t default=true↔4<=(b.ops.getD t default).kind)) (λy=>((b.ops.length:Int)-y.1).toNat) ⟨by dsimp only;omega,by dsimp only;omega,rfl,rfl,λt h=>absurd h (by simp)⟩ ?_;rintro⟨(k:Int),(b':Blk),(kp:List Bool),⟨⟩⟩ hI;dsimp only at hI ⊢;obtain⟨h1,h2,rfl,h3,h4⟩:=hI;simp (disch:=omega) only [RR,RB,List.length_append,List.length_cons,List.length_nil];refine⟨λh=>⟨h1,h,ah,⟨ah,ah,ah,λt ht=> ?_⟩,ah⟩,λh=> ?_⟩
 .rw [Iu];rcases(by omega:t<kp.length\/t=kp.length)with c | c
  .rw [if_pos c];exact h4 t c
  .rw [if_neg ah,if_pos c,decide_eq_true_eq,c,show k.toNat=kp.length by omega]
 have ex:¬b'.fin=1->0<=b'.x/\b'.x<kp.length:=λc=>by have:=ok.en.x1 c;exact⟨this.1,by have:=this.2.1;omega⟩
 have ey:b'.fin=3\/b'.fin=4->0<=b'.y/\b'.y<kp.length:=λc=>by have:=ok.en.y1 ah;exact⟨this.1,by have:=this.2.1;omega⟩
 have ff:=en.f;have u0:=VT ok;have kl:kp.length=b'.ops.length:=by omega
 rw [kl]at h4;refine⟨λc=>⟨(ex c).1,(ex c).2,(ex c).1,(ex c).2,λc2=>⟨(ey c2).1,by rw [List.length_set];exact(ey c2).2,(ey c2).1,by rw [List.length_set];exact(ey c2).2,?_⟩,λc2=> ?_⟩,λc=>⟨λc2=>absurd c2 ah,λc2=> ?_⟩⟩
 all_goals
  refine ak (λ(y:Int×Blk×List Bool×Unit)=> -1<=y.1/\y.1<b'.ops.length/\y.2.1=b'/\y.2.2.1.length=b'.ops.length/\∀t:Nat,t<b'.ops.length->(y.2.2.1.getD t default=true↔(us b' (b'.ops.length-1-y.1).toNat).getD t default=true\/4<=(b'.ops.getD t default).kind)) (λy=>(y.1+1).toNat) ⟨by dsimp only;omega,by dsimp only;omega,rfl,by simp only [List.length_set];omega,λt ht=> ?_⟩ ?_
  .dsimp only;rw [show(b'.ops.length-1- ((b'.ops.length:Int)-1)).toNat=0 by omega];show _↔(us0 b').getD t default=true\/_;have q:=h4 t ht;have r:=u0 t
   first
    | (rw [SH (by rw [List.length_set];have:=ey c2;omega),SH (by have:=ex c;omega),q,r];grind)
    | (rw [SH (by have:=ex c;omega),q,r];grind)
    | (rw [q,r];grind)
  rintro⟨(j:Int),(b2:Blk),(ms:List Bool),⟨⟩⟩ hI;dsimp only at hI ⊢;obtain⟨j0,j1,rfl,j3,j4⟩:=hI;simp (disch:=omega) only [RR,RB,hp2,hf2,bL,ji,List.length_set];have ul:=Ca b2 (b2.ops.length-1-j).toNat;have us1:0<=j->∀t:Nat,((us b2 (b2.ops.length-1- (j-1)).toNat).getD t default=true↔(us b2 (b2.ops.length-1-j).toNat).getD t default=true\/((us b2 (b2.ops.length-1-j).toNat).getD j.toNat default=true\/4<=(((b2.ops).getD (j).toNat default)).kind)/\(t=j.toNat\/hX (((b2.ops).getD (j).toNat default))/\t=(((b2.ops).getD (j).toNat default)).x.toNat\/hY (((b2.ops).getD (j).toNat default))/\t=(((b2.ops).getD (j).toNat default)).y.toNat)):=λg t=>by
   have o:=ok.op j g j1;rw [show(b2.ops.length-1- (j-1)).toNat=(b2.ops.length-1-j).toNat+1 by omega];show(usO (b2.ops.getD (b2.ops.length-1- (b2.ops.length-1-j).toNat) default) (b2.ops.length-1- (b2.ops.length-1-j).toNat) _).getD t default=true↔_;rw [show b2.ops.length-1- (b2.ops.length-1-j).toNat=j.toNat by omega];exact VR ah (λc=>by have:=o.x1 c;have g0:=this.1;have g1:=this.2.1;omega) (λc=>by have:=o.y1 c;have g0:=this.1;have g1:=this.2.1;omega)
  have ue:¬0<=j->(us b2 (b2.ops.length-1-j).toNat)=us b2 b2.ops.length:=λg=>by rw [show(b2.ops.length-1-j).toNat=b2.ops.length by omega]
  generalize us b2 (b2.ops.length-1-j).toNat=U at us1 j4 ue;refine⟨λg=> ?_,λg=>congrArg (λm:List Bool=>(m,())) (acI (b:=us b2 b2.ops.length) (by rw [Ca];exact j3) λt ht=> ?_)⟩
  .have o:=ok.op j g j1;have X:hX (((b2.ops).getD (j).toNat default))->0<=(((b2.ops).getD (j).toNat default)).x/\(((b2.ops).getD (j).toNat default)).x<ms.length:=λc=>by have:=o.x1 c;have g0:=this.1;have g1:=this.2.1;omega
   have Y:hY (((b2.ops).getD (j).toNat default))->0<=(((b2.ops).getD (j).toNat default)).y/\(((b2.ops).getD (j).toNat default)).y<ms.length:=λc=>by have:=o.y1 c;have g0:=this.1;have g1:=this.2.1;omega
   have us1:=us1 g;have qj:=j4 j.toNat ah;have kd:=o.kd;generalize ((b2.ops).getD (j).toNat default)=q at*;have cx:((3<=q.kind/\q.kind<=5)\/q.kind=7)\/q.kind=8↔hX q:=by unfold hX;omega
   have cn:(¬(3<=q.kind/\q.kind<=5)/\¬q.kind=7)/\¬q.kind=8↔¬hX q:=by unfold hX;omega
   have cy:q.kind=3\/q.kind=5↔hY q:=Iff.rfl;have dn:¬q.kind=3/\¬q.kind=5↔¬hY q:=by unfold hY;omega
   rw [cx,cn,cy,dn];generalize hX q=HX at*;generalize hY q=HY at*;refine⟨g,j1,g,ah,g,ah,λc=>⟨⟨ah,ah,j3,λt ht=> ?_⟩,ah⟩,λc=>⟨λd=>⟨(X d).1,(X d).2,(X d).1,(X d).2,λe=>⟨(Y e).1,(Y e).2,(Y e).1,(Y e).2,⟨ah,ah,j3,λt ht=> ?_⟩,ah⟩,λe=>⟨⟨ah,ah,j3,λt ht=> ?_⟩,ah⟩⟩,λd=>⟨λe=>⟨(Y e).1,(Y e).2,(Y e).1,(Y e).2,⟨ah,ah,j3,λt ht=> ?_⟩,ah⟩,λe=>⟨⟨ah,ah,j3,λt ht=> ?_⟩,ah⟩⟩⟩⟩
   .rw [us1,j4 t ht];rw [c]at qj;grind
   .rw [SH (by rw [List.length_set];have:=Y e;omega),SH (by have:=X d;omega),us1,j4 t ht];grind
   .rw [SH (by have:=X d;omega),us1,j4 t ht];grind
   .rw [SH (by have:=Y e;omega),us1,j4 t ht];grind
   .rw [us1,j4 t ht];grind
  .rw [j4 t ah,ue g];exact⟨λh=>h.elim id ((ard ok).k t (Nat.zero_le _) ah),Or.inl⟩
def agO{ops:List IOp}{kp:List Bool}{len:Int}{k n:Nat}{o:IOp}(ho:mO ops len k o)(h:k<n):ren (kpS ops kp (k+1)).1 o=ren (kpS ops kp n).1 o:=by
 have p:=(agK ops kp (show k+1<=n by omega)).2;have l:=(Af ops kp (k+1)).1;have e:∀x:Int,Vl ops x k->(((kpS ops kp (k+1)).1).getD (x).toNat default)=(((kpS ops kp n).1).getD (x).toNat default):=λx v=>by
  have g0:=v.1;have g1:=v.2.1;exact(SA p ah).symm
 have ox:=ho.x1;have oy:=ho.y1;unfold ren
 congr 1
 .split
  .rename_i c;exact e _ (ox c)
  .rfl
 .split
  .rename_i c;exact e _ (oy c)
  .rfl
structure Y78(pp:IOp×List Int×Unit->Bool)(ff:IOp×List Int×Unit->IOp×Unit):Prop where
 hp:∀o al,(1<=o.kind/\o.kind<=8)->(hX o->0<=o.x/\o.x< (al.length:Int))->(hY o->0<=o.y/\o.y< (al.length:Int))->pp (o,al,())=true
 hf:∀o al,(1<=o.kind/\o.kind<=8)->(hX o->0<=o.x/\o.x< (al.length:Int))->(hY o->0<=o.y/\o.y< (al.length:Int))->ff (o,al,())=(ren al o,())
theorem alU{p1 f1}(U1:Y78 p1 f1)(b:Blk)(kp:List Bool)(ok:eP b)(hk:kp.length=b.ops.length):Qg.F (p1,f1,()) (b,kp,()) (λy=>y=bk7 (FY b kp)):=by
 have n48:=ok.sz;dsimp only [Qg,gm];simp (disch:=omega) only [RR,RB];refine ak (λ(y:List Bool×Int×Blk×Int×Int×Int×Int×Int×Int×List IOp×List Int×Unit)=>y.1=kp/\0<=y.2.1/\y.2.1<=b.ops.length/\y.2.2.1=b/\y.2.2.2.2.2.2.2.2.2.1=(kpS b.ops kp y.2.1.toNat).2.map (ren (kpS b.ops kp b.ops.length).1)/\y.2.2.2.2.2.2.2.2.2.2.1=(kpS b.ops kp y.2.1.toNat).1) (λy=>((b.ops.length:Int)-y.2.1).toNat) ⟨rfl,by dsimp only;omega,by dsimp only;omega,rfl,rfl,rfl⟩ ?_;rintro⟨(kp':List Bool),(k:Int),(b':Blk),u1,u2,u3,u4,u5,u6,(out:List IOp),(to:List Int),⟨⟩⟩ hI;dsimp only at hI ⊢;obtain⟨rfl,h1,h2,rfl,rfl,rfl⟩:=hI;obtain⟨l1,l2⟩:=Af b'.ops kp' k.toNat;have l3:=(Af b'.ops kp' (k+1).toNat).1;have nx:(kpS b'.ops kp' (k+1).toNat).1=(kpS b'.ops kp' k.toNat).1++ [((kpS b'.ops kp' k.toNat).2.length:Int)]:=by rw [show(k+1).toNat=k.toNat+1 by omega];rfl
 have r:k<b'.ops.length->ren (kpS b'.ops kp' (k+1).toNat).1 ((b'.ops).getD (k).toNat default)=ren (kpS b'.ops kp' b'.ops.length).1 ((b'.ops).getD (k).toNat default):=λh=>by
  rw [show(k+1).toNat=k.toNat+1 by omega];exact agO (by rw [show((k.toNat:Nat):Int)=k by omega];exact ok.op k h1 h) ah
 have s:(kpS b'.ops kp' (k+1).toNat).2=if kp'.getD k.toNat default=true then(kpS b'.ops kp' k.toNat).2++ [((b'.ops).getD (k).toNat default)]else(kpS b'.ops kp' k.toNat).2:=by rw [show(k+1).toNat=k.toNat+1 by omega];rfl
 have fin:¬k<b'.ops.length->kpS b'.ops kp' k.toNat=kpS b'.ops kp' b'.ops.length:=λh=>by rw [show k.toNat=b'.ops.length by omega]
 have kb:FY b' kp'=acv (kpS b'.ops kp' b'.ops.length).1 b' (kpS b'.ops kp' b'.ops.length).2:=rfl;rw [kb];generalize kpS b'.ops kp' b'.ops.length=N at r fin ⊢;generalize hT:kpS b'.ops kp' (k+1).toNat=T at l3 nx r s ⊢;generalize kpS b'.ops kp' k.toNat=S at l1 l2 nx s fin ⊢;have en:=ok.en;have ex:¬k<b'.ops.length->¬b'.fin=1->0<=b'.x/\b'.x< (S.1.length:Int):=λh c=>by have:=en.x1 c;exact⟨this.1,by have:=this.2.1;omega⟩
 have ey:¬k<b'.ops.length->b'.fin=3\/b'.fin=4->0<=b'.y/\b'.y< (S.1.length:Int):=λh c=>by have:=en.y1 ah;exact⟨this.1,by have:=this.2.1;omega⟩
 simp (disch:=omega) only [RR,RB,List.length_append,List.length_cons,List.length_nil,List.length_map,qO,<-nx];refine⟨λh=> ?_,λh=> ?_⟩
 .have op:=ok.op k h1 h;have a2:hX (((b'.ops).getD (k).toNat default))->0<=(((b'.ops).getD (k).toNat default)).x/\(((b'.ops).getD (k).toNat default)).x< (T.1.length:Int):=λc=>⟨(op.x1 c).1,by have:=(op.x1 c).2.1;omega⟩
  have a3:hY (((b'.ops).getD (k).toNat default))->0<=(((b'.ops).getD (k).toNat default)).y/\(((b'.ops).getD (k).toNat default)).y< (T.1.length:Int):=λc=>⟨(op.y1 c).1,by have:=(op.y1 c).2.1;omega⟩
  have P:=U1.hp _ T.1 op.kd a2 a3;rw [U1.hf _ T.1 op.kd a2 a3,hT,s,r h];refine⟨ah,h1,ah,λc=>⟨h1,h,P,ah,⟨ah,ah,?_⟩,ah⟩,λc=>⟨⟨ah,ah,?_⟩,ah⟩⟩
  .rw [if_pos c,List.map_append];exact⟨rfl,rfl⟩
  .rw [c,if_neg (by decide)];exact⟨rfl,rfl⟩
 .have ex:=ex h;have ey:=ey h;rw [fin h]at ex ey ⊢;unfold bk7 acv;refine⟨λc=>⟨(ex c).1,(ex c).2,(ex c).1,(ex c).2,λc2=>⟨(ey c2).1,(ey c2).2,(ey c2).1,(ey c2).2,?_⟩,λc2=> ?_⟩,λc=>⟨λc2=>⟨(ey c2).1,(ey c2).2,(ey c2).1,(ey c2).2,?_⟩,λc2=> ?_⟩⟩
  .rw [if_neg c,if_pos ah]
  .rw [if_neg c,if_neg (by have:=en.f;omega)]
  .exact absurd c2 ah
  .rw [if_pos c,if_neg ah]
structure Y79(pp:Blk×Unit->Bool)(ff:Blk×Unit->List Bool×Unit):Prop where
 hp:∀b,b.ops.length<1000000->pp (b,())=true
 hf:∀b,b.ops.length<1000000->ff (b,())=(DZ b,())
structure Y80(pp:Blk×List Bool×Unit->Bool)(ff:Blk×List Bool×Unit->Int×Int×Int×Int×Int×Int×List IOp×Unit):Prop where
 hp:∀b kp,eP b->kp.length=b.ops.length->pp (b,kp,())=true
 hf:∀b kp,eP b->kp.length=b.ops.length->ff (b,kp,())=bk7 (FY b kp)
def alV{p1 f1 p2 f2 p3 f3}(U1:Y60 p1 f1)(U2:Y79 p2 f2)(U3:Y80 p3 f3)(b:Blk)(hb:b.ops.length<1000000):Qi.F (p1,f1,p2,f2,p3,f3,()) (b,()) (λy=>y=bk7 (mU b)):=by
 dsimp only [Qi,gm];simp (disch:=omega) only [RR,RB,U1.hp b ah,U1.hf b ah,U2.hp b hb,U2.hf b hb];unfold mU DZ;refine⟨λh=>by rw [h,if_neg (by decide)];rfl,λh=> ?_⟩;have ok:=aQ.1 h;rw [if_pos h,if_pos h,U3.hf _ _ ok (Ca b _)];exact⟨U3.hp _ _ ok (Ca b _),rfl⟩
def alW{p1 f1 p2 f2}(U1:Y60 p1 f1)(U2:Y80 p2 f2){p3:List IOp×Int×Unit->Bool}{f3:List IOp×Int×Unit->Bool×Unit}(hp3:∀ops k,0<=k->k<ops.length->(ops.length:Int)<1000000->p3 (ops,k,())=true)(hf3:∀ops k,0<=k->k<ops.length->(ops.length:Int)<1000000->f3 (ops,k,())=(qg (ops.drop (k.toNat+1)) (((ops).getD (k).toNat default)).k,()))(b:Blk)(hb:b.ops.length<1000000):Qk.F (p1,f1,p2,f2,p3,f3,()) (b,()) (λy=>y=bk7 (qW b)):=by
 dsimp only [Qk,gm];simp (disch:=omega) only [RR,RB,U1.hp b ah,U1.hf b ah];unfold qW;refine⟨λh=>by rw [h,if_neg (by decide)];rfl,λh=> ?_⟩;have ok:=aQ.1 h;rw [if_pos h];have kl:(qV b.ops).length=b.ops.length:=by unfold qV;rw [List.length_map,List.length_range]
 refine ak (λ(y:Int×Blk×Int×Int×Int×Int×Int×Int×List Bool×Unit)=>0<=y.1/\y.1<=b.ops.length/\y.2.1=b/\y.2.2.2.2.2.2.2.2.1=(qV b.ops).take y.1.toNat) (λy=>((b.ops.length:Int)-y.1).toNat) ⟨by dsimp only;omega,by dsimp only;omega,rfl,rfl⟩ ?_;rintro⟨(k:Int),(b':Blk),u1,u2,u3,u4,u5,u6,(kp:List Bool),⟨⟩⟩ hI;dsimp only at hI ⊢;obtain⟨h1,h2,rfl,rfl⟩:=hI;have tl:((qV b'.ops).take k.toNat).length=k.toNat:=by rw [List.length_take];omega
 simp (disch:=omega) only [RR,RB,List.length_append,List.length_cons,List.length_nil,tl];refine⟨λh=>⟨h1,h,Or.inr (hp3 _ _ h1 h ah),ah,⟨ah,ah,?_⟩,ah⟩,λh=> ?_⟩
 .rw [hf3 _ _ h1 h ah,show(k+1).toNat=k.toNat+1 by omega,List.take_succ_eq_append_getElem ah,<-getD_lt (d:=default) (show k.toNat< (qV b'.ops).length by omega),XB ah];refine congrArg (λx=>(qV b'.ops).take k.toNat++ [x]) ?_;rw [Bool.not_and]
 .rw [List.take_of_length_le ah,U2.hf _ _ ok kl];exact⟨U2.hp _ _ ok kl,rfl⟩
def alX{ops:List IOp}{len:Int}{k n:Nat}{o:IOp}(ho:mO ops len k o)(h:k<=n):ren (cpS ops k).1 o=ren (cpS ops n).1 o:=by
 have l:=(DY ops k).1;have e:∀x:Int,Vl ops x k->(((cpS ops k).1).getD (x).toNat default)=(((cpS ops n).1).getD (x).toNat default):=λx v=>by
  have g0:=v.1;have g1:=v.2.1;exact(alF ops ah h).symm
 have ox:=ho.x1;have oy:=ho.y1;unfold ren
 congr 1
 .split
  .rename_i c;exact e _ (ox c)
  .rfl
 .split
  .rename_i c;exact e _ (oy c)
  .rfl
theorem alY{p1 f1 p2 f2 p3 f3}(U1:Y60 p1 f1)(U2:Y78 p2 f2)(U3:Y77 p3 f3)(b:Blk)(hb:b.ops.length<1000000):Qf.F (p1,f1,p2,f2,p3,f3,()) (b,()) (λy=>y=bk7 (jZ b)):=by
 obtain⟨hp1,hf1⟩:=U1;obtain⟨hp2,hf2⟩:=U2;obtain⟨hp3,hf3⟩:=U3;dsimp only [Qf,gm];simp (disch:=omega) only [RR,RB,hp1 b ah,hf1 b ah,hp3 b hb,hf3 b hb,qO];unfold jZ;refine⟨λh=>by rw [h,if_neg (by decide)];rfl,λh=> ?_⟩;have ok:=aQ.1 h;rw [if_pos h];have n48:=ok.sz;refine ak (λ(y:Int×Int×Int×Int×Int×Int×Int×Int×Int×Int×Int×Int×Int×List Int×List Int×List IOp×Unit)=>0<=y.1/\y.1<=b.ops.length/\y.2.2.2.2.2.2.2=(b.pc,b.len,b.fin,b.x,b.y,b.k,(cpS b.ops y.1.toNat).1,(cpS b.ops y.1.toNat).2,(b.ops.take y.1.toNat).map (ren (cpS b.ops b.ops.length).1)++b.ops.drop y.1.toNat,())) (λy=>((b.ops.length:Int)-y.1).toNat) ⟨by dsimp only;omega,by dsimp only;omega,rfl⟩ ?_;rintro⟨(k:Int),u1,u2,u3,u4,u5,u6,b1,b2,b3,b4,b5,b6,(al:List Int),(la:List Int),(ops:List IOp),⟨⟩⟩ hI;dsimp only at hI ⊢;simp only [Prod.mk.injEq,and_true]at hI;obtain⟨h1,h2,rfl,rfl,rfl,rfl,rfl,rfl,rfl,rfl,rfl⟩:=hI;obtain⟨l1,l2⟩:=DY b.ops k.toNat;have r:=λh:k<b.ops.length=>alX (ops:=b.ops) (k:=k.toNat) (n:=b.ops.length) (by rw [show((k.toNat:Nat):Int)=k by omega];exact ok.op k h1 h) ah
 have fl:((b.ops.take k.toNat).map (ren (cpS b.ops b.ops.length).1)).length=k.toNat:=by rw [List.length_map,List.length_take];omega
 have ln:=VY (l:=b.ops) fl ah;have ek:=λh:k<b.ops.length=>acG (d:=default) (l:=b.ops) fl ah
 have ms:=λx (h:k<b.ops.length)=>VX (x:=x) (l:=b.ops) fl ah
 have tk:=λh:k<b.ops.length=>(bB (d:=default) (l:=b.ops) h1 h rfl)
 have nx:k<b.ops.length->cpS b.ops (k+1).toNat=((cpS b.ops k.toNat).1++ [cpN (cpS b.ops k.toNat) k ((b.ops).getD (k).toNat default)],cpL (cpS b.ops k.toNat) k ((b.ops).getD (k).toNat default)):=λh=>by
  rw [show(k+1).toNat=k.toNat+1 by omega,show k=((k.toNat:Nat):Int) by omega];rfl
 have fin:¬k<b.ops.length->cpS b.ops k.toNat=cpS b.ops b.ops.length:=λh=>by rw [show k.toNat=b.ops.length by omega]
 have en:=ok.en;by_cases h:k<b.ops.length
 .have o:=ok.op k h1 h;have r:=r h;have ek:=ek h;have nx:=nx h;have ms:=λx=>ms x h
  have tk:=tk h;have a2:hX (((b.ops).getD (k).toNat default))->0<=(((b.ops).getD (k).toNat default)).x/\(((b.ops).getD (k).toNat default)).x< ((cpS b.ops k.toNat).1.length:Int):=λc=>⟨(o.x1 c).1,by have:=(o.x1 c).2.1;omega⟩
  have a3:hY (((b.ops).getD (k).toNat default))->0<=(((b.ops).getD (k).toNat default)).y/\(((b.ops).getD (k).toNat default)).y< ((cpS b.ops k.toNat).1.length:Int):=λc=>⟨(o.y1 c).1,by have:=(o.y1 c).2.1;omega⟩
  have P:=hp2 _ _ o.kd a2 a3;have F:=hf2 _ _ o.kd a2 a3;have kd:=o.k2;have rx:(((b.ops).getD (k).toNat default)).kind=8->(ren (cpS b.ops b.ops.length).1 ((b.ops).getD (k).toNat default)).x=(((cpS b.ops k.toNat).1).getD ((((b.ops).getD (k).toNat default)).x).toNat default):=λc=>by rw [<-r];exact if_pos (by unfold hX;omega)
  rw [r]at F;generalize hN:(cpS b.ops b.ops.length).1=N at*;generalize hT:cpS b.ops (k+1).toNat=T at nx ⊢;generalize cpS b.ops k.toNat=S at*;simp (disch:=omega) only [RR,RB,ln,ek,P,F,ms,List.length_append,List.length_cons,List.length_nil,List.length_set,qO,h];generalize hq:((b.ops).getD (k).toNat default)=q at*;have rk:(ren N q).kind=q.kind:=rfl;have rkk:(ren N q).k=q.k:=rfl;generalize hR:ren N q=R at*;have G:∀v w,v=cpN S k q->w=cpL S k q->(b.pc,b.len,b.fin,b.x,b.y,b.k,S.1++ [v],w,((b.ops.take k.toNat).map (ren N)++ [R])++b.ops.drop (k.toNat+1),())=(b.pc,b.len,b.fin,b.x,b.y,b.k,T.1,T.2,(b.ops.take (k+1).toNat).map (ren N)++b.ops.drop (k+1).toNat,()):=λv w e1 e2=>by
   rw [nx,e1,e2,<-tk,List.map_append,show(k+1).toNat=k.toNat+1 by omega,<-hR];rfl
  have ss:∀i:Int,0<=i->i<S.2.length->S.2.set i.toNat ((S.2).getD (i).toNat default)=S.2:=λi i0 i1=>by rw [getD_lt (show i.toNat<S.2.length by omega),List.set_getElem_self]
  by_cases c2:R.kind=2
  .have kk:=kd (Or.inl (rk▸c2));by_cases c3:0<=((S.2).getD (R.k).toNat default)
   .have g:=G (((S.2).getD (R.k).toNat default)) (S.2.set R.k.toNat ((S.2).getD (R.k).toNat default)) (by unfold cpN;rw [<-rk,<-rkk];rw [if_pos ⟨c2,c3⟩]) (by unfold cpL;rw [<-rk,<-rkk];rw [if_pos c2,if_pos c3,ss _ ah ah]);simp only [c2,c3,show¬((2:Int)=8) by decide,true_and,and_true,true_implies,false_implies,not_true_eq_false,not_false_eq_true,false_or,decide_true,Bool.and_self,Bool.true_eq_false,hT,g];omega
   .have g:=G k (S.2.set R.k.toNat k) (by unfold cpN;rw [<-rk,<-rkk];rw [if_neg (λq=>c3 q.2)]) (by unfold cpL;rw [<-rk,<-rkk];rw [if_pos c2,if_neg c3]);simp only [c2,c3,show¬((2:Int)=8) by decide,true_and,and_true,and_false,true_implies,false_implies,not_true_eq_false,not_false_eq_true,false_or,decide_true,decide_false,Bool.and_false,hT,g];omega
  .by_cases c8:R.kind=8
   .have kk:=kd (Or.inr (rk▸c8));have g:=G k (S.2.set R.k.toNat ((S.1).getD (q.x).toNat default)) (by unfold cpN;rw [<-rk,<-rkk];rw [if_neg (λq=>c2 q.1)]) (by unfold cpL;rw [<-rk,<-rkk];rw [if_neg c2,if_pos c8]);rw [<-rx (rk▸c8)]at g;simp only [c8,show¬((8:Int)=2) by decide,false_and,true_and,and_true,and_false,true_implies,false_implies,not_true_eq_false,not_false_eq_true,true_or,decide_false,Bool.false_and,hT,g];omega
   .have g:=G k S.2 (by unfold cpN;rw [<-rk,<-rkk];rw [if_neg (λq=>c2 q.1)]) (by unfold cpL;rw [<-rk,<-rkk];rw [if_neg c2,if_neg c8]);simp only [c2,c8,false_and,true_and,and_true,and_false,true_implies,false_implies,not_true_eq_false,not_false_eq_true,true_or,decide_false,Bool.false_and,hT,g];omega
 .have e:=fin h;have ex:¬b.fin=1->0<=b.x/\b.x< ((cpS b.ops k.toNat).1.length:Int):=λc=>by have:=en.x1 c;exact⟨this.1,by have:=this.2.1;omega⟩
  have ey:b.fin=3\/b.fin=4->0<=b.y/\b.y< ((cpS b.ops k.toNat).1.length:Int):=λc=>by have:=en.y1 ah;exact⟨this.1,by have:=this.2.1;omega⟩
  have ff:=en.f;have z:(b.ops.take k.toNat).map (ren (cpS b.ops b.ops.length).1)++b.ops.drop k.toNat=b.ops.map (ren (cpS b.ops b.ops.length).1):=by rw [List.take_of_length_le ah,List.drop_of_length_le ah,List.append_nil]
  have ln:(b.ops.map (ren (cpS b.ops b.ops.length).1)).length=b.ops.length:=List.length_map _;rw [z];rw [e]at ex ey ⊢;unfold bk7 acv;generalize (cpS b.ops b.ops.length).1=N at*;simp (disch:=omega) only [RR,RB,ln,h];refine⟨λc=>⟨(ex c).1,(ex c).2,(ex c).1,(ex c).2,λc2=>⟨(ey c2).1,(ey c2).2,(ey c2).1,(ey c2).2,?_⟩,λc2=> ?_⟩,λc=>⟨λc2=>absurd c2 ah,λc2=> ?_⟩⟩
  .rw [if_neg c,if_pos ah]
  .rw [if_neg c,if_neg ah]
  .rw [if_pos c,if_neg ah]
structure BkD(m:Int)(n:Nat)(b:List Int)(p:Int)(y:Int×Int×Int×Int×Int×Int×List Int×Int×List IOp×Unit):Prop where
 b:y.2.2.2.2.2.2.1=b
 lo:p<=y.2.2.2.2.2.2.2.1
 hi:y.2.2.2.2.2.2.2.1<=p+m
 len:y.2.2.2.2.2.2.2.2.1.length<=n
structure Y81(pp:Blk×Unit->Bool)(ff:Blk×Unit->Int×Int×Int×Int×Int×Int×List IOp×Unit):Prop where
 hp:∀b,b.ops.length<1000000->pp (b,())=true
 hf:∀b,b.ops.length<1000000->ff (b,())=bk7 (JX b)
structure Y82(pp:List Int×Int×Unit->Bool)(ff:List Int×Int×Unit->List Int×Int×List Ins×Unit):Prop where
 hp:∀b p,Bt b->0<=p->p<700000000->pp (b,p,())=true
 hf:∀b p,Bt b->0<=p->p<700000000->LiD b p (ff (b,p,()))
def alZ{p2 f2 p3 f3 p4 f4 p5 f5}{p1:Int×List Ins×Unit->Bool}{f1:Int×List Ins×Unit->Int×Int×Int×Int×Int×Int×List IOp×Unit}(hp1:∀pc l,(l.length:Int)<1000->KB l->p1 (pc,l,())=true)(hf1:∀pc l,(l.length:Int)<1000->KB l->((f1 (pc,l,())).2.2.2.2.2.2.1.length:Int)<=5000)(U2:Y81 p2 f2)(U3:Y74 p3 f3)(U4:Y38 p4 f4)(U5:Y82 p5 f5)(b:List Int)(p:Int)(hb:Bt b)(h1:0<=p)(h2:p<600000000):Qs.F (p1,f1,p2,f2,p3,f3,p4,f4,p5,f5,()) (b,p,()) (λy=>BkD 2000 5000 b p y):=by
 obtain⟨hp2,hf2⟩:=U2;obtain⟨hp3,hf3⟩:=U3;obtain⟨hp4,hf4⟩:=U4;obtain⟨hp5,hf5⟩:=U5
 replace hf2:=λc h=>show(f2 (c,())).2.2.2.2.2.2.1.length<=c.ops.length by rw [hf2 c h];exact Iw c
 replace hf3:=λc h=>show(f3 (c,())).2.2.2.2.2.2.1.length<=c.ops.length by rw [hf3 c h];exact ze c
 obtain⟨a1,a2,a3,a4,a5⟩:=hf5 b p hb h1 ah;have R:=pkR hb hf4;have P:=λn p h1 h2=>hp4 n b p hb h1 h2
 have L:=λpc=>hf1 pc _ (show((f5 (b,p,())).2.2.1.length:Int)<1000 by omega) a5
 have O1:=λc (h:c.ops.length<=5000)=>hp2 c ah
 have O2:=λc (h:c.ops.length<=5000)=>hf2 c ah
 have O3:=λc (h:c.ops.length<=5000)=>hp3 c ah
 have O4:=λc (h:c.ops.length<=5000)=>hf3 c ah
 dsimp only [Qs,gm];simp (disch:=omega) only [RR,hp5 b p hb h1 ah,a1,R,P,hp1 _ _ (show((f5 (b,p,())).2.2.1.length:Int)<1000 by omega) a5,List.length_cons,List.length_nil];have L':∀pc,(f1 (pc,(f5 (b,p,())).2.2.1,())).2.2.2.2.2.2.1.length<=5000:=λpc=>by have:=L pc;omega
 refine⟨λ_=>⟨O1 _ (L' _),rfl,by dsimp only;omega,by dsimp only;omega,Nat.le_trans (O2 _ (L' _)) (L' _)⟩,λ_=>⟨λ_=>⟨O3 _ (L' _),rfl,by dsimp only;omega,by dsimp only;omega,Nat.le_trans (O4 _ (L' _)) (L' _)⟩,λ_=>⟨rfl,by dsimp only;omega,by dsimp only;omega,L' _⟩⟩⟩
def al0{p1 f1 p2 f2}(U1:Y38 p1 f1)(U2:Y77 p2 f2)(c:Blk)(b:List Int)(p:Int)(hc:c.ops.length<1000000)(hb:Bt b)(h1:0<=p)(h2:p<900000000):JF.F (p1,f1,p2,f2,()) (c,b,p,()) (λy=>BkD 20 c.ops.length b p y):=by
 have R:=pkR hb U1.hf;have P:=λn p h1 h2=>U1.hp n b p hb h1 h2
 by_cases z:(c.ops.length:Int)=0
 .dsimp only [JF,gm];simp (disch:=omega) only [RR,RB,U2.hp c hc,U2.hf c hc,z];exact⟨rfl,by dsimp only;omega,by dsimp only;omega,Nat.le_refl _⟩
 have B:=(U1.hf c.ops.length b p hb h1 ah).2.2;have W:IntKind.i64.wrap ((f1 (c.ops.length,b,p,())).1-1)=(f1 (c.ops.length,b,p,())).1-1:=w64 ah ah;dsimp only [JF,gm];simp (disch:=omega) only [RR,RB,U2.hp c hc,U2.hf c hc,R,P,z,List.length_set,W]
 repeat' (first | (refine And.intro ?_ ?_) | intro _)
 all_goals first | omega | exact⟨rfl,by dsimp only;omega,by dsimp only;omega,by dsimp only [abM];simp only [List.length_set,List.length_take,List.length_drop];omega⟩ | exact⟨rfl,by dsimp only;omega,by dsimp only;omega,by simp only [List.length_drop,List.length_take];omega⟩ | exact⟨rfl,by dsimp only;omega,by dsimp only;omega,Nat.le_refl _⟩
structure BoD(b:List Int)(p:Int)(y:Blk×List Int×Int×Unit):Prop where
 len:y.1.ops.length<100000
 b:y.2.1=b
 lo:p<=y.2.2.1
 hi:y.2.2.1<=p+5000
structure Y83(pp:Blk×List Int×Int×Unit->Bool)(ff:Blk×List Int×Int×Unit->Int×Int×Int×Int×Int×Int×List Int×Int×List IOp×Unit):Prop where
 hp:∀c b p,c.ops.length<1000000->Bt b->0<=p->p<900000000->pp (c,b,p,())=true
 hf:∀c b p,c.ops.length<1000000->Bt b->0<=p->p<900000000->BkD 20 c.ops.length b p (ff (c,b,p,()))
structure Y84(pp:List Int×Int×Unit->Bool)(ff:List Int×Int×Unit->Int×Int×Int×Int×Int×Int×List Int×Int×List IOp×Unit):Prop where
 hp:∀b p,Bt b->0<=p->p<600000000->pp (b,p,())=true
 hf:∀b p,Bt b->0<=p->p<600000000->BkD 2000 5000 b p (ff (b,p,()))
def al1{p1 f1 p2 f2 p3 f3 p4 f4}(U1:Y39 p1 f1)(U2:Y38 p2 f2)(U3:Y83 p3 f3)(U4:Y84 p4 f4)(n:Int)(b:List Int)(p:Int)(hb:Bt b)(h1:0<=p)(h2:p<500000000):Qt.F (p1,f1,p2,f2,p3,f3,p4,f4,()) (n,b,p,()) (λy=>BoD b p y):=by
 obtain⟨a1,a2,a3,a4⟩:=U4.hf b p hb h1 ah;have H4:=U4.hp b p hb h1 ah;have R:=pkR hb U2.hf;have P:=λn p h1 h2=>U2.hp n b p hb h1 h2
 have R1:=λn p h1 h2=>(U1.hf n b p hb h1 h2).1
 have R2:=λn p h1 h2=>(U1.hf n b p hb h1 h2).2
 have P1:=λn p h1 h2=>U1.hp n b p hb h1 h2
 dsimp only [Qt,gm];simp (disch:=omega) only [RR,RB,H4,a1,R,P,R1,R2,P1,List.length_cons,List.length_nil,List.length_append]
 repeat' (first | (refine And.intro ?_ ?_) | intro _)
 all_goals try omega
 all_goals try exact BoD.mk (show(f4 (b,p,())).2.2.2.2.2.2.2.2.1.length<100000 by omega) rfl (by dsimp only;omega) (by dsimp only;omega)
 all_goals try exact U3.hp _ _ _ (show(f4 (b,p,())).2.2.2.2.2.2.2.2.1.length<1000000 by omega) hb ah ah
 all_goals try exact BoD.mk (show(_++ [_]).length<100000 by rw [List.length_append,List.length_singleton];omega) rfl (by dsimp only;omega) (by dsimp only;omega)
 all_goals try exact(λh=>BoD.mk (Nat.lt_of_le_of_lt h.len (show(f4 (b,p,())).2.2.2.2.2.2.2.2.1.length<100000 by omega)) h.b (by have:=h.lo;dsimp only;omega) (by have:=h.hi;dsimp only;omega)) (U3.hf _ _ _ (show(f4 (b,p,())).2.2.2.2.2.2.2.2.1.length<1000000 by omega) hb ah ah)
 all_goals
  refine ak (λ(y:List Int×Int×Int×Int×Int×Int×Int×Int×Int×Int×Int×Int×Int×Int×List IOp×Unit)=>y.1=b/\p<=y.2.1/\y.2.1<=p+5000/\y.2.2.2.2.2.2.2.2.2.2.2.2.2.2.1.length<50000) (λy=>50-y.2.2.2.2.2.2.2.2.2.2.2.2.2.2.1.length) ⟨rfl,by dsimp only;omega,by dsimp only;omega,by dsimp only;omega⟩ ?_;rintro⟨(b':List Int),(q:Int),u1,u2,u3,u4,u5,u6,b1,b2,b3,b4,b5,b6,(ops:List IOp),⟨⟩⟩ hI;dsimp only at hI ⊢;obtain⟨rfl,h3,h4,h5⟩:=hI;simp (disch:=omega) only [RR,List.length_append,List.length_cons,List.length_nil];refine⟨λh=>⟨ah,⟨ah,ah,ah⟩,ah⟩,λh=>⟨show ops.length<100000 by omega,rfl,by dsimp only;omega,by dsimp only;omega⟩⟩
structure Y85(pp:Int×List Int×Int×Unit->Bool)(ff:Int×List Int×Int×Unit->Blk×List Int×Int×Unit):Prop where
 hp:∀n b p,Bt b->0<=p->p<500000000->pp (n,b,p,())=true
 hf:∀n b p,Bt b->0<=p->p<500000000->BoD b p (ff (n,b,p,()))
def al2{p1 f1 p2 f2 p3 f3}(U1:Y41 p1 f1)(U2:Y85 p2 f2)(U3:Y45 p3 f3)(c:List Int)(hc:By c)(hl:c.length<1000000000):Sj.F (p1,f1,p2,f2,p3,f3,()) (c,()) (λy=>ShT y.1/\0<y.1.length/\y.2.1.ops.length<100000):=by
 obtain⟨hb,e0⟩:=U1.hf c hc hl;generalize hbe:(f1 (c,())).1=b at hb;obtain⟨a1,a2,a3,a4,a5⟩:=U3.hf 20 b 0 hb ah ah;obtain⟨b1,b2,b3,b4⟩:=U2.hf 14 b (f3 (20,b,0,())).2.1 hb ah ah;dsimp only [Sj,gm];simp (disch:=omega) only [RR,U1.hp c hc hl,hbe,e0,U3.hp 20 b 0 hb ah ah,a1,U2.hp 14 b (f3 (20,b,0,())).2.1 hb ah ah];exact⟨a4,a5,b1⟩
structure Y86(pp:Int×List Int×Int×Unit->Bool)(ff:Int×List Int×Int×Unit->Blk×Blk×List Int×Int×Unit):Prop where
 hp:∀n b p,Bt b->0<=p->p<400000000->pp (n,b,p,())=true
 hf:∀n b p,Bt b->0<=p->p<400000000->(ff (n,b,p,())).1.ops.length<100000/\(ff (n,b,p,())).2.1.ops.length<100000/\(ff (n,b,p,())).2.2.1=b/\p<=(ff (n,b,p,())).2.2.2.1/\(ff (n,b,p,())).2.2.2.1<=p+10000000
def arz{p1 f1}(U1:Y33 p1 f1)(a b:List (List aj))(ha:ShP a):abG.F (p1,f1,()) (a,b,()) (λy=>y=(bp (a=b),())):=by
 have hlen:=ha.1;dsimp only [abG,gm];simp (disch:=omega) only [RR];refine⟨λh=> ?_,λh=> ?_⟩
 .rw [bP (λe=>h (by rw [e]))]
 have hl:a.length=b.length:=by omega
 refine ak (λ(y:List (List aj)×List (List aj)×Int×Unit)=>y.1=a/\y.2.1=b/\0<=y.2.2.1/\y.2.2.1<=a.length/\All y.2.2.1 (λi=>a.getD i.toNat default=b.getD i.toNat default)) (λy=>(a.length-y.2.2.1).toNat) ⟨rfl,rfl,by simp,by simp,All.zero⟩ ?_;rintro⟨(l1:List (List aj)),(l2:List (List aj)),(i:Int),⟨⟩⟩ hI;dsimp only at hI ⊢;obtain⟨rfl,rfl,h1,h2,h3⟩:=hI;simp (disch:=omega) only [RR,U1.hp _ _ (ha.at _),U1.hf _ _ (ha.at _),aQ,jh];refine⟨λh4=>⟨ah,ah,ah,ah,λh5=> ?_,λh5=>⟨⟨ah,ah,h3.snoc h5⟩,ah⟩⟩,λh4=> ?_⟩
 .rw [bP];intro e;rw [e]at h5;exact h5 rfl
 .rw [aV (DU hl (h3.le ah))]
structure Y87(pp:List (List aj)×List (List aj)×Unit->Bool)(ff:List (List aj)×List (List aj)×Unit->Bool×Unit):Prop where
 hp:∀a b,ShP a->pp (a,b,())=true
 hf:∀a b,ShP a->ff (a,b,())=(bp (a=b),())
def arA{p1 f1 p2 f2}(U1:Y33 p1 f1)(U2:Y87 p2 f2)(a b:Sym)(he:a=b)(ha:ShY a):abH.F (p1,f1,p2,f2,()) (a,b,()) (λy=>y=(true,())):=by
 subst he;have hl:=ha.e.1;dsimp only [abH,gm];simp (disch:=omega) only [RR,RB,U2.hp _ _ ha.r,U2.hf _ _ ha.r,U1.hp _ _ ha.x,U1.hf _ _ ha.x,U1.hp _ _ ha.y,U1.hf _ _ ha.y,aV True.intro];refine ak (λ(y:Int×Sym×Sym×Unit)=>y.2.1=a/\y.2.2.1=a/\0<=y.1) (λy=>(a.events.length-y.1).toNat) ⟨rfl,rfl,by dsimp only;omega⟩ ?_;rintro⟨(i:Int),(l1:Sym),(l2:Sym),⟨⟩⟩ hI;dsimp only at hI ⊢;obtain⟨rfl,rfl,h1⟩:=hI;have he:=ha.e.at i.toNat;simp (disch:=omega) only [RR,RB,U2.hp _ _ he.2.2,U2.hf _ _ he.2.2,U1.hp _ _ he.1,U1.hf _ _ he.1,U1.hp _ _ he.2.1,U1.hf _ _ he.2.1,aV True.intro];exact λh=>by
  rw [w64 ah ah];exact⟨ah,ah,ah,ah⟩
structure Y88(pp:List Atom×Blk×Unit->Bool)(ff:List Atom×Blk×Unit->List Atom×Sym×Unit):Prop where
 hp:∀t b,ShT t->b.ops.length<1000000000->pp (t,b,())=true
 hf:∀t b,ShT t->b.ops.length<1000000000->ff (t,b,())=((bq t b).1,(bq t b).2,())
structure Y89(pp:List Int×Unit->Bool)(ff:List Int×Unit->List Atom×Blk×Unit):Prop where
 hp:∀c,By c->c.length<1000000000->pp (c,())=true
 hf:∀c,By c->c.length<1000000000->ShT (ff (c,())).1/\0< (ff (c,())).1.length/\(ff (c,())).2.1.ops.length<100000
structure Y90(pp:Sym×Sym×Unit->Bool)(ff:Sym×Sym×Unit->Bool×Unit):Prop where
 hp:∀a b,a=b->ShY a->pp (a,b,())=true
 hf:∀a b,a=b->ShY a->ff (a,b,())=(true,())
def J4{P:Prop}[Decidable P]:decide P=bp P:=by unfold bp;congr
structure Y91(pp:List IOp×List IOp×Unit->Bool)(ff:List IOp×List IOp×Unit->Bool×Unit):Prop where
 hp:∀a b,a.length<1000000000->pp (a,b,())=true
 hf:∀a b,a.length<1000000000->ff (a,b,())=(bp (a=b),())
structure Y92(pp:Ev×Ev×Unit->Bool)(ff:Ev×Ev×Unit->Bool×Unit):Prop where
 hp:∀a b,ShE a->pp (a,b,())=true
 hf:∀a b,ShE a->ff (a,b,())=(bp (a=b),())
structure Y93(pp:Blk×Blk×Unit->Bool)(ff:Blk×Blk×Unit->Bool×Unit):Prop where
 hp:∀a b,a.ops.length<1000000000->pp (a,b,())=true
 hf:∀a b,a.ops.length<1000000000->ff (a,b,())=(bp (a=b),())
structure Y94(pp:Sym×Sym×Unit->Bool)(ff:Sym×Sym×Unit->Bool×Unit):Prop where
 hp:∀a b,ShY a->pp (a,b,())=true
 hf:∀a b,ShY a->ff (a,b,())=(bp (a=b),())
structure Y95(pp:Blk×Blk×Unit->Bool)(ff:Blk×Blk×Unit->Bool×Unit):Prop where
 hp:∀b c,b.ops.length<1000000000->c.ops.length<1000000000->pp (b,c,())=true
 hf:∀b c,b.ops.length<1000000000->c.ops.length<1000000000->ff (b,c,())=(chk b c,())
structure Y96(pp:List Int×Unit->Bool)(ff:List Int×Unit->Blk×Blk×Unit):Prop where
 hp:∀c,By c->c.length<1000000000->pp (c,())=true
 hf:∀c,By c->c.length<1000000000->(ff (c,())).1.ops.length<100000/\(ff (c,())).2.1.ops.length<100000
structure arB(nm:List Int)(fin x y:Int)(ops:List IOp):Prop where
 op:∀i:Int,0<=i->i<ops.length->(hX ((ops).getD (i).toNat default)->0<=(((ops).getD (i).toNat default)).x/\(((ops).getD (i).toNat default)).x<nm.length)/\(hY ((ops).getD (i).toNat default)->0<=(((ops).getD (i).toNat default)).y/\(((ops).getD (i).toNat default)).y<nm.length)
 x:fin≠1->0<=x/\x<nm.length
 y:3<=fin->0<=y/\y<nm.length
 l:ops.length<1000000000
structure Y97(pp:List Int×Int×Int×Int×Int×Int×Int×List IOp×Unit->Bool)(ff:List Int×Int×Int×Int×Int×Int×Int×List IOp×Unit->Int×Int×Int×Int×Int×Int×List IOp×Unit):Prop where
 hp:∀(nm:List Int) pc len fin x y k ops,arB nm fin x y ops->pp (nm,pc,len,fin,x,y,k,ops,())=true
 hf:∀(nm:List Int) pc len fin x y k ops,arB nm fin x y ops->ff (nm,pc,len,fin,x,y,k,ops,())=(pc,len,fin,(if fin=1 then x else((nm).getD (x).toNat default)),(if 3<=fin then((nm).getD (y).toNat default)else y),k,ops.map (ren nm),())
structure Y98(pp:Blk×Unit->Bool)(ff:Blk×Unit->Int×Int×Int×Int×Int×Int×List IOp×Unit):Prop where
 hp:∀b,b.ops.length<1000000000->pp (b,())=true
 hf:∀b,b.ops.length<1000000000->ff (b,())=bk7 b
structure Y99(pp:Blk×Unit->Bool)(ff:Blk×Unit->List Bool×Unit):Prop where
 hp:∀b,eP b->pp (b,())=true
 hf:∀b,eP b->ff (b,())=(us b b.ops.length,())
structure au9(pp:Blk×Unit->Bool)(ff:Blk×Unit->Blk×Unit):Prop where
 hp:∀b,b.ops.length<1000000->pp (b,())=true
 hf:∀b,b.ops.length<1000000->ff (b,())=(jZ b,())
structure ava(pp:Blk×Unit->Bool)(ff:Blk×Unit->Blk×Unit):Prop where
 hp:∀b,b.ops.length<1000000->pp (b,())=true
 hf:∀b,b.ops.length<1000000->ff (b,())=(mU b,())
structure avb(pp:Blk×Unit->Bool)(ff:Blk×Unit->Blk×Unit):Prop where
 hp:∀b,b.ops.length<1000000->pp (b,())=true
 hf:∀b,b.ops.length<1000000->ff (b,())=(qW b,())
structure avc(pp:List Int×Unit->Bool)(ff:List Int×Unit->Blk×Unit):Prop where
 hp:∀c,By c->c.length<1000000000->pp (c,())=true
 hf:∀c,By c->c.length<1000000000->(ff (c,())).1.ops.length<100000
structure avd(pp:Blk×Unit->Bool)(ff:Blk×Unit->Int×Unit):Prop where
 hp:∀b,b.ops.length<1000000->pp (b,())=true
 hf:∀b,b.ops.length<1000000->ff (b,())=(((MG b.ops).length:Int),())
structure ave(pp:Blk×Unit->Bool)(ff:Blk×Unit->Blk×Unit):Prop where
 hp:∀b,b.ops.length<1000000->pp (b,())=true
 hf:∀b,b.ops.length<1000000->ff (b,())=(JX b,())
def ShC(l:List Cer):Prop:=l.length<1000/\∀q∈l,q.base.ops.length<1000000/\q.made.ops.length<1000000
def auy(l:List Cer)(b c:Blk):Prop:=∃q∈l,q.base=b/\q.made=c
def aiz(l:List Cer):Prop:=l.length<=3/\∀q∈l,chk q.base q.made=true
def ShC.at{l:List Cer}(h:ShC l)(i:Nat):(l.getD i default).base.ops.length<1000000/\(l.getD i default).made.ops.length<1000000:=by
 by_cases c:i<l.length
 .rw [getD_lt c];exact h.2 _ (List.getElem_mem _)
 .rw [List.getD_eq_getElem?_getD,List.getElem?_eq_none ah];exact⟨by decide,by decide⟩
def ShC.add{l:List Cer}(h:ShC l)(n:l.length<999){q:Cer}(h1:q.base.ops.length<1000000)(h2:q.made.ops.length<1000000):ShC (l++ [q]):=by
 refine⟨by rw [List.length_append,List.length_singleton];omega,λc g=> ?_⟩;rw [List.mem_append,List.mem_singleton]at g;rcases g with g | rfl
 .exact h.2 c g
 .exact⟨h1,h2⟩
def ShD(l:List Cer):Prop:=l.length<1000000000/\∀q∈l,q.base.ops.length<1000000000/\q.made.ops.length<1000000000
def ShC.d{l:List Cer}(h:ShC l):ShD l:=⟨by have:=h.1;omega,λq g=>by have:=h.2 q g;omega⟩
def ShD.at{l:List Cer}(h:ShD l)(i:Nat):(l.getD i default).base.ops.length<1000000000/\(l.getD i default).made.ops.length<1000000000:=by
 by_cases c:i<l.length
 .rw [getD_lt c];exact h.2 _ (List.getElem_mem _)
 .rw [List.getD_eq_getElem?_getD,List.getElem?_eq_none ah];exact⟨by decide,by decide⟩
structure avf(pp:Int×List Int×Int×Unit->Bool)(ff:Int×List Int×Int×Unit->List Cer×List Int×Int×Unit):Prop where
 hp:∀n b p,Bt b->0<=p->p<300000000->pp (n,b,p,())=true
 hf:∀n b p,Bt b->0<=p->p<300000000->ShC (ff (n,b,p,())).1/\(ff (n,b,p,())).2.1=b/\p<=(ff (n,b,p,())).2.2.1/\(ff (n,b,p,())).2.2.1<=p+20000
structure avg(pp:List Cer×Blk×Blk×Unit->Bool)(ff:List Cer×Blk×Blk×Unit->Bool×Unit):Prop where
 hp:∀l b c,ShC l->pp (l,b,c,())=true
 hf:∀l b c,ShC l->ff (l,b,c,())=(bp (auy l b c),())
structure avh(pp:List Cer×Unit->Bool)(ff:List Cer×Unit->Bool×Unit):Prop where
 hp:∀l,ShD l->pp (l,())=true
 hf:∀l,ShD l->ff (l,())=(bp (aiz l),())
end Go.TX.F
