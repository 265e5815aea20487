/- Part 6 of a proof: what the last part needs. No condition. -/
import Derived.Test.YtkilhdbfkcffcaaGreatDoorZe
import Derived.ChangeSlices
import Derived.ChangeSame
import Derived.JoinedOf
import Derived.JoinedAt
import Derived.Handed
import Derived.Below
import Derived.Carry
import Derived.OpenShut
import Derived.ChangeKeysEq
import Derived.Deep.Slices
import Derived.OpenVars
import Derived.LaidMore
import Derived.MakeChecks
import Derived.Test.YtkilhdbfkcffcaaGreatDoorY
set_option maxHeartbeats 1000000
set_option linter.all false
set_option linter.unusedSectionVars false
set_option linter.unusedVariables false
set_option linter.unusedSimpArgs false
namespace Go.TX.F
open Go Go.AE Go.TX List
abbrev avK(e:Eng):Bb:=(e.aj.regs,e.aj.pc,e.aj.save,e.aj.aL,e.aj.waits,e.aj.halt,e.aj.ins,e.aj.outs,e.aj.count,e.aj.mem,e.cache,e.aQ,())
structure DrR(y:Eng×Int×List Int×List Ask×Unit):Prop where
 z:EgZ y.1
 o:y.1.aj.outs.length<=2000
 n: -1000<=y.2.1/\y.2.1<=1000
 q:y.2.2.1.length<1000
 a:AsK y.2.2.2.1
structure DrT(y:Eng×Int×Bool×zx):Prop where
 z:EgZ y.1
 o:y.1.aj.outs.length<=2000
 n: -1000<=y.2.1/\y.2.1<=400
 q:y.2.2.2.1.length<1000
 a:By y.2.2.2.2.1
 l:y.2.2.2.2.1.length<1000000000
theorem avL{p1 f1 p2 f2 p3 f3}(F:Ua p1 f1)(C:aoe p2 f2)(w:azM p3 f3)(e:Eng)(q:List Int)(n:Int)(l:List Ask)(z:EgZ e)(k:e.aj.outs.length<500000000)(t:q.length<1000000000)(hn: -1000<=n/\n<=1000000)(B:AsK l):aaN.F (p1,f1,p2,f2,p3,f3,()) (e,q,n,l,()) (λy=>y=avK (wF e q n l)):=by
 have m:=EGM;have E:Co.mk .ask (true,[],())=pW:=rfl;obtain⟨u,v⟩:=F e z.m z.k.x z.c.d;obtain⟨s,r⟩:=w e z.m z.k z.c;dsimp only [aaN,gm,jG];simp (disch:=omega) only [RR,s,r,u,v,EGB,m];refine⟨λg=> ?_,λg=> ?_⟩
 .rw [Ic (λh=>g.elim (λg=>by rw [aJ h.1]at g;cases g) ah)];rfl
 have ok:=aF.1 g.1;have I:=ok.1.ct;have d:n<=400:=by omega
 have p:wF e q n l=Cq q (e.aj.count+n) (n.toNat+1) e l:=by unfold wF;rw [aJ ⟨ok,d⟩,eB rfl]
 have D:IntKind.i64.wrap (e.aj.count+n)=e.aj.count+n:=w64 ah ah;rw [p,D];refine ay (λ(y:List Int×List Ask×Int×Int×Int×Int×Bool×Bool×Int×Int×Bb)=>∃(x:Eng) (f:Nat) (i:Nat),RnI e q n l x f (l.drop i)/\i+f<=1000/\y=(q,l,(i:Int),e.aj.count+n,0,0,false,false,0,0,avK x)) (λy=>AB (e.aj.count+n) ⟨⟨[],0,[],0,false,false,y.2.2.2.2.2.2.2.2.2.2.2.2.2.2.2.1,[],[],y.2.2.2.2.2.2.2.2.2.2.2.2.2.2.2.2.2.2.1⟩,[],[]⟩) ⟨e,_,0,.start ok z B,ah,rfl⟩ ?_;rintro y ⟨x,f,i,R,J,rfl⟩;dsimp only;have G:=R.ok.1.ct;have Z:=R.z k d;have o:=Z.o;have wc:IntKind.i64.wrap (e.aj.count+n-x.aj.count)=e.aj.count+n-x.aj.count:=w64 ah ah;simp (disch:=omega) only [RR,m,E,wc];refine⟨λg=> ?_,λg=> ?_⟩
 .have c:x.aj.halt=0/\x.aj.count<1000000/\x.aj.count<e.aj.count+n:=⟨g.1,ah,ah⟩;obtain⟨T,lt⟩:=R.step k d c;have H:0<f:=by
   have:=R.o;unfold AB at this;rw [eB c.1]at this;omega
  have A:=R.a.hd;rw [tail_drop]at T;obtain⟨b,a⟩:=C x q (e.aj.count+n-x.aj.count) ((l.drop i).headD pW) Z.m ah Z.k Z.c t A.1 A.2;rw [Kz R.ok c.1 c.2.1 ah]at a;have fin:∀X:Eng×Bool,RnI e q n l X.1 (f-1) (if X.2=true then l.drop (i+1)else l.drop i)->RnI e q n l X.1 (f-1) (l.drop (if X.2=true then i+1 else i)):=λX h=>by split at h<;>(rename_i z;simpa [z]using h)
  have T:=fin _ T;by_cases j:(i:Int)<l.length
  .have hd:(l.drop i).headD pW=l.getD ((i:Int)).toNat default:=by
    rw [drop_eq_getElem_cons ah,headD_cons,getD_lt ah];rfl
   rw [hd]at b a T lt;generalize goE x q (e.aj.count+n-x.aj.count) (l.getD ((i:Int)).toNat default)=X at*;simp (disch:=omega) only [RR,j,b,a];refine⟨ah,λh=>⟨⟨_,f-1,i+1,?_,ah,rfl⟩,lt⟩,λh=>⟨⟨_,f-1,i,?_,ah,rfl⟩,lt⟩⟩
   .rw [h,eB rfl]at T;exact T
   .rw [h,dY (by decide)]at T;exact T
  .have hd:(l.drop i).headD pW=pW:=by
    rw [drop_eq_nil_of_le ah,headD_nil]
   rw [hd]at b a T lt;generalize goE x q (e.aj.count+n-x.aj.count) pW=X at*;simp (disch:=omega) only [RR,j,b,a];refine⟨λh=>⟨⟨_,f-1,i+1,?_,ah,rfl⟩,lt⟩,λh=>⟨⟨_,f-1,i,?_,ah,rfl⟩,lt⟩⟩
   .rw [h,eB rfl]at T;exact T
   .rw [h,dY (by decide)]at T;exact T
 .rw [R.stop (λc=>by
   have:(decide (x.aj.halt=0)&&decide (x.aj.count<if 1000000<e.aj.count+n then 1000000 else e.aj.count+n))=true:=by simp only [Bool.and_eq_true,decide_eq_true_eq];exact⟨c.1,by split<;>omega⟩
   rw [this]at g;cases g)]
theorem avM{p1 f1 p2 f2}(B:aoe p1 f1)(w:avt p2 f2)(e:Eng)(q:List Int)(n:Int)(b:List Int)(p:Int)(S:EgS e 2000)(s:q.length<1000000000)(hn: -1000<=n/\n<=1000000)(hc:0<=e.aj.count/\e.aj.count<=1000000)(m:Bt b)(I:0<=p)(D:p<300000000):Zr.F (p1,f1,p2,f2,()) (e,q,n,b,p,()) (λy=>AsK y.2.2.1):=by
 have mM:=MKM;have l:=EGM;have z:∀(x:Bool) (y:List Int),Co.mk .ask (x,y,())=(⟨x,y⟩:Ask):=λ_ _=>rfl
 dsimp only [Zr,gm,jG];simp (disch:=omega) only [RR,EGB];refine ay (λ(y:List Int×Int×Int×List Int×Int×List Ask×aCj)=>y.1=q/\y.2.1=e.aj.count+n/\0<=y.2.2.1/\y.2.2.1<=30/\y.2.2.2.1=b/\p<=y.2.2.2.2.1/\y.2.2.2.2.1<=p+2000000*y.2.2.1/\y.2.2.2.2.2.1.length<=y.2.2.1/\(∀a∈y.2.2.2.2.2.1,By a.bytes/\a.bytes.length<1000000000)/\EgS y.2.2.2.2.2.2.1 (2000+50*y.2.2.1.toNat)) (λy=>(30-y.2.2.1).toNat) ⟨rfl,by dsimp only,by simp,by simp,rfl,by simp,by simp,by simp,by simp,S⟩ ?_;rintro⟨(i:List Int),(d:Int),(k:Int),(j:List Int),(r:Int),(o:List Ask),(x:Eng),⟨⟩⟩ hI;dsimp only at hI ⊢;obtain⟨rfl,rfl,G,C,rfl,H,F,J,f,E⟩:=hI;have K:=E.o;obtain⟨u,A⟩:=w x.aj j r E.m m ah ah;simp (disch:=omega) only [RR,mM,l,z,EGB,u];generalize IntKind.i64.wrap (e.aj.count+n-x.aj.count)=L;generalize f2 (x.aj,j,r,())=y at*;have al:=A.l;have M:=A.p;obtain⟨t,v⟩:=B x i L ⟨y.1,y.2.2.2.1⟩ E.m ah E.k E.c s al.1 (by dsimp only;omega);have T:=Ib E ah i L (a:=⟨y.1,y.2.2.2.1⟩) (by dsimp only;omega);rw [show 2000+50*k.toNat+50=2000+50*(k+1).toNat by omega]at T;generalize kY x i L ⟨y.1,y.2.2.2.1⟩=X at*;simp (disch:=omega) only [RR,t,v,l,A.b,eG,length_singleton];refine⟨λg=>⟨λh=>⟨ah,⟨ah,ah,ah,ah,ah,λa c=> ?_,T⟩,ah⟩,λh=>⟨⟨ah,ah,ah,ah,ah,f,T⟩,ah⟩⟩,λg=>⟨ah,f⟩⟩;rw [mem_append,mem_singleton]at c;rcases c with c | rfl
 .exact f a c
 .exact⟨al.1,by dsimp only;omega⟩
def EoD.z{b:List Int}{p:Int}{y:Eng×lT}(h:EoD b p y):EgZ y.1:=⟨h.m,by have:=h.o;omega,h.k,h.c⟩
def adK{l:List Int}{M:Int}(a:0<=M)(h:∀x∈l, -1000<=x/\x<=M)(n:Nat): -1000<=l.getD n default/\l.getD n default<=M:=by
 by_cases c:n<l.length
 .rw [getD_lt c];exact h _ (getElem_mem _)
 .rw [getD_eq_getElem?_getD,getElem?_eq_none ah];exact⟨by decide,a⟩
def aAe:AsK [⟨true,[]⟩]:=⟨by decide,λa b=>by rw [mem_singleton]at b;subst b;exact⟨λx c=>(by cases c),by decide⟩⟩
theorem avN{p1 f1 p2 f2 p3 f3 p4 f4 p5 f5 p7 f7}{i:Eng×List Int×He->Bool}{l:Eng×List Int×He->Ms}(M:Ua p1 f1)(G:auI p2 f2)(r:Y41 p3 f3)(L:Y39 p4 f4)(k:Y38 p5 f5)(o:∀(e:Eng) (q:List Int) (n:Int) (b:List Int) (p:Int),EgS e 2000->q.length<1000000000->(-1000<=n/\n<=1000000)->(0<=e.aj.count/\e.aj.count<=1000000)->Bt b->0<=p->p<300000000->i (e,q,n,b,p,())=true/\AsK (l (e,q,n,b,p,())).2.2.1)(w:azW p7 f7)(c:List Int)(hc:By c)(s:c.length<1000000000):Zt.F (p1,f1,p2,f2,p3,f3,p4,f4,p5,f5,i,l,p7,f7,()) (c,()) (λy=>DrR y):=by
 have K:Co.mk .ask (true,[],())=⟨true,[]⟩:=rfl;obtain⟨a,v⟩:=(r c hc s).2;generalize m:(f3 (c,())).1=b at a;obtain⟨H,E⟩:=w 24 b 0 a ah ah;generalize F:f7 (24,b,0,())=y at*;have U:=E.lo;have X:=E.hi;have Z:=E.z;obtain⟨C,I⟩:=G b y.2.2.1 a ah ah;generalize A:f2 (b,y.2.2.1,())=z at*;obtain⟨x,W,T,Q⟩:=I;have R:=pkS a k;have P:=λn p h f=>(k n b p a h f).1
 obtain⟨J,O⟩:=L 24 b (z.2.1+1) a ah ah;obtain⟨B,D⟩:=M y.1 Z.m Z.k.x Z.c.d;have d:∀(n p:Int), -1000<=n/\n<=1000->0<=p->p<300000000->bp (iA y.1)=true->i (y.1,z.2.2.1,n,b,p,())=true/\DrR (y.1,n,z.2.2.1,(l (y.1,z.2.2.1,n,b,p,())).2.2.1,()):=λn p hn h f g=>by
  have ok:=aF.1 g;have t:=ok.1.ct;have S:=ajZ ok Z E.o;exact⟨(o y.1 z.2.2.1 n b p S ah ah t a h f).1,Z,E.o,by dsimp only;omega,by dsimp only;omega,(o y.1 z.2.2.1 n b p S ah ah t a h f).2⟩
 have no:∀n:Int, -1000<=n/\n<=1000->DrR (y.1,n,z.2.2.1,[⟨true,[]⟩],()):=λn hn=>⟨Z,E.o,by dsimp only;omega,by dsimp only;omega,aAe⟩
 dsimp only [Zt,gm];simp (disch:=omega) only [RR,(r c hc s).1,m,v,H,F,E.b,C,A,x,P,R,O,J,B,D,K,fA,fE];have j:=(k 60 b z.2.1 a ah ah).2;obtain⟨_,_,V,N⟩:=j;have u: -1000<= [(-1:Int),150,401].getD (f5 (3,b,z.2.1+1+1,())).1.toNat default/\ [(-1:Int),150,401].getD (f5 (3,b,z.2.1+1+1,())).1.toNat default<=1000:=adK (by decide) (by simp) _;refine⟨λ_=>⟨λg=>no _ u,λg=>d _ _ u ah ah g.1⟩,λ_=>⟨λg=>no _ ah,λg=>d _ _ ah ah ah g.1⟩⟩
def avO{p1 f1 p2 f2 p3 f3 p4 f4}(j:Y41 p1 f1)(f:Y38 p2 f2)(w:avt p3 f3)(B:azW p4 f4)(c:List Int)(hc:By c)(i:c.length<1000000000):aaQ.F (p1,f1,p2,f2,p3,f3,p4,f4,()) (c,()) (λy=>DrT y):=by
 have mM:=MKM;obtain⟨a,m⟩:=(j c hc i).2;generalize h:(f1 (c,())).1=b at a;obtain⟨s,E⟩:=B 20 b 0 a ah ah;generalize z:f4 (20,b,0,())=y at*;have G:=E.lo;have K:=E.hi;have Z:=E.z;have R:=pkS a f;have P:=λn p v q=>(f n b p a v q).1
 dsimp only [aaQ,gm,jG];simp (disch:=omega) only [RR,(j c hc i).1,h,m,s,z,E.b,P,R,EGB,mM,fA,fE];obtain⟨_,_,u,C⟩:=(f 4 b y.2.2.1 a ah ah).2;refine ay (λ(x:Int×Int×Int×Bool×Bool×Int×Int×Bool×List Int×Int×Eng×bn)=>0<=x.1/\x.1<=4/\x.2.2.2.2.2.2.2.2.1=b/\0<=x.2.2.2.2.2.2.2.2.2.1/\x.2.2.2.2.2.2.2.2.2.1<=100000000-x.1/\x.2.2.2.2.2.2.2.2.2.2.1=y.1/\x.2.2.2.2.2.2.2.2.2.2.2.1.length<=4-x.1) (λx=>x.1.toNat) ⟨u,ah,rfl,by dsimp only;omega,by dsimp only;omega,rfl,by simp;omega⟩ ?_;rintro⟨(k:Int),u1,u2,u3,u4,u5,u6,u7,(d:List Int),(r:Int),(e:Eng),(o:List Int),⟨⟩⟩ hI;dsimp only at hI ⊢;obtain⟨L,F,rfl,J,H,rfl,I⟩:=hI;obtain⟨t,A⟩:=w y.1.aj d (r+1+1) Z.m a ah ah;obtain⟨_,_,M,D⟩:=(f 10 d r a ah ah).2;have l: -1000<= [(30:Int),30,1,(f2 (10,d,r,())).1,0, -1].getD (f2 (6,d,r+1,())).1.toNat default/\ [(30:Int),30,1,(f2 (10,d,r,())).1,0, -1].getD (f2 (6,d,r+1,())).1.toNat default<=400:=adK (by decide) (by simp;omega) _;simp (disch:=omega) only [RR,P,R,t,eG,fA,fE];refine⟨λg=>⟨ah,⟨ah,ah,ah,ah,ah⟩,ah⟩,λg=>⟨Z,E.o,l,by dsimp only;omega,A.l.1,by have:=A.l.2;dsimp only;omega⟩⟩
def avP{p1 f1 p2 f2 p3 f3}(d:aBy p1 f1)(e:aBd p2 f2)(c:aub p3 f3)(a b:Eng)(z:EgZ a):aaM.F (p1,f1,p2,f2,p3,f3,()) (a,b,()) (λy=>y=(bp (a=b),())):=by
 have mM:=MKM;dsimp only [aaM,gm,jG];simp (disch:=omega) only [RR,EGB,mM,c _ b.aj z.m,d _ b.cache z.k,e _ b.aQ z.c];rw [<-eH,<-eH];exact Prod.ext (gP (by cases a;cases b;simp only [Eng.mk.injEq,and_assoc])) rfl
abbrev aBB(c:aBX->Bool)(b:aBX->Eng×lX):Prop:=∀(e:Eng) (q:List Int) (l:Int) (a:Ask),EgZ e->e.aj.outs.length<500000000->q.length<1000000000->By a.bytes->a.bytes.length<1000000000->c (e,q,l,a,())=true/\b (e,q,l,a,())=((kY e q l a).1,(kY e q l a).2,())
def afp{m:aC}{C:List Cer}(h:MOK m)(a:uY C):iA ⟨m,[],C⟩:=Ub (l:=[]) ⟨by decide,λx b=>(by cases b),Pairwise.nil,a⟩ h
def aj2(q:List Int)(d:Int):∀(f:Nat) (x:Eng) (r:List Ask) (N:Nat),iA x->EgS x N->N+50*f<600000000->AsK r->EgS (Cq q d f x r) (N+50*f)
 | 0,x,r,N,_,S,_,_=>S
 | f+1,x,r,N,ok,S,hN,ha=>by
  unfold Cq;split
  .rename_i c;have T:=(aj0 (r.headD pW) (q:=q) (left:=d-x.aj.count) ok c.1 c.2.1 ah).1;have E:=aj1 (q:=q) (l:=d-x.aj.count) (a:=r.headD pW) S ah ok c.1 c.2.1 ah ha.hd.2;have:=aj2 q d f _ (if(goE x q (d-x.aj.count) (r.headD pW)).2=true then r.tail else r) (N+50) T E ah (by split;exact ha.tl;exact ha)
   rwa [show N+50+50*f=N+50*(f+1) by omega]at this
  .exact⟨S.m,Nat.le_trans S.o ah,S.k,S.c,S.kl,S.cl,S.w,S.v⟩
def aAf{e:Eng}(z:EgZ e)(c:e.aj.outs.length<500000000){n:Int}(q:List Int){l:List Ask}(b:AsK l):EgZ (wF e q n l)/\(wF e q n l).aj.outs.length<=e.aj.outs.length+20050:=by
 by_cases h:iA e/\n<=400
 .have R:=aj2 q (e.aj.count+n) (n.toNat+1) e l _ h.1 (ajZ h.1 z (Nat.le_refl _)) ah b;have a:wF e q n l=Cq q (e.aj.count+n) (n.toNat+1) e l:=by unfold wF;rw [aJ h,eB rfl]
  rw [a];exact⟨R.z ah,Nat.le_trans R.o ah⟩
 .rw [Ic h];exact⟨⟨⟨by decide,by decide,by decide,by decide⟩,by decide,ShK.nil,ShC.nil⟩,Nat.zero_le _⟩
abbrev aBC(b:Eng×Ms->Bool)(a:Eng×Ms->aCj):Prop:=∀(e:Eng) (q:List Int) (n:Int) (l:List Ask),EgZ e->e.aj.outs.length<500000000->q.length<1000000000->(-1000<=n/\n<=1000000)->AsK l->b (e,q,n,l,())=true/\a (e,q,n,l,())=(wF e q n l,())
def avQ{e:Eng}{n:Int}(h:bp (iA e)=false\/400<n)(q:List Int)(l:List Ask):wF e q n l=aeN:=
 Ic (λg=>h.elim (λh=>gK.1 h g.1) ah) q l
abbrev aAg(d:Eng×aCj->Bool)(c:Eng×aCj->lX):Prop:=∀a b,EgZ a->d (a,b,())=true/\c (a,b,())=(bp (a=b),())
abbrev aBD(b:bn->Bool)(a:bn->Eng×Int×List Int×List Ask×Unit):Prop:=∀c,By c->c.length<1000000000->b (c,())=true/\DrR (a (c,()))
def avR{p1 f1 p2 f2 p3 f3 p4 f4 p5 f5 p6 f6 p7 f7}{m:Eng×Ms->Bool}{i:Eng×Ms->Bb}(P:aBC p1 f1)(K:azE p2 f2)(I:aAg p3 f3)(O:aub p4 f4)(k:Y47 p5 f5)(C:aBD p6 f6)(s:Ua p7 f7)(E:∀(e:Eng) (q:List Int) (n:Int) (l:List Ask),EgZ e->e.aj.outs.length<500000000->q.length<1000000000->(-1000<=n/\n<=1000000)->AsK l->m (e,q,n,l,())=true/\i (e,q,n,l,())=avK (wF e q n l))(c:List Int)(hc:By c):aaP.F (p1,f1,p2,f2,p3,f3,p4,f4,p5,f5,p6,f6,p7,f7,m,i,()) (c,()) (λy=>y=(true,())):=by
 have mM:=MKM;have Q:=EGM;dsimp only [aaP,gm,jG];by_cases p:1048576< (c.length:Int)
 .simp (disch:=omega) only [RR,p]
 obtain⟨M,D⟩:=C c hc ah;generalize J:f6 (c,())=y at*;obtain⟨e,n,q,l,⟨⟩⟩:=y;obtain⟨Z,o,hn,x,d⟩:=D;dsimp only at Z o hn x d;obtain⟨F,H⟩:=P e q n l Z ah ah ah d;obtain⟨A,B⟩:=E e q n l Z ah ah ah d;obtain⟨Y,R⟩:=aAf (n:=n) Z ah q d;have no:=λh=>avQ (e:=e) (n:=n) h q l
 have f:=λ(z:iA e) (r:n<=400)=>ajY z r q l
 generalize wF e q n l=X at*;obtain⟨L,t⟩:=s e Z.m Z.k.x Z.c.d;obtain⟨G,N⟩:=K e.aj q n Z.m ah ah;obtain⟨w,j⟩:=I X X Y;rw [aJ rfl]at j;obtain⟨u,v⟩:=O X.aj (lZ q n e.aj) Y.m;simp (disch:=omega) only [RR,p,M,J,mM,Q,F,H,A,B,w,j,L,t,EGB,G,N,u,v];refine⟨λg=>⟨Or.inr (k).1,by rw [no g,(k).2];rfl⟩,λg=> ?_⟩;obtain⟨a,b⟩:=f (aF.1 g.1) ah;rw [b,aJ rfl]
variable{e:Eng}{q:List Int}
def adL(h:bp (iA e)=false)(q:List Int)(l:Int)(a:Ask):kY e q l a=(aeN,false):=by
 unfold kY;rw [h,eB rfl]
def abj(ok:iA e){l:Int}{a:Ask}(h:e.aj.halt≠0\/l<1\/e.aj.count=1000000):kY e q l a=(e,false):=by
 unfold kY;rw [aJ ok,dY (by decide),eB h]
def avS:EgZ aeN:=⟨⟨by decide,by decide,by decide,by decide⟩,by decide,ShK.nil,ShC.nil⟩
def avT(z:EgZ e)(c:e.aj.outs.length<500000000){l:Int}{a:Ask}(b:a.bytes.length<1000000000):EgZ (kY e q l a).1/\(kY e q l a).1.aj.outs.length<=e.aj.outs.length+50:=by
 by_cases h:iA e
 .have S:=Ib (ajZ h z (Nat.le_refl _)) ah q l b;exact⟨S.z ah,S.o⟩
 .rw [adL (aV h)];exact⟨avS,Nat.zero_le _⟩
abbrev aBE(b:bn->Bool)(a:bn->Eng×Int×Bool×zx):Prop:=∀c,By c->c.length<1000000000->b (c,())=true/\DrT (a (c,()))
theorem avU{p1 f1 p2 f2 p3 f3 p4 f4 p5 f5 p6 f6 p7 f7 p8 f8 p9 f9}(U1:Ua p1 f1)(U:aBB p2 f2)(u:azE p3 f3)(A:aAg p4 f4)(r:aub p5 f5)(s:Y47 p6 f6)(C:aBE p7 f7)(O:Ua p8 f8)(K:aoe p9 f9)(c:List Int)(hc:By c):aaR.F (p1,f1,p2,f2,p3,f3,p4,f4,p5,f5,p6,f6,p7,f7,p8,f8,p9,f9,()) (c,()) (λy=>y=(true,())):=by
 have mM:=MKM;have mG:=EGM;have mA:∀(x:Bool) (y:List Int),Co.mk .ask (x,y,())=(⟨x,y⟩:Ask):=λ_ _=>rfl
 dsimp only [aaR,gm,jG];by_cases t:1048576< (c.length:Int)
 .simp (disch:=omega) only [RR,t]
 obtain⟨V,D⟩:=C c hc ah;generalize S:f7 (c,())=y at*;obtain⟨e,l,f,q,d,⟨⟩⟩:=y;obtain⟨Z,o,hn,J,p,j⟩:=D;dsimp only at Z o hn J p j;obtain⟨Q,H2⟩:=U e q l ⟨f,d⟩ Z ah ah p j;obtain⟨N,W⟩:=K e q l ⟨f,d⟩ Z.m ah Z.k Z.c ah p j;obtain⟨Y,Yo⟩:=avT (q:=q) (l:=l) (a:=⟨f,d⟩) Z ah j;have no:=λh=>adL (e:=e) h q l ⟨f,d⟩
 have st:=λh i=>abj (e:=e) (q:=q) (l:=l) (a:=⟨f,d⟩) h i
 have go:iA e->¬(e.aj.halt≠0\/l<1\/e.aj.count=1000000)->∃k:Nat,TuL e q l (kY e q l ⟨f,d⟩).1 k:=λok h=>by
  have cw:=ok.1.ct;rw [Kz ok ah ah ah];exact Ud _ ok ah ah ah
 generalize kY e q l ⟨f,d⟩=X at*;obtain⟨P,R⟩:=U1 e Z.m Z.k.x Z.c.d;obtain⟨L,M⟩:=O e Z.m Z.k.x Z.c.d;have E:=λb=>(A X.1 b Y).1
 have H:=λb=>(A X.1 b Y).2
 have I:=λn=>(u e.aj q n Z.m ah ah).1
 have G:=λn=>(u e.aj q n Z.m ah ah).2
 have P5:=λb=>(r X.1.aj b Y.m).1
 have F:=λb=>(r X.1.aj b Y.m).2
 have t4:bp (X.1=X.1)=true:=aJ rfl;simp (disch:=omega) only [RR,t,V,S,mA,mM,mG,Q,H2,N,W,E,H,t4,P,R,L,M,EGB,I,G,P5,F];refine⟨λg=>absurd g (by simp [aJ]),λ_=>⟨λg=>⟨Or.inr (s).1,by rw [no g,(s).2];rfl⟩,λg=>⟨λh=> ?_,λh=> ?_⟩⟩⟩
 .rw [st (aF.1 g) ah,aJ rfl]
 have ok:=aF.1 g;obtain⟨k,T⟩:=go ok ah;have c1:=ok.1.ct;have c2:=T.ok.1.ct;have k1:=T.k1;have kl:=T.kl;have cn:=T.cnt;have w:IntKind.i64.wrap (X.1.aj.count-e.aj.count)=X.1.aj.count-e.aj.count:=w64 ah ah;have B:IntKind.i64.wrap (X.1.aj.count-e.aj.count+1)=X.1.aj.count-e.aj.count+1:=w64 ah ah;have v:∀n:Int,n=k->bp (X.1.aj=lZ q n e.aj)=true:=λn h=>by
  have z:lZ q n e.aj=X.1.aj:=by
   rw [h];unfold lZ;rw [aJ (show MOK e.aj/\(k:Int)<=400 from⟨ok.1,ah⟩),eB rfl];exact T.run
  exact aJ z.symm
 rw [w,B];by_cases i:2<=X.1.aj.halt
 .rw [eB i]at cn;exact⟨λm=>absurd m ah,λ_=>⟨λ_=>by rw [v _ ah],λz=>absurd i z⟩⟩
 .rw [dY i]at cn;exact⟨λm=>absurd m ah,λ_=>⟨λz=>absurd z i,λ_=>by rw [v _ ah]⟩⟩
end Go.TX.F
namespace Go.TX.F
open Go Go.AE Go.TX List
end Go.TX.F
namespace Go.TX
open Go Go.AE
variable{P:Program}{f:FuncId}{v:Value}{W:World}
def enters_of{b:Func}{c:Code}(e:P.funcs[f]? =some b)(a:(b.name== "runtime.NumGoroutine")=false)(h:b.body=some c):Enters P f:=by
 intro d w;have g:b.name≠ "runtime.NumGoroutine" :=by simpa using a
 simp [callFunc,e,g,h,mark]
def adM(P:Program):Nat->List Field->Bool
 | _,[]=>true
 | k,f::fs=> !(f.name== "_")&&f.offset==k&& (match P.underlying f.type with | some (.int _)=>true | _=>false)&&adM P (k+1) fs
def adN(w:World)(d:Nat)(xs a:List Int)(q:xs.length=a.length):∀(h:List Field) (k:Nat),adM P k h=true->k+h.length=xs.length->
  (Op.eqFields (d+1) (xs.map (Value.int .i64)).toArray (a.map (Value.int .i64)).toArray h).run P w= .ok (xs.drop k==a.drop k) w
 | [],k,_,h2=>by
  rw [List.drop_eq_nil_of_le (show xs.length<=k by simp only [fE]at h2;omega),List.drop_eq_nil_of_le (show a.length<=k by simp only [fE]at h2;omega)];simp [Op.eqFields]
 | f::h,k,h1,h2=>by
  simp only [fA]at h2;simp only [adM,Bool.and_eq_true,Bool.not_eq_true',beq_eq_false_iff_ne,beq_iff_eq]at h1;obtain⟨⟨⟨s,m⟩,i⟩,o⟩:=h1;have hk:k<xs.length:=by omega
  have b:k<a.length:=by omega
  obtain⟨j,g⟩:∃j,P.underlying f.type=some (.int j):=by
   cases g:P.underlying f.type with
   | none=>rw [g]at i;cases i
   | some z=>cases z<;>(first | exact⟨_,rfl⟩ | (rw [g]at i;cases i))
  have l:P.plainKey f.type=true:=by unfold Program.plainKey;rw [g]
  have p:=run_part_plain w l (xs:=(xs.map (Value.int .i64)).toArray) (off:=f.offset) (v:= .int .i64 xs[k]) (by rw [m];simp [hk]);have n:=run_part_plain w l (xs:=(a.map (Value.int .i64)).toArray) (off:=f.offset) (v:= .int .i64 a[k]) (by rw [m];simp [b]);have r:=adN w d xs a q h (k+1) o ah;simp only [Op.eqFields,eB s,Sem.run_bind,p,n,Result.andThen_ok,run_equalIn_int w d f.type .i64 j _ _ g];have e:(xs.drop k==a.drop k)=((xs[k]==a[k])&& (xs.drop (k+1)==a.drop (k+1))):=by rw [List.drop_eq_getElem_cons hk,List.drop_eq_getElem_cons b];rfl
  rw [e];by_cases c:(xs[k]==a[k])=true
  .rw [c];simp only [Bool.not_true,Bool.false_eq_true,if_false,r,Bool.true_and]
  .have c2:(xs[k]==a[k])=false:=by simpa using c
   rw [c2];simp only [Bool.not_false,if_true,Sem.run_pure,Bool.false_and]
def avV{t:TypeId}{n:Nat}(d:P.underlying t=some (.struct (P.fieldsOf t)))(e:P.stoodInHeld t=false)(f:P.eqGuardType P.depth t=false)(c:adM P 0 (P.fieldsOf t).toList=true)(hn:(P.fieldsOf t).size=n)(b a:List Int)(h:b.length=n)(g:a.length=n)(w:World):
  (Op.equal t (.agg (b.map (Value.int .i64)).toArray) (.agg (a.map (Value.int .i64)).toArray)).run P w= .ok (b==a) w/\
  (eqGuard .eql t (.tmp 0) (.tmp 0) (.agg (b.map (Value.int .i64)).toArray) (.agg (a.map (Value.int .i64)).toArray)).run P w= .ok () w:=by
 refine⟨?_,run_eqGuard_agg w _ _ _ _ _ _ f⟩;show(Op.equalIn (9999+1) t _ _).run P w=_;rw [run_equalIn_struct w 9999 t _ _ d e,adN w 9998 b a ah _ 0 c (by rw [Array.length_toList];omega)];rfl
noncomputable def never (s:Sig):Ct aH s:={pre:=λ_=>false,fn:=λ_=>Classical.choice (yY _)}
def nP{E:Tab}{s:Sig}(h:Enters E.P f):dP E f (dK (never s)) where
 enters:=h
 calls:=by
  rintro b g n K ⟨m,d,i,l,j,k,o,a,c,e⟩;exfalso;unfold vM at a;split at a
  .split at a
   .split at a
    .split at a
     .cases a;have:=c false (List.mem_append_right _ (List.mem_singleton.2 rfl));cases this
     .cases a
    .cases a
   .cases a
  .cases a
abbrev aBF:Sig:={args:=[.c (.rows true .u8)],objs:=[],res:=[.c .bool],dW:=[]}
def entry(W:World):Ctx:={K:=λ_ b=>b<W.heap.size,ν:=λ_=>none,n:=0}
def abk(W:World):bN (entry W) W []:=
 ⟨λl o h=>(by cases h),λl o a c b h=>(by cases h),λf b ⟨l,o,h,_⟩=>(by cases h),λf b h=>h,λb h=>h⟩
def Uf{W a:World}{c:Ctx}{b:Heap}(g:Grow (entry W) W [] c a b):RowKit.Below W.heap.size W a:=
 ⟨g.os,g.tape,g.output,g.size,λk hk=>g.kept k hk λ⟨l,o,h,_⟩=>by cases h⟩
def aol{c:Ctx}{w:World}{r:PV}{N:NM}{b:Bool}(f:bM c w v r)(a:PVR N r (.c (.d true (.bool b)))):v= .bool b:=by
 cases a with
 | one h=>
  cases h with
  | c h=>
   cases h with
   | d i _=>
    subst i;cases f with
    | c _ _ e=>cases e with
     | d _ _ _ g=>cases g;rfl
  | agg h=>cases h
def aAh{E:Tab}{c:Ct aH aBF}(hc:dP E f (dK c)){a:List Int}(p:dL (λb=>b<W.heap.size) W v (.rows 1 (aR .u8 a)))
  (k:qP E (entry W) W) (n:c.pre (a,())=true):Go.Calls E.P f #[v] W λe d=>e= .returned (.bool (c.fn (a,())).1)/\RowKit.Below W.heap.size W d:=by
 refine(hc.calls [.c (.d true (.rows 1 (aR .u8 a)))] [] 0 (λr _ _=>PVR (nmh []) r (.c (.d true (.bool (c.fn (a,())).1)))) ?_ (entry W) W [v] rfl (.cons (.c _ _ (.d true _ _ p)) .nil) (abk W) k).mono ?_
 .refine⟨0,[.c (.d true (.rows .u8 a))],[],.cons (.one (.c (.d rfl λ_=> .inl rfl))) .nil,⟨λl o h=>(by cases h),λ_ _=>rfl⟩,rfl,_,rfl,?_,_,_,rfl,?_⟩
  .intro b hb;rcases List.mem_append.1 hb with h | h
   .cases h
   .rw [List.mem_singleton]at h;rw [h];exact n
  .intro r _ _ h _ _ _;exact h
 .rintro e d he;cases e with
  | returned u=>
   obtain⟨q,r,s,j,g,_,_,m,i⟩:=he;exact⟨by rw [aol m i],Uf g⟩
  | outgrown=>exact he.elim
  | panicked _=>exact he.elim
open Go.RowKit Go.ChangeShapes Go.WideShapes Go.ChangeAt in
def Ug{H:Type}{enc:TypeId×Value->H}{t e:TypeId}(E:P.underlying t=some (.slice e))(N:P.underlying e=some (.int .u8))(hc:P.cellsOf e=1){o:Nat}{d:DataW H}{p:List MemPlace}
  (q:Value.okWide P W .any o t v) (h:DataW.Trod enc P W 0 (λ_=>true) true t v d p) (r:∀x∈p,x.block<W.heap.size):
  ∃G:List Int,dL (λb=>b<W.heap.size) W v (.rows 1 (aR .u8 G))/\∀z∈G,0<=z/\z<=255:=by
 obtain⟨O,len,u,rfl⟩:=okWide_slice E q;obtain⟨I,K⟩:=h;rcases open_ints E N hc K with⟨g,B⟩ | ⟨a,F,D,m,g,_,L,hm,y,B,f,A⟩
 .simp [Value.cells]at g;obtain⟨rfl,rfl,rfl⟩:=g;exact⟨[],.none _ _ _,λ_ h=>by cases h⟩
 .simp [Value.cells]at g;obtain⟨rfl,rfl,rfl⟩:=g;simp only [Prod.mk.injEq]at B;obtain⟨rfl,rfl⟩:=B;simp only [if_true]at y;have s:∀z∈m,0<=z/\z<=255:=λz y=>by
   obtain⟨i,k,rfl⟩:=List.getElem_of_mem y;have:=range_u8 A i
   rwa [List.getElem?_eq_getElem k]at this
  refine⟨m.take len,?_,λz h=>s z (List.mem_of_mem_take h)⟩;by_cases J:len=0
  .subst J;exact .none _ _ _
  .obtain⟨b,off,spot⟩:=a;have n:spot=none:=by simpa [Addr.add]using World.cell?_spot (f 0 ah)
   subst n;have w:b<W.heap.size:=r (.cell b off) (MemPlace.mem_row.2 ⟨0,ah,by simp⟩);have c:(aR .u8 (m.take len)).length=len:=by simp only [aR,List.length_map,List.length_take];omega
   have l:∀i,i<len->(aR .u8 (m.take len)).getD i []=[.int .u8 (m.getD i 0)]:=λi k=>by
    simp only [aR,List.getD,List.getElem?_map,List.getElem?_take_of_lt k,List.getElem?_eq_getElem (show i<m.length by omega)];rfl
   refine .rows b off u 1 len _ (λi j=> .int .u8 (m.getD i 0)) w c.symm L (λi j k M=> ?_) (λi k=> ?_) (λi j k M=> ?_)
   .rw [c]at k;have:=f i ah;rw [add_plain]at this;rw [show off+i*1+j=off+i by omega];exact this
   .rw [c]at k;rw [l i k];rfl
   .rw [c]at k;have C:j=0:=by omega
    subst C;unfold gd;rw [l i k];exact .int _ _
end Go.TX
namespace Go.TX
open Go Go.AE Go.ChangeShapes Go.WideShapes Go.ChangeAt List
theorem QW{w:World}{a:Addr}{v:Value}(h:w.cell? a=some v):a.block<w.heap.size:=by
 unfold World.cell? at h;cases hb:w.heap[a.block]? with
 | none=>rw [hb]at h;simp at h
 | some o=>exact(Array.getElem?_eq_some_iff.1 hb).1
section
variable {H:Type} {enc:TypeId×Value->H} {P:Program} {W:World} {sp:Nat->Bool} {hd:Bool}
def aAi:DataW H->Bool
 | .lit (.bool b)=>b
 | _=>default
def bU:DataW H->Int
 | .lit (.int _ n)=>n
 | _=>default
def aj3:DataW H->ByteArray
 | .lit (.string b)=>⟨b.toArray⟩
 | _=>default
def avW{α:Type}(f:DataW H->α):DataW H->List α
 | .slice l _=>l.map f
 | _=> []
def avX:DataW H->Form
 | .agg [a,b,n,s]=>⟨aAi a,aAi b,bU n,avW aj3 s⟩
 | _=>default
variable (enc P W sp hd) in
def ED(c:Co)(dec:DataW H->c.den)(t:TypeId):Prop:=∀a cs x,DataW.trod enc P W 0 sp hd a t cs=some x->F2 (dL (λb=>b<W.heap.size) W) cs (c.row (dec x.1))
theorem aAj{α β:Type}{R:α->β->Prop}{l:List α}{m:List β}(h:F2 R l m){j:Nat}(a:α)(b:β)(c:j<m.length):R (l.getD j a) (m.getD j b):=by
 obtain⟨x,e,d⟩:=F2.get h (getElem?_eq_getElem c);rw [getD_eq_getElem?_getD,e,getD_eq_getElem?_getD,getElem?_eq_getElem c];exact d
theorem aj4{c:Co}{dec:DataW H->c.den}{t e:TypeId}(J:P.underlying t=some (.slice e))(hc:P.cellsOf e=c.size)(E:0<c.size)(hE:ED enc P W sp hd c dec e){u:Nat}{cs:List Value}{x:DataW H×List MemPlace}
  (h:DataW.trod enc P W 0 sp hd u t cs=some x):∃v,cs=[v]/\dL (λb=>b<W.heap.size) W v (.rows c.size (aR c (avW dec x.1))):=by
 rcases Deep.open_slice J h with⟨rfl,rfl⟩ | ⟨a,len,z,m,n,D,N,rfl,_,L,hm,w,rfl,M⟩
 .exact⟨_,rfl,.none _ _ _⟩
 have O:len<=m:=by rw [w];split<;>omega
 have p:∀i,i<len->∃q:List Value,W.cells? 0 (a.add (i*c.size)) c.size=some q/\F2 (dL (λb=>b<W.heap.size) W) q (c.row (dec (D i))):=λi d=>by
  obtain⟨s,K,G⟩:=M i ah;exact⟨s,by rw [<-hc];exact K,hE n s _ G⟩
 obtain⟨q,y⟩:=Deep.choose_lt p;refine⟨_,rfl,?_⟩;by_cases I:len=0
 .subst I;exact .none _ _ _
 obtain⟨b,r,g⟩:=a;have cell:∀i j,i<len->j<c.size->W.cell? (((⟨b,r,g⟩:Addr).add (i*c.size)).add j)=(q i)[j]? :=λi j d o=>(World.cells?_some (y i d).1).2.2 j o
 have C:∀i,i<len->(q i).length=c.size:=λi d=>(World.cells?_some (y i d).1).2.1
 have B:=cell 0 0 ah E;rw [getElem?_eq_getElem (by rw [C 0 ah];exact E)]at B;have l:g=none:=by simpa [Addr.add]using World.cell?_spot B
 subst l;have A:b<W.heap.size:=by have:=QW B;simpa [Addr.add]using this
 have F:avW dec (.slice ((range len).map D) ((range (m-len)).map λj=>D (len+j)))=(range len).map λi=>dec (D i):=by show((range len).map D).map dec=_;rw [map_map];rfl
 dsimp only;rw [F];have f:(aR c ((range len).map λi=>dec (D i))).length=len:=by rw [aR,length_map,length_map,length_range]
 have k:∀i,i<len->(aR c ((range len).map λi=>dec (D i))).getD i []=c.row (dec (D i)):=λi d=>by
  rw [getD_eq_getElem?_getD,aR,map_map,getElem?_map,getElem?_range d];rfl
 refine .rows b r z c.size len _ (λi j=>(q i).getD j undef) A f.symm L (λi j d o=> ?_) (λi d=> ?_) (λi j d o=> ?_)
 .rw [f]at d;have:=cell i j d o;rw [add_plain,add_plain]at this;rw [this,getD_eq_getElem?_getD,getElem?_eq_getElem (by rw [C i d];exact o)];rfl
 .rw [f]at d;rw [k i d];exact vO c _
 .rw [f]at d;unfold gd;rw [k i d];exact aAj (y i d).2 _ _ (by rw [vO];exact o)
theorem avY{t:TypeId}(b:P.underlying t=some .string):ED enc P W sp hd .str aj3 t:=by
 intro a cs x h;obtain⟨s,rfl,rfl,_⟩:=DataW.trod_string b h;have e:aj3 (.lit (.string s.data.toList):DataW H)=s:=by unfold aj3;simp
 dsimp only;rw [e];exact .cons (.str s) .nil
theorem adO{t i e j l:TypeId}{a b f g:Field}(D:P.underlying t=some (.struct #[a,b,f,g]))(hn:P.cellsOf t=4)(o:a.offset=0/\b.offset=1/\f.offset=2/\g.offset=3)(y:a.type=e/\b.type=e/\f.type=j/\g.type=i)
  (z:P.underlying e=some .bool) (H:P.underlying j=some (.int .i64)) (R:P.underlying i=some (.slice l)) (S:P.underlying l=some .string) (k:P.cellsOf e=1/\P.cellsOf j=1/\P.cellsOf i=1/\P.cellsOf l=1):ED enc P W sp hd .form avX t:=by
 intro w cs x h;obtain⟨J,n,rfl,rfl,u,K,d⟩:=DataW.trod_struct D h;rw [hn]at u;obtain⟨N,G,E,I⟩:=o;obtain⟨L,y1,y2,y3⟩:=y;obtain⟨p,B,M,k3⟩:=k
 match cs,u with
 | [v0,v1,v2,v3],_=>
  match J,K with
  | [x0,x1,x2,x3],_=>
   have q:=d 0 a rfl;have s:=d 1 b rfl;have m:=d 2 f rfl;have A:=d 3 g rfl;rw [L,N,p]at q;rw [y1,G,p]at s;rw [y2,E,B]at m;rw [y3,I,M]at A;obtain⟨U,C,rfl⟩:=DataW.trod_bool z (show _=some x0 from q);obtain⟨T,O,rfl⟩:=DataW.trod_bool z (show _=some x1 from s);obtain⟨V,F,rfl,_⟩:=DataW.trod_int H (show _=some x2 from m);obtain⟨v,Q,r⟩:=aj4 (c:= .str) (dec:=aj3) R k3 (by decide) (avY S) (show _=some x3 from A);cases C;cases O;cases F;cases Q;exact .cons (.bool _) (.cons (.bool _) (.cons (.int _ _) (.cons r .nil)))
end
end Go.TX
namespace Go.TX.Seat
open Go Go.AE Go.TX Go.TX.F Go.Proofs List
set_option maxRecDepth 100000
theorem aBG:∀t n,E.ieq t=some n->∀(d b:List Int),d.length=n->b.length=n->∀w,
  (Op.equal t (.agg (d.map (Value.int .i64)).toArray) (.agg (b.map (Value.int .i64)).toArray)).run E.P w= .ok (d==b) w/\
  (eqGuard .eql t (.tmp 0) (.tmp 0) (.agg (d.map (Value.int .i64)).toArray) (.agg (b.map (Value.int .i64)).toArray)).run E.P w= .ok () w:=by
 intro t n h;obtain⟨c,hc,rfl⟩:∃c,ieq t=some c/\c.size=n:=by
  have a:(ieq t).map (λc=>c.size)=some n:=h;cases hi:ieq t with
  | none=>rw [hi]at a;cases a
  | some c=>rw [hi]at a;cases a;exact⟨c,rfl,rfl⟩
 unfold ieq at hc;split at hc
 all_goals first | (cases hc;exact avV (by kernel_rfl) (by kernel_rfl) (by kernel_rfl) (by kernel_rfl) (by kernel_rfl)) | cases hc
theorem hE:aI E:=⟨aAZ,aBG⟩
theorem aBH:∀t c,X.ieq t=some c->(c= .ins/\E.ieq t=some 4)\/(c= .iop/\E.ieq t=some 5):=by
 intro t c h;have h:ieq t=some c:=h;have e:E.ieq t=(ieq t).map λc=>c.size:=rfl
 rw [e,h];unfold ieq at h;split at h
 all_goals first | (cases h;first | exact Or.inl ⟨rfl,rfl⟩ | exact Or.inr ⟨rfl,rfl⟩) | cases h
theorem xok:XOK X E:=⟨rfl,λg c h=>(by
    first
    | (cases h;done)
    | (dsimp only [X] at h
       split at h
       · rename_i e;cases h;unfold E;dsimp only;rw [eB e];rfl
       · cases h)),aBH⟩
theorem hm:E.P.follows .mixedOrders=true:=by kernel_rfl
structure HL(l:List (Nat×Sig)) where
 C:Cs (std 0) l
 h:∀p∈csl (std 0) l C,dP E p.1 (dK p.2.2)
abbrev hn:HL []:=⟨(),λ_ h=>by cases h⟩
abbrev hk{f:FuncId}{s:Sig}{c:Ct aH s}{l:List (Nat×Sig)}(h:dP E f (dK c))(r:HL l):HL ((f,s)::l):=⟨(c.pre,c.fn,r.C),λp a=>by
 rcases mem_cons.1 a with rfl | a
 .exact h
 .exact r.h p a⟩
structure Mt{lk:aB}{s:Sig}{an:Ann}{fn:Func}{l:List (Nat×Sig)}(f:FuncId)(g:Gt lk X E an s fn l) where
 H:HL l
 k:Fn E f (g.F H.C) (cn (g.F H.C))
section
variable {lk:aB} {s:Sig} {an:Ann} {fn:Func} {l:List (Nat×Sig)} {f:FuncId}
@[irreducible] noncomputable def Mt.c {g:Gt lk X E an s fn l} (t:Mt f g):Ct aH s:=cn (g.F t.H.C)
theorem Mt.cs{g:Gt lk X E an s fn l}(t:Mt f g){x:jy s.inp}{Q:jy s.out->Prop}(h:g.F t.H.C x Q):t.c.pre x=true/\Q (t.c.fn x):=by unfold Mt.c;exact t.k.cs h
theorem Mt.ok{g:Gt lk X E an s fn l}(t:Mt f g):dP E f (dK t.c):=by unfold Mt.c;exact t.k.ok
@[reducible] noncomputable def hc {r:List (Nat×Sig)} {g:Gt lk X E an s fn l} (t:Mt f g) (h:HL r):HL ((f,s)::r):=hk t.ok h
theorem mkF(a:E.P.funcs[f]? =some fn)(g:Gt lk X E an s fn l)(H:HL l)
 (b:fn.body.isSome=true:=by rfl) (hn:(fn.name== "runtime.NumGoroutine")=false:=by kernel_rfl):Fn E f (g.F H.C) (cn (g.F H.C)):=aAW hE xok hm a b (λ_=>enters_of a hn) H.h (g.h H.C)
noncomputable def mk (g:Gt lk X E an s fn l) (a:E.P.funcs[f]? =some fn) (H:HL l)
 (b:fn.body.isSome=true:=by rfl) (hn:(fn.name== "runtime.NumGoroutine")=false:=by kernel_rfl):Mt f g:=⟨H,mkF a g H b hn⟩
end
theorem aj5{E:Tab}{f:FuncId}{c:Ct aH {args:=[.c (.int .u64)],objs:=[],res:=[.c (.int .i64)],dW:=[]}}{g:Int->Int}(l:Enters E.P f)(F:(λx:Int=>(c.fn (x,())).1)=g)
  (h:∀(x:Int) (w:World),c.pre (x,())=true->Go.Calls E.P f #[.int .u64 x] w λe C=>e= .returned (.int .i64 (g x))/\C=w):dP E f (dK c) where
 enters:=l
 calls:=by
  rintro args O n K ⟨m,u,B,j,HR,p,S,a,am3,v,U,o,hK⟩ N w H z uU G T;have A:∀b (x:Int),u=[.c (.d b (.int .u64 x))]->vM (std m) B {args:=[.c (.int .u64)],objs:=[],res:=[.c (.int .i64)],dW:=[]} c u=some {ck:=[c.pre (x,())],ts:=[.i],y:=c.fn (x,()),touched:=[],pure:=true,k:=λy=>some (.c (.d true (.int .i64 y.1)),B)}:=by
   intro b x e;subst e;rfl
  have I:∃b x,u=[.c (.d b (.int .u64 x))]:=by
   unfold vM at a;cases u with
   | nil=>simp [sS]at a
   | cons q r=>
    cases r with
    | cons W V=>
     exfalso;simp only [sS]at a;cases hx:LU (std m) B (.c (.int .u64)) q (es0 (std m) 0 [])with
     | none=>rw [hx]at a;simp at a
     | some s=>rw [hx]at a;simp [sS]at a
    | nil=>
     simp only [sS]at a;cases q with
     | c y=>
      simp only [LU,extC]at a;cases y with
      | d b y=>
       cases y with
       | int k x=>
        by_cases hk:IntKind.u64=k
        .subst hk;exact⟨b,x,rfl⟩
        .simp [hk]at a
       | _=>simp at a
      | _=>simp at a
     | _=>simp [LU]at a
  obtain⟨b,x,rfl⟩:=I;rw [A b x rfl]at a;simp only [Option.some.injEq]at a;subst a;simp only [Option.some.injEq,Prod.mk.injEq]at o;obtain⟨rfl,rfl⟩:=o;have t:=am3 _ (mem_singleton.2 rfl);have R:H=[.int .u64 x]:=by
   cases j with
   | cons i D=>
    cases D;cases uU with
    | cons P J=>
     cases J;cases i with
     | one i=>
      cases i with
      | c i=>
       cases i with
       | d L _=>
        subst L;cases P with
        | c _ _ Q=>cases Q with
         | d _ _ _ M=>cases M;rfl
      | agg i=>cases i
  subst R;refine(h x w t).mono ?_;rintro e C ⟨rfl,rfl⟩;refine⟨N,.c (.d true (.int .i64 (g x))),O,0,.refl _ _ _,G,z,.c _ _ (.d _ _ _ (.int _ _)),hK _ _ _ ?_ HR (.refl _ _ _) p⟩;rw [<-F];exact .one (.c (.d rfl λ_=> .inl rfl))
end Go.TX.Seat
noncomputable section
namespace Go.TX.F
open Go Go.AE Go.TX Go.TX.Seat Go.Proofs List
set_option maxRecDepth 100000
set_option maxHeartbeats 4000000
def zu:=mk Wn Tryz.func64 hn
def jC:=λa=>zu.cs (arR a:)
def abl:=mk Wp Tryz.func63 (hc zu hn)
def zw:=λl h=>abl.cs (auc jC l h:)
def oU:=mk Wq Tryz.func65 hn
def dU:=λa b c=>oU.cs (arQ a b c:)
def Cr:=mk Ws Tryz.func31 (hc zu (hc oU (hc abl hn)))
def kS:=λm h=>Cr.cs (aud jC dU zw m h:)
def QX:=mk Wt Tryz.func140 hn
def rH:=λa=>QX.cs (GA a:)
def aj6:=mk Wu Tryz.func233 hn
def Md:=λi=>aj6.cs (Ko i:)
def KA:=mk Wv Tryz.func163 (hc oU (hc aj6 hn))
def qF:=λi=>KA.cs (LZ dU Md i:)
def abm:=mk Ww Tryz.func162 (hc QX (hc KA hn))
def zy:=λi=>abm.cs (GD rH qF i:)
def abn:=mk Wx Tryz.func103 (hc QX (hc KA (hc oU (hc abm hn))))
def DL:=λb l a=>abn.cs (Mc rH qF dU zy b l a:)
def Fx:=mk Wy Tryz.func164 hn
def nQ:=λc d e b f g o a h=>Fx.cs (L6 c d e b f g o a h:)
def abo:=mk Wz Tryz.func165 (hc Fx hn)
def DN:=λc d e b f g k x a h=>abo.cs (L9 nQ c d e b f g k x a h:)
def KC:=mk WA Tryz.func166 (hc Fx hn)
def qG:=λc d e b f g k a h=>KC.cs (L8 nQ c d e b f g k a h:)
def abp:=mk WB Tryz.func167 (hc KC (hc Fx hn))
def xk:=λd e f c g i k a o b h=>abp.cs (Fq qG nQ d e f c g i k a o b h:)
def aj7:=mk WE Tryz.func168 hn
def KD:=λk b a=>aj7.cs (Gz k b a:)
def aj8:=mk WG Tryz.func169 (hc KC (hc Fx (hc abp (hc abo hn))))
def KE:=λc d e b f j i n a g h=>aj8.cs (Gy qG nQ xk DN c d e b f j i n a g h:)
def aj9:=mk WH Tryz.func170 (hc KC hn)
def Me:=λB i a h=>aj9.cs (Kq qG B i a h:)
def akb:=mk WI Tryz.func104 (hc KC (hc aj9 (hc Fx (hc aj8 (hc abp (hc abo (hc aj7 hn)))))))
def QY:=λB i n b a h=>akb.cs (Ma qG Me nQ KE xk DN KD B i n b a h:)
def Fy:=mk WJ Tryz.func51 (hc abn (hc akb hn))
def iD:=λb l a=>Fy.cs (Fu DL QY b l a:)
def akc:=mk WK Tryz.func268 (hc oU hn)
def KF:=λk=>akc.cs (asH dU k:)
def abq:=mk WL Tryz.func231 (hc akc hn)
def DR:=λa x n b=>abq.cs (asI KF a x n b:)
def akd:=mk WM Tryz.func152 (hc zu (hc oU (hc abq hn)))
def Uh:=λa i len c b d=>akd.cs (asJ jC dU DR a i len c b d:)
def ake:=mk WO Tryz.func153 (hc zu (hc abq hn))
def QZ:=λb=>ake.cs (asK jC DR b:)
def rJ:=mk WQ Tryz.func93 (hc oU (hc ake (hc akd hn)))
def gL:=λb a=>rJ.cs (asL dU QZ Uh b a:)
def abr:=mk WR Tryz.func118 hn
def Bc:=λa b c=>abr.cs (ato a b c:)
def KG:=mk WS Tryz.func178 (hc oU hn)
def nS:=λa=>KG.cs (arT dU a:)
def abt:=mk WT Tryz.func119 (hc KG hn)
def Bd:=abt.cs (asv nS:)
def Q0:=mk WU Tryz.func251 hn
def rM:=λa b c=>Q0.cs (arV a b c:)
def akf:=mk WW Tryz.func282 (hc oU hn)
def Mf:=λm hm=>akf.cs (arW dU m hm:)
def Cu:=mk WX Tryz.func247 (hc akf (hc Q0 hn))
def kU:=λa b=>Cu.cs (arX Mf rM a b:)
def akg:=mk WY Tryz.func276 hn
def Mg:=λa=>akg.cs (ar0 a:)
def akh:=mk WZ Tryz.func277 hn
def GH:=λa n b=>akh.cs (arY a n b:)
def abu:=mk Xa Tryz.func241 (hc oU (hc Cu (hc akh (hc akg hn))))
def Bf:=λa n b=>abu.cs (ar1 dU kU GH Mg a n b:)
def zB:=mk Xb Tryz.func193 (hc Q0 hn)
def fZ:=λa b c=>zB.cs (arZ rM a b c:)
def abv:=mk Xc Tryz.func242 (hc zB hn)
def Bg:=λa b c=>abv.cs (ar2 fZ a b c:)
def aki:=mk Xd Tryz.func179 (hc abu (hc abv hn))
def Q5:=λa b=>aki.cs (ar3 Bf Bg a b:)
def ug:=mk Xe Tryz.func188 hn
def fD:=λa b=>ug.cs (ar6 a b:)
def abw:=mk Xf Tryz.func243 (hc ug hn)
def Bh:=λa b=>abw.cs (ar8 fD a b:)
def akj:=mk Xg Tryz.func180 (hc abw hn)
def Mh:=λa b=>akj.cs (ar9 Bh a b:)
def Q6:=mk Xh Tryz.func181 (hc abu (hc abv (hc abw hn)))
def wG:=λa t c d b=>Q6.cs (asa Bf Bg Bh a t c d b:)
def akk:=mk Xi Tryz.func182 hn
def Ui:=λk l=>akk.cs (atr k l:)
def abx:=mk Xj Tryz.func183 (hc oU hn)
def xq:=λa=>abx.cs (arS dU a:)
def zC:=mk Xk Tryz.func232 hn
def gQ:=λa=>zC.cs (arU a:)
def aby:=mk Xl Tryz.func303 (hc Q0 (hc zC hn))
def Bj:=λl m b hn hm a=>aby.cs (asg rM gQ l m b hn hm a:)
def abz:=mk Xm Tryz.func304 (hc ug hn)
def DT:=λa b=>abz.cs (ar7 fD a b:)
def akl:=mk Xo Tryz.func278 (hc Cu (hc aby (hc abz hn)))
def Mi:=λa b c d=>akl.cs (asi kU Bj DT a b c d:)
def akm:=mk Xp Tryz.func279 (hc Cu (hc zC (hc ug (hc zu hn))))
def GI:=λa n b=>akm.cs (asl kU gQ fD jC a n b:)
def akn:=mk Xq Tryz.func305 hn
def KH:=λa b d f c e=>akn.cs (ash a b d f c e:)
def ako:=mk Xr Tryz.func280 (hc Cu (hc zC (hc aby (hc akn (hc abz hn)))))
def Mj:=λa b c d=>ako.cs (asj kU gQ Bj KH DT a b c d:)
def akp:=mk Xt Tryz.func244 (hc ako (hc akl (hc akm hn)))
def Mk:=λa x y c b=>akp.cs (ase Mj Mi GI a x y c b:)
def KI:=mk Xu Tryz.func156 (hc zC (hc zu hn))
def qH:=λc a b=>KI.cs (ar4 jC gQ c a b:)
def Q7:=mk Xv Tryz.func248 (hc Cu hn)
def uh:=λa b=>Q7.cs (ar5 kU a b:)
def akq:=mk Xw Tryz.func281 (hc ug hn)
def Ml:=λa n y b=>akq.cs (asb fD a n y b:)
def akr:=mk Xx Tryz.func245 (hc zB (hc ug (hc KI (hc abx (hc Q7 (hc akq hn))))))
def Mq:=λa x y c b=>akr.cs (asc fZ fD qH xq uh Ml a x y c b:)
def aks:=mk Xy Tryz.func184 (hc KG (hc zB (hc akp (hc akr (hc Q6 hn)))))
def Uj:=λc x y t b f d e a=>aks.cs (asf nS fZ Mk Mq wG c x y t b f d e a:)
def akt:=mk Xz Tryz.func246 hn
def KJ:=λl k a=>akt.cs (att l k a:)
def aku:=mk XA Tryz.func185 (hc KG (hc Q6 (hc akt hn)))
def KL:=λl k t a b hk=>aku.cs (atu nS wG KJ l k t a b hk:)
def Q8:=mk XB Tryz.func187 (hc ug hn)
def rO:=λa b=>Q8.cs (atq fD a b:)
def akv:=mk XC Tryz.func186 (hc ug (hc Q8 hn))
def KM:=λo x y r c a b=>akv.cs (atv fD rO o x y r c a b:)
def akw:=mk XD Tryz.func189 hn
def abA:=λb=>akw.cs (atx b:)
def akx:=mk XE Tryz.func190 hn
def abB:=λb=>akx.cs (aty b:)
def abC:=mk XF Tryz.func249 hn
def Gh:=λs k=>abC.cs (atw s k:)
def aky:=mk XG Tryz.func250 (hc Q7 (hc zB (hc abC hn)))
def Uk:=λs n c d b a=>aky.cs (atz uh fZ Gh s n c d b a:)
def akz:=mk XH Tryz.func191 (hc Q7 (hc Cu (hc ug (hc abC (hc aky (hc Q8 hn))))))
def Mr:=λs n a=>akz.cs (atA uh kU fD Gh Uk rO s n a:)
def akA:=mk XI Tryz.func120 (hc rJ (hc KG (hc abx (hc akz (hc abt (hc aki (hc ug (hc akj (hc aks (hc Q6 (hc aku (hc akv (hc akk (hc Q8 (hc akw (hc akx hn))))))))))))))))
def Mv:=λt b a c=>akA.cs (atB gL nS xq Mr Bd Q5 fD Mh Uj wG KL KM Ui rO abA abB t b a c:)
def abD:=mk XJ Tryz.func192 (hc zB hn)
def zD:=λa b c=>abD.cs (atD fZ a b c:)
def akB:=mk XK Tryz.func194 (hc zB (hc abD hn))
def KN:=λa b c=>akB.cs (atE fZ zD a b c:)
def akC:=mk XL Tryz.func121 (hc zB (hc akB (hc abD hn)))
def KO:=λa b c=>akC.cs (atF fZ KN zD a b c:)
def Q9:=mk XM Tryz.func68 (hc rJ (hc abr (hc abt (hc akA (hc akC hn)))))
def rP:=λb c a hc=>Q9.cs (atG gL Bc Bd Mv KO b c a hc:)
def Ra:=mk XO Tryz.func139 (hc KA (hc zu hn))
def rQ:=λw=>Ra.cs (aut qF jC w:)
def akD:=mk XP Tryz.func117 (hc Ra hn)
def KP:=λw h=>akD.cs (auW rQ w h:)
def akE:=mk XQ Tryz.func66 (hc Fy (hc abn (hc akD (hc Q9 hn))))
def GJ:=λe a b=>akE.cs (auY iD DL KP rP e a b:)
end Go.TX.F
end
noncomputable section
namespace Go.TX.F
open Go Go.AE Go.TX Go.TX.Seat Go.Proofs List
set_option maxRecDepth 100000
set_option maxHeartbeats 4000000
def abE:=mk XR Tryz.func67 hn
def xu:=λw mem d a hm c b=>abE.cs (auT w mem d a hm c b:)
def akF:=mk XU Tryz.func32 (hc akE (hc abE hn))
def Rb:=λl mem h hm=>akF.cs (auZ GJ xu l mem h hm:)
def akG:=mk XV Tryz.func33 (hc Q9 hn)
def Rc:=λl h=>akG.cs (atH rP l h:)
def Fz:=mk XW Tryz.func11 (hc akF (hc akG (hc Cr hn)))
def nU:=λe b a c=>Fz.cs (au0 Rb Rc kS e b a c:)
def abF:=mk XY Tryz.func19 hn
def zF:=λb c a=>abF.cs (asn b c a:)
def iP:=mk XZ Tryz.func22 hn
def aN:=λn b p d c a=>iP.cs (asq n b p d c a:)
def FB:=mk X3 Tryz.func23 (hc iP hn)
def jd:=λn b p d c a=>FB.cs (asr aN n b p d c a:)
def FD:=mk X4 Tryz.func60 hn
def lI:=λm h=>FD.cs (aue m h:)
def Cv:=mk X5 Tryz.func105 hn
def jM:=λb a=>Cv.cs (asV b a:)
def Rf:=mk X6 Tryz.func61 (hc Cv hn)
def pX:=λe a b=>Rf.cs (auU jM e a b:)
def abG:=mk X7 Tryz.func62 (hc Cv hn)
def zG:=λq b a=>abG.cs (atI jM q b a:)
def abH:=mk X8 Tryz.func30 (hc Rf (hc abG (hc FD hn)))
def zH:=λe b a c=>abH.cs (au4 pX zG lI e b a c:)
def KQ:=mk X9 Tryz.func43 hn
def qI:=λl n h=>KQ.cs (aur l n h:)
def abI:=mk Ya Tryz.func48 (hc Rf (hc abE hn))
def zI:=λl mem h hm=>abI.cs (auV pX xu l mem h hm:)
def akH:=mk Yb Tryz.func145 hn
def GK:=λm b=>akH.cs (auq m b:)
def Rh:=mk Yc Tryz.func146 hn
def uj:=λm h=>Rh.cs (auf m h:)
def FH:=mk Yd Tryz.func228 (hc zC hn)
def lJ:=λm n h=>FH.cs (aug gQ m n h:)
def akI:=mk Ye Tryz.func224 (hc Rh (hc FH hn))
def Mw:=λm i h a=>akI.cs (auo uj lJ m i h a:)
def Ri:=mk Yf Tryz.func225 (hc FH hn)
def wH:=λm d v h a b=>Ri.cs (auh lJ m d v h a b:)
def akJ:=mk Yg Tryz.func226 (hc zC hn)
def KR:=λv k h b a=>akJ.cs (aui gQ v k h b a:)
def akK:=mk Yh Tryz.func227 (hc zC (hc Rh (hc FH (hc Ri hn))))
def KS:=λm i h b a=>akK.cs (aum gQ uj lJ wH m i h b a:)
def akL:=mk Yi Tryz.func229 (hc FH (hc Ri hn))
def Mx:=λm i h c b hn a=>akL.cs (aun lJ wH m i h c b hn a:)
def akM:=mk Yj Tryz.func147 (hc KI (hc FH (hc akL (hc akK (hc Ri (hc akJ (hc akI hn)))))))
def Ul:=λm i h b hn a=>akM.cs (aup qH lJ Mx KS wH KR Mw m i h b hn a:)
def abJ:=mk Yk Tryz.func88 (hc Ra (hc Cr (hc FD (hc akM (hc Rh (hc akH hn))))))
def zJ:=λm b h a=>abJ.cs (auB rQ kS lI Ul uj GK m b h a:)
def akN:=mk Yl Tryz.func44 (hc abI (hc abJ (hc KQ hn)))
def GL:=λe q d a c b=>akN.cs (au3 zI zJ qI e q d a c b:)
def abK:=mk Ym Tryz.func83 (hc QX (hc Ra (hc Cr hn)))
def zK:=λm h=>abK.cs (avf rH rQ kS m h:)
def akO:=mk Yn Tryz.func89 hn
def KT:=λl a h=>akO.cs (auS l a h:)
def abL:=mk Yp Tryz.func171 (hc oU hn)
def xw:=λo al hk b a=>abL.cs (asZ dU o al hk b a:)
def abM:=mk Yq Tryz.func107 (hc rJ (hc abL (hc Cv hn)))
def zL:=λb a=>abM.cs (as8 gL xw jM b a:)
def abN:=mk Yr Tryz.func219 (hc abL hn)
def zN:=λb a ok hk=>abN.cs (as4 xw b a ok hk:)
def akP:=mk Yt Tryz.func220 (hc rJ (hc oU hn))
def KU:=λb a=>akP.cs (as3 gL dU b a:)
def akQ:=mk Yu Tryz.func142 (hc rJ (hc akP (hc abN hn)))
def KV:=λb a=>akQ.cs (as5 gL KU zN b a:)
def akR:=mk Yv Tryz.func221 hn
def KW:=λa k d c b=>akR.cs (as0 a k d c b:)
def akS:=mk Yw Tryz.func143 (hc rJ (hc abN (hc akR hn)))
def KY:=λb a=>akS.cs (as6 gL zN KW b a:)
def abO:=mk Yx Tryz.func222 hn
def xA:=λa k=>abO.cs (asW a k:)
def akT:=mk Yy Tryz.func266 hn
def Rj:=λb k=>akT.cs (asX b k:)
def akU:=mk Yz Tryz.func223 (hc akT (hc abO hn))
def KZ:=λb h=>akU.cs (asY Rj xA b h:)
def akV:=mk YA Tryz.func144 (hc rJ (hc KI (hc akU (hc abO (hc Cv hn)))))
def GN:=λb a=>akV.cs (as2 gL qH KZ xA jM b a:)
def Rk:=mk YB Tryz.func86 (hc akV (hc abM (hc akQ (hc akS hn))))
def um:=λb a=>Rk.cs (as1 GN zL KV KY b a:)
def akW:=mk YC Tryz.func267 hn
def MB:=λb k e d c a=>akW.cs (avc b k e d c a:)
def akX:=mk YD Tryz.func230 (hc rJ (hc akW hn))
def MC:=λl b a=>akX.cs (avh gL MB l b a:)
def akY:=mk YE Tryz.func148 (hc akX (hc Rk hn))
def K4:=λb a h d c=>akY.cs (avi MC um b a h d c:)
def akZ:=mk YF Tryz.func149 (hc abr hn)
def ME:=λl b c h=>akZ.cs (atp Bc l b c h:)
def ak0:=mk YG Tryz.func150 (hc abG hn)
def MF:=λl q h b a=>ak0.cs (atM zG l q h b a:)
def ak1:=mk YH Tryz.func90 (hc akZ (hc ak0 (hc Q9 (hc akY hn))))
def GQ:=λe b a h f d c=>ak1.cs (avj ME MF rP K4 e b a h f d c:)
def ak2:=mk YI Tryz.func91 (hc Rf hn)
def MG:=λl e h b a=>ak2.cs (auX pX l e h b a:)
def abP:=mk YJ Tryz.func151 (hc KA hn)
def Bn:=λi=>abP.cs (auu qF i:)
def abQ:=mk YK Tryz.func92 (hc abP hn)
def xB:=λl a=>abQ.cs (auw Bn l a:)
def ak3:=mk YL Tryz.func45 (hc abK (hc Fy (hc abQ (hc akO (hc ak2 (hc ak1 hn))))))
def K6:=λe a f c g d b=>ak3.cs (avl zK iD xB KT MG GQ e a f c g d b:)
def ak4:=mk YM Tryz.func46 (hc KQ hn)
def K7:=λm q left size a c b=>ak4.cs (avb qI m q left size a c b:)
def ak5:=mk YN Tryz.func154 hn
def K8:=λm b n h c a d=>ak5.cs (au7 m b n h c a d:)
def ak6:=mk YO Tryz.func155 hn
def MH:=λb a n c e d=>ak6.cs (au8 b a n c e d:)
def ak7:=mk YP Tryz.func94 (hc ak5 (hc ak6 hn))
def K9:=λm b o x y hm a h c f d g e=>ak7.cs (ave K8 MH m b o x y hm a h c f d g e:)
def ak8:=mk YQ Tryz.func95 hn
def Um:=λl k=>ak8.cs (auR l k:)
def ak9:=mk YR Tryz.func96 (hc KI hn)
def MI:=λm o x y h=>ak9.cs (au9 qH m o x y h:)
def ala:=mk YS Tryz.func97 hn
def Un:=λb v d c e a=>ala.cs (ava b v d c e a:)
def alb:=mk YT Tryz.func47 (hc rJ (hc Cr (hc FD (hc ak8 (hc ak7 (hc ala (hc ak9 hn)))))))
def Rl:=λb m d c a=>alb.cs (avq gL kS lI Um K9 Un MI b m d c a:)
def La:=mk YU Tryz.func18 (hc abI (hc Fz (hc alb (hc abH (hc ak3 (hc akN (hc ak4 (hc KQ hn))))))))
def nW:=λe q left a d f b h c i g=>La.cs (avr zI nU Rl zH K6 GL K7 qI e q left a d f b h c i g:)
def Rm:=mk YV Tryz.func21 (hc iP hn)
def rR:=λb p d c a=>Rm.cs (auD aN b p d c a:)
def abR:=mk Qg Tryz.func52 (hc iP (hc Cv hn))
def zO:=λc b p hc e d a=>abR.cs (atb aN jM c b p hc e d a:)
def abS:=mk YW Tryz.func159 (hc iP hn)
def Bo:=λb p d c a=>abS.cs (asS aN b p d c a:)
def Rn:=mk YX Tryz.func160 (hc abS (hc iP (hc abm hn)))
def rT:=λb p d c a=>Rn.cs (asT Bo aN (λz1=>(zy z1).1) b p d c a:)
def alc:=mk YZ Tryz.func106 (hc Rn (hc iP hn))
def Lb:=λb p d c a=>alc.cs (asU rT aN b p d c a:)
def abT:=mk Za Tryz.func53 (hc Fy (hc Rk (hc abM (hc iP (hc alc hn)))))
def xC:=λb p e d c=>abT.cs (as9 (λz1 z2 z3 z4=>⟨(λa (l:List Ins) (h:(l.length:Int)<1000) _=>(iD a l ah).1) z1 z2 z3 z4,(λa (l:List Ins) (h:(l.length:Int)<1000) _=>QJ (iD a l ah).2) z1 z2 z3 z4⟩) um zL aN Lb b p e d c:)
def ald:=mk Zb Tryz.func141 hn
def MK:=λn b c a d=>ald.cs (avm n b c a d:)
def ale:=mk Zc Tryz.func84 (hc rJ (hc ald hn))
def Lc:=λb a=>ale.cs (avn gL MK b a:)
def alf:=mk Zd Tryz.func85 (hc iP (hc Cv hn))
def FI:=λc b p ok hc e d a=>alf.cs (ata aN jM c b p ok hc e d a:)
def alg:=mk Ze Tryz.func87 (hc iP hn)
def Ld:=λl b p a h e d c=>alg.cs (avo aN l b p a h e d c:)
end Go.TX.F
end
noncomputable section
namespace Go.TX.F
open Go Go.AE Go.TX Go.TX.Seat Go.Proofs List
set_option maxRecDepth 100000
set_option maxHeartbeats 4000000
def Ro:=mk Qh Tryz.func42 (hc abK (hc Fy (hc ale (hc Rk (hc iP (hc abR (hc abT (hc alf (hc alg hn)))))))))
def uo:=λm b p h d c a=>Ro.cs (avp zK iD Lc um aN zO xC FI Ld m b p h d c a:)
def alh:=mk Zf Tryz.func98 (hc Cr (hc FD hn))
def ML:=λm h=>alh.cs (au1 kS lI m h:)
def abU:=mk Zg Tryz.func99 (hc abl hn)
def Bq:=λw i a b=>abU.cs (auz zw w i a b:)
def Rp:=mk Zh Tryz.func54 (hc iP hn)
def rU:=λb p d c a=>Rp.cs (asu aN b p d c a:)
def ali:=mk Zi Tryz.func157 (hc Rn (hc iP hn))
def Le:=λt b p d e c a=>ali.cs (auF rT aN t b p d e c a:)
def alj:=mk Zj Tryz.func158 (hc iP hn)
def Lf:=λt b p d e c a=>alj.cs (auE aN t b p d e c a:)
def abV:=mk Zk Tryz.func100 (hc abQ (hc abP (hc ali (hc Rn (hc abS (hc alj (hc FB (hc iP (hc Rp hn)))))))))
def xD:=λb p d c a=>abV.cs (auH xB Bn Le rT Bo Lf jd aN rU b p d c a:)
def abW:=mk Zl Tryz.func101 (hc Rp hn)
def xE:=λn b p d hn c a=>abW.cs (asA rU n b p d hn c a:)
def alk:=mk Zm Tryz.func49 (hc alh (hc La (hc abU (hc abV (hc Rm (hc iP (hc abW (hc Ro hn))))))))
def MN:=λb p d c a=>alk.cs (avu ML nW Bq xD rR aN xE uo b p d c a:)
def alm:=mk Zn Tryz.func161 (hc Cr (hc abJ (hc FD (hc KQ hn))))
def MO:=λm q n h b a=>alm.cs (auC kS zJ lI qI m q n h b a:)
def aln:=mk Zo Tryz.func102 (hc abU (hc alm (hc abV (hc Rm (hc FB (hc iP (hc abW hn)))))))
def Lg:=λb p d c a=>aln.cs (auJ Bq MO xD rR jd aN xE b p d c a:)
def alo:=mk Zp Tryz.func50 (hc aln (hc FB (hc iP hn)))
def FJ:=λn b p d c a=>alo.cs (auK Lg jd aN n b p d c a:)
def abX:=mk Zq Tryz.func20 (hc Fy (hc alo (hc FB (hc iP (hc Rp (hc abR (hc abT (hc alk hn))))))))
def xG:=λn b p d c a=>abX.cs (avE iD FJ jd aN rU zO xC MN n b p d c a:)
def alp:=mk Zr Tryz.func24 (hc La (hc Ro hn))
def Lh:=λe q n b p S a hn hc f d c=>alp.cs (avM nW uo e q n b p S a hn hc f d c:)
def alq:=mk Zt Tryz.func7 (hc Fz (hc Rm (hc abF (hc FB (hc iP (hc alp (hc abX hn)))))))
def DU:=λc hc a=>alq.cs (avN nU rR zF jd aN Lh xG c hc a:)
def iB:=mk Zu Tryz.func69 hn
def bX:=λa b c=>iB.cs (arh a b c:)
def uw:=mk Zv Tryz.func34 (hc iB hn)
def gJ:=λa=>uw.cs (ari bX a:)
def alr:=mk Zw Tryz.func70 (hc uw hn)
def Li:=λa b=>alr.cs (asz gJ a b:)
def adP:=mk aho Tryz.func36 (hc uw (hc iB (hc alr hn)))
def wI:=λm h=>adP.cs (azc gJ bX Li m h:)
def Rq:=mk Zx Tryz.func195 (hc iB hn)
def wJ:=λa=>Rq.cs (ark bX a:)
def adQ:=mk ahp Tryz.func122 (hc iB (hc Rq hn))
def wK:=λi=>adQ.cs (azj bX wJ i:)
def Uo:=mk ahq Tryz.func72 (hc adQ (hc uw hn))
def nY:=λw=>Uo.cs (azx wK gJ w:)
def aAk:=mk aqT Tryz.func75 (hc Uo hn)
def Lj:=λw h=>aAk.cs (aBz nY w h:)
def als:=mk Zy Tryz.func127 hn
def wL:=λa b c=>als.cs (avB a b c:)
def alu:=mk ahr Tryz.func76 (hc iB (hc als hn))
def nu:=λe mem a hm=>alu.cs (azR bX wL e mem a hm:)
def alv:=mk ahs Tryz.func128 (hc iB hn)
def zP:=λa=>alv.cs (azk bX a:)
def avZ:=mk aqU Tryz.func77 (hc alv (hc adQ (hc iB hn)))
def DV:=λb l a=>avZ.cs (aBk zP wK bX b l a:)
def Uq:=mk aht Tryz.func202 (hc iB hn)
def lU:=λo=>Uq.cs (ays bX o:)
def abY:=mk Zz Tryz.func252 (hc iB hn)
def Gi:=λa=>abY.cs (arj bX a:)
def apb:=mk ahu Tryz.func283 (hc iB hn)
def zQ:=λo=>apb.cs (ayt bX o:)
def alx:=mk ahv Tryz.func253 (hc apb (hc iB hn))
def pI:=λb x n d c a=>alx.cs (ayv zQ bX b x n d c a:)
def apc:=mk ahw Tryz.func196 (hc alx (hc Uq (hc uw (hc iB (hc abY (hc Rq hn))))))
def AJ:=λb i d c a e=>apc.cs (ayw pI lU gJ bX Gi wJ b i d c a e:)
def Ur:=mk ahx Tryz.func208 hn
def gW:=λb=>Ur.cs (ayx b:)
def apd:=mk ahy Tryz.func197 (hc Ur (hc alx (hc uw (hc iB hn))))
def zR:=λb a=>apd.cs (ayy gW pI gJ bX b a:)
def Gj:=mk ahz Tryz.func129 (hc apd (hc apc (hc iB hn)))
def kC:=λb a=>Gj.cs (ayz zR AJ bX b a:)
def aly:=mk ZA Tryz.func198 hn
def mD:=λa b c=>aly.cs (atc a b c:)
def alz:=mk ahA Tryz.func130 (hc aly hn)
def Br:=λa b c=>alz.cs (ayE mD a b c:)
def ape:=mk ahB Tryz.func113 (hc iB hn)
def vg:=λn b m K C hm a=>ape.cs (az6 bX n b m K C hm a:)
def apf:=mk ahC Tryz.func306 hn
def DW:=λa n=>apf.cs (ax0 a n:)
def alA:=mk ZB Tryz.func177 (hc apf hn)
def kD:=λa n b=>alA.cs (arp DW a n b:)
def alB:=mk ZE Tryz.func177 (hc ape hn)
def pJ:=λq b m K C a hm c=>alB.cs (avG vg q b m K C a hm c:)
def alC:=mk ZF Tryz.func112 (hc alA hn)
def jm:=λa n b=>alC.cs (arq (λz1 z2 z3=>(kD z1 z2 z3).1) (λz1 z2 z3=>(kD z1 z2 z3).2) a n b:)
def alD:=mk ZG Tryz.func112 (hc alB hn)
def nZ:=λq b m K C a hm c=>alD.cs (avH pJ q b m K C a hm c:)
def alE:=mk ahD Tryz.func284 (hc alC hn)
def xH:=λa n b=>alE.cs (ax1 (λz1 z2 z3=>(jm z1 z2 z3).1) (λz1 z2 z3=>(jm z1 z2 z3).2) a n b:)
def av0:=mk aqV Tryz.func311 hn
def xI:=λa=>av0.cs (aA1 a:)
def aom:=mk aqW Tryz.func291 (hc av0 hn)
def og:=λa b=>aom.cs (aA2 xI a b:)
def av1:=mk aqX Tryz.func292 hn
def DX:=λa b=>av1.cs (aA4 a b:)
def alF:=mk ZH Tryz.func312 (hc aom hn)
def uz:=λa b c=>alF.cs (arl og a b c:)
def Ll:=mk ZI Tryz.func293 (hc av1 (hc aom (hc alF hn)))
def jT:=λa b c=>Ll.cs (arn og uz DX a b c:)
def aon:=mk aqY Tryz.func313 (hc av0 hn)
def zS:=λa b=>aon.cs (aA3 xI a b:)
def alG:=mk ZJ Tryz.func295 (hc aon hn)
def sF:=λa b=>alG.cs (aro zS a b:)
def apg:=mk ahE Tryz.func297 hn
def Lm:=λm=>apg.cs (ax2 m:)
def alH:=mk ZK Tryz.func314 (hc apg hn)
def je:=λa b=>alH.cs (ars (G:=(λm:au=>0<m.atoms.length/\m.atoms.getD 0 default<0)) Lm a b:)
def alI:=mk ZL Tryz.func296 (hc alH hn)
def iG:=λa b=>alI.cs (aru (G:=(λm:au=>0<m.atoms.length/\m.atoms.getD 0 default<0)) je a b:)
def Gm:=mk ahF Tryz.func261 (hc iB (hc alE (hc alG (hc Ll (hc alI hn)))))
def jD:=λa b=>Gm.cs (ax3 bX xH sF jT iG a b:)
def alJ:=mk ahG Tryz.func255 (hc iB (hc abY (hc alE (hc Gm (hc Rq hn)))))
def oh:=λa n b=>alJ.cs (aye bX Gi xH jD wJ a n b:)
def adR:=mk ahH Tryz.func258 (hc av1 (hc aom (hc Ll hn)))
def pY:=λa b c=>adR.cs (ax4 DX og jT a b c:)
def Lp:=mk ahI Tryz.func212 (hc adR hn)
def dQ:=λa b c=>Lp.cs (ax5 pY a b c:)
end Go.TX.F
end
noncomputable section
namespace Go.TX.F
open Go Go.AE Go.TX Go.TX.Seat Go.Proofs List
set_option maxRecDepth 100000
set_option maxHeartbeats 4000000
def aph:=mk ahJ Tryz.func287 (hc Lp hn)
def AL:=λa b c=>aph.cs (ayb dQ a b c:)
def apj:=mk ahK Tryz.func286 (hc aph hn)
def zT:=λa b c=>apj.cs (ayc AL a b c:)
def alK:=mk ZM Tryz.func285 (hc apj hn)
def jf:=λa b c d=>alK.cs (arB zT a b c d:)
def alL:=mk ahL Tryz.func256 (hc alK hn)
def rV:=λa b c d=>alL.cs (ayd jf a b c d:)
def alM:=mk ZN Tryz.func294 hn
def jW:=λa=>alM.cs (arA a:)
def alN:=mk ahM Tryz.func259 (hc alJ (hc alL (hc alM hn)))
def tF:=λt a c b=>alN.cs (ayg oh rV jW t a c b:)
def alO:=mk ahN Tryz.func260 (hc iB hn)
def zU:=λa=>alO.cs (ax7 bX a:)
def abZ:=mk ZO Tryz.func207 (hc alO (hc alN hn))
def vk:=λc k t b a=>abZ.cs (asO zU tF c k t b a:)
def ab0:=mk ZP Tryz.func199 (hc abZ hn)
def tH:=λt c b a=>ab0.cs (asP vk t c b a:)
def Lr:=mk ZQ Tryz.func71 hn
def kV:=λa b=>Lr.cs (arx a b:)
def adS:=mk ahO Tryz.func254 (hc Lr hn)
def kE:=λa b=>adS.cs (ax9 kV a b:)
def alP:=mk ahP Tryz.func200 (hc adS hn)
def qh:=λa b=>alP.cs (aya kE a b:)
def apk:=mk ahQ Tryz.func131 (hc alP (hc ab0 hn))
def MQ:=apk.cs (ayB qh tH:)
def apl:=mk ahR Tryz.func201 (hc alJ (hc alL hn))
def Rs:=λa b=>apl.cs (ayf oh rV a b:)
def alQ:=mk ahS Tryz.func203 (hc iB hn)
def tJ:=λo=>alQ.cs (ayu bX o:)
def alR:=mk ZR Tryz.func204 hn
def jQ:=λa c b=>alR.cs (asQ a c b:)
def adT:=mk ahT Tryz.func205 (hc iB hn)
def qb:=λa=>adT.cs (ax6 bX a:)
def FK:=mk ZT Tryz.func123 hn
def kF:=λa=>FK.cs (arv a:)
def FL:=mk ZU Tryz.func126 (hc uw (hc FK hn))
def om:=λc a b=>FL.cs (arw gJ kF c a b:)
def alS:=mk ahU Tryz.func263 (hc Gm hn)
def Bu:=λa b=>alS.cs (ax8 jD a b:)
def Cw:=mk ZV Tryz.func316 (hc Ll hn)
def DY:=λa b c=>Cw.cs (arz jT a b c:)
def alT:=mk ZW Tryz.func332 (hc Cw hn)
def jE:=λa b d hd e c f=>alT.cs (arE DY a b d hd e c f:)
def alU:=mk ZX Tryz.func341 hn
def kG:=λa b n d c g e h f=>alU.cs (arC a b n d c g e h f:)
def FN:=mk ZY Tryz.func339 (hc alU hn)
def lK:=λa m b d c g e h f=>FN.cs (arD kG a m b d c g e h f:)
def cK:Nat->Ct aH VZ
 | 0=>never VZ
 | k+1=>cn (JX.F (Cw.c.pre,Cw.c.fn,FN.c.pre,FN.c.fn,(cK k).pre,(cK k).fn,()))
def kK:∀k:Nat,dP E 333 (dK (cK k))/\∀(a m b:Int) (d:List au),J2 a m b d->b-a<k->(cK k).pre (a,m,b,d,())=true/\Mrg d ((cK k).fn (a,m,b,d,())).1 a b
 | 0=>⟨nP (enters_of Tryz.func333 (by kernel_rfl) rfl),λa m b d c f=>(by have h:=c.h2;have g:=c.h3;omega)⟩
 | k+1=>by
  have e:=kK k;have t:Fn E 333 (JX.F (Cw.c.pre,Cw.c.fn,FN.c.pre,FN.c.fn,(cK k).pre,(cK k).fn,())) (cK (k+1)):=mkF Tryz.func333 JX (hc Cw (hc FN (hk e.1 hn)));exact⟨t.ok,λa m b d c f=>t.cs (arF DY lK (k:Int) e.2 a m b d c ah)⟩
def av2:Ct aH VZ:=cK 1000000000
def av3:dP E 333 (dK av2):=(kK 1000000000).1
def apm{a m b:Int}{d:List au}(h:J2 a m b d):b-a< ((1000000000:Nat):Int):=by have f:=h.sh.1;have e:=h.h1;have c:=h.h4;omega
def av4:=λa m b d h=>((kK 1000000000).2 a m b d h (apm h)).1
def av5:=λa m b d h=>((kK 1000000000).2 a m b d h (apm h)).2
def alV:=mk Z0 Tryz.func321 (hc alT (hk av3 hn))
def lM:=λn d hd hn=>alV.cs (arG jE (λz1 z2 z3 z4 a=>⟨av4 z1 z2 z3 z4 a,av5 z1 z2 z3 z4 a⟩) n d hd hn:)
def alW:=mk Z4 Tryz.func315 (hc alV hn)
def gX:=λd hd=>alW.cs (arH lM d hd:)
def ab1:=mk Z5 Tryz.func307 (hc Ll (hc Gm (hc FK (hc Lr (hc alW hn)))))
def Ls:=λl a hc=>ab1.cs (arI jT jD kF kV gX l a hc:)
def alX:=mk Z6 Tryz.func317 hn
def jX:=λn a b=>alX.cs (arJ n a b:)
def alY:=mk Z7 Tryz.func308 (hc alX hn)
def jK:=λa b c d=>alY.cs (arK jX a b c d:)
def apn:=mk ahV Tryz.func288 (hc Gm (hc ab1 (hc alY hn)))
def MR:=λa b c d=>apn.cs (ayi jD Ls jK a b c d:)
def alZ:=mk Z8 Tryz.func318 hn
def xQ:=λn a b=>alZ.cs (arL n a b:)
def al0:=mk Z9 Tryz.func309 (hc alZ hn)
def vo:=λa b c d=>al0.cs (arM xQ a b c d:)
def al1:=mk aac Tryz.func322 (hc aon hn)
def nD:=λa b d hd e c=>al1.cs (asw zS a b d hd e c:)
def av6:Ct aH agN:=never agN
def av7:dP E 323 (dK av6):=nP (enters_of Tryz.func323 (by kernel_rfl) rfl)
def av8:Ct aH agO:=never agO
def av9:dP E 324 (dK av8):=nP (enters_of Tryz.func324 (by kernel_rfl) rfl)
def awc:Ct aH V4:=never V4
def awd:dP E 325 (dK awc):=nP (enters_of Tryz.func325 (by kernel_rfl) rfl)
def awe:Ct aH agP:=never agP
def awf:dP E 326 (dK awe):=nP (enters_of Tryz.func326 (by kernel_rfl) rfl)
def awg:Ct aH V5:=never V5
def awh:dP E 327 (dK awg):=nP (enters_of Tryz.func327 (by kernel_rfl) rfl)
def awi:Ct aH V6:=never V6
def awj:dP E 328 (dK awi):=nP (enters_of Tryz.func328 (by kernel_rfl) rfl)
def awk:Ct aH V7:=never V7
def awl:dP E 329 (dK awk):=nP (enters_of Tryz.func329 (by kernel_rfl) rfl)
def qc:Ct aH JW:=never JW
def qd:dP E 319 (dK qc):=nP (enters_of Tryz.func319 (by kernel_rfl) rfl)
def al2:=mk aad Tryz.func319 (hc aon (hc al1 (hk av7 (hk av9 (hk awd (hk awf (hk awh (hk awj (hk awl (hk qd hn))))))))))
def qJ:=λa b k d hd e c=>al2.cs (asx nD _ _ _ _ _ _ _ _ _ _ _ _ _ _ _ _ a b k d hd e c:)
def al3:Ct aH agQ:={pre:=λx=>decide ((0:Int)<=x.1)&&decide ((x.1:Int)<=18446744073709551615),fn:=λx=>((Lib.bitLen (x.1:Int).toNat:Int),())}
def awm(n:Int)(a:0<=n)(b:n<=18446744073709551615):al3.pre (n,())=true:=by
 show(decide _&&decide _)=true;simp only [Bool.and_eq_true,decide_eq_true_eq];exact⟨a,b⟩
def awn:dP E 320 (dK al3):=
 aj5 (enters_of Tryz.func320 (by kernel_rfl) rfl) rfl λx w h=>by
  have a:(decide ((0:Int)<=x)&&decide (x<=18446744073709551615))=true:=h;simp only [Bool.and_eq_true,decide_eq_true_eq]at a;exact bits_Len x w a.1 a.2
def al4:=mk aae Tryz.func310 (hc al2 (hk awn hn))
def xR:=λa b=>al4.cs (asy qJ awm a b:)
def al5:=mk ahW Tryz.func290 (hc Gm (hc FK (hc ab1 (hc al0 (hc al4 hn)))))
def Bv:=λa b c d=>al5.cs (ayj jD kF Ls vo xR a b c d:)
end Go.TX.F
end
noncomputable section
namespace Go.TX.F
open Go Go.AE Go.TX Go.TX.Seat Go.Proofs List
set_option maxRecDepth 100000
set_option maxHeartbeats 4000000
def apo:=mk ahX Tryz.func289 (hc Gm (hc adT (hc uw (hc al5 hn))))
def GU:=λa n b=>apo.cs (ayk jD qb gJ Bv a n b:)
def al6:=mk aaf Tryz.func257 (hc Lp (hc adT (hc FL (hc apn (hc al5 (hc apo (hc alS hn)))))))
def MU:=λa x y c b=>al6.cs (arN dQ qb om MR Bv GU Bu a x y c b:)
def apq:=mk ahY Tryz.func206 (hc adR (hc al6 (hc alN (hc alO hn))))
def FQ:=λt a x y c d b=>apq.cs (ayl pY MU tF zU t a x y c d b:)
def FR:=mk aag Tryz.func124 (hc uw hn)
def lN:=λr a b=>FR.cs (asM gJ r a b:)
def al7:=mk aah Tryz.func298 (hc adS hn)
def DZ:=λa b=>al7.cs (asN kE a b:)
def apr:=mk ahZ Tryz.func262 (hc adS (hc al7 hn))
def AO:=λs a=>apr.cs (ayA kE DZ s a:)
def aps:=mk ah0 Tryz.func209 (hc alS (hc Gm (hc adR (hc apr (hc Lp (hc FR hn))))))
def MV:=λs n c b a=>aps.cs (ayC Bu jD pY AO dQ lN s n c b a:)
def apt:=mk ah1 Tryz.func132 (hc Ur (hc Gj (hc alQ (hc Uq (hc adT (hc aps (hc apl (hc alP (hc apq (hc abZ (hc ab0 (hc alR hn))))))))))))
def MW:=λt b a c=>apt.cs (ayD gW kC tJ lU qb MV Rs qh FQ vk tH jQ t b a c:)
def al8:=mk aai Tryz.func265 (hc Lp hn)
def Cx:=λa b c=>al8.cs (atd dQ a b c:)
def al9:=mk aaj Tryz.func264 (hc al8 hn)
def dD:=λa b c=>al9.cs (ate Cx a b c:)
def ab2:=mk aak Tryz.func213 (hc al9 hn)
def vB:=λa b c=>ab2.cs (atf dD a b c:)
def apu:=mk ah2 Tryz.func211 (hc Lp (hc ab2 hn))
def FT:=λa b c=>apu.cs (ayF dQ vB a b c:)
def ama:=mk aal Tryz.func210 (hc apu hn)
def dx:=λa b c=>ama.cs (atg FT a b c:)
def apv:=mk ah3 Tryz.func133 (hc Lp (hc ab2 (hc ama hn)))
def Lu:=λa b c=>apv.cs (ayG dQ vB dx a b c:)
def adU:=mk ah4 Tryz.func78 (hc Gj (hc alz (hc apk (hc apt (hc apv hn)))))
def rW:=λb c a hc=>adU.cs (ayH kC Br MQ MW Lu b c a hc:)
def FU:=mk aam Tryz.func215 (hc alQ hn)
def iH:=λg x y k d e f c i j a b h=>FU.cs (atX tJ g x y k d e f c i j a b h:)
def amb:=mk aan Tryz.func214 (hc FU hn)
def wM:=λv i d e f c g j a b h=>amb.cs (at5 iH v i d e f c g j a b h:)
def amc:=mk aao Tryz.func216 (hc FU hn)
def Cy:=λk d e f c g i a b h=>amc.cs (atY iH k d e f c g i a b h:)
def amd:=mk aap Tryz.func217 (hc FU hn)
def Cz:=λk d e f c g i a b h=>amd.cs (atZ iH k d e f c g i a b h:)
def ame:=mk aaq Tryz.func218 (hc FU hn)
def D5:=λd x y e f g c i j a b h=>ame.cs (at0 iH d x y e f g c i j a b h:)
def amf:=mk aar Tryz.func134 (hc ame (hc amd (hc amb (hc FU (hc amc hn)))))
def zV:=λi B a h b c=>amf.cs (at6 D5 Cz wM iH Cy i B a h b c:)
def Om:=mk ah5 Tryz.func135 hn
def fM:=λb a=>Om.cs (ayI b a:)
def awo:=mk aqZ Tryz.func79 (hc avZ (hc Om (hc amf hn)))
def xJ:=λb l a=>awo.cs (aBl DV fM zV b l a:)
def amg:=mk ah6 Tryz.func116 (hc alu hn)
def vC:=λe mem a hm b=>amg.cs (azT nu e mem a hm b:)
def apw:=mk ah7 Tryz.func137 hn
def FV:=λe a=>apw.cs (azJ e a:)
def amh:=mk ah8 Tryz.func238 hn
def xK:=λe x=>amh.cs (azN e x:)
def ami:=mk aas Tryz.func136 (hc apw hn)
def iQ:=λl a h=>ami.cs (au5 FV l a h:)
def amj:=mk aat Tryz.func136 (hc amh hn)
def gY:=λl x h=>amj.cs (avv xK l x h:)
def amk:=mk aau Tryz.func136 (hc amg hn)
def gZ:=λl mem h hm=>amk.cs (avC vC l mem h hm:)
def aml:=mk ah9 Tryz.func80 (hc ami hn)
def zW:=λl a h=>aml.cs (azK iQ l a h:)
def apx:=mk aia Tryz.func40 (hc awo (hc avZ (hc aAk (hc alu (hc aml (hc adU hn))))))
def Rt:=λl mem h hm=>apx.cs (azX xJ DV Lj nu zW rW l mem h hm:)
def apy:=mk aib Tryz.func82 (hc adU hn)
def Lv:=λq b a=>apy.cs (ayT rW q b a:)
def apz:=mk aic Tryz.func236 (hc alz hn)
def GV:=λq b c d a=>apz.cs (ayS Br q b c d a:)
def amm:=mk aav Tryz.func138 (hc apz hn)
def jg:=λl b c h=>amm.cs (atj GV l b c h:)
def amn:=mk aaw Tryz.func138 (hc apy hn)
def iI:=λl h=>amn.cs (atl Lv l h:)
def amo:=mk aax Tryz.func81 (hc amm hn)
def iJ:=λl b c h=>amo.cs (atm jg l b c h:)
def amq:=mk aay Tryz.func81 (hc amn hn)
def gT:=λl h=>amq.cs (atn iI l h:)
def apA:=mk aie Tryz.func41 (hc amq hn)
def Rv:=λl h=>apA.cs (ayV gT l h:)
def adV:=mk aif Tryz.func15 (hc apx (hc apA (hc adP hn)))
def wN:=λe b a c=>adV.cs (azY Rt Rv wI e b a c:)
def amr:=mk aii Tryz.func37 (hc Lr hn)
def pK:=λm h=>amr.cs (aze kV m h:)
def apB:=mk aij Tryz.func108 (hc Om (hc Lr hn))
def xS:=λe a b=>apB.cs (azP fM kV e a b:)
def Rw:=mk aaz Tryz.func55 (hc apB hn)
def oq:=λl h=>Rw.cs (avx xS l h:)
def apC:=mk aik Tryz.func109 (hc Om hn)
def zY:=λq b a=>apC.cs (ay0 fM q b a:)
def ab3:=mk aaA Tryz.func56 (hc apC hn)
def tK:=λl h=>ab3.cs (atK zY l h:)
def ams:=mk ail Tryz.func25 (hc amr (hc Rw (hc ab3 hn)))
def qm:=λe h=>ams.cs (az4 pK oq tK e h:)
def adW:=mk ain Tryz.func26 hn
def lD:=λm=>adW.cs (azz m:)
def apD:=mk aio Tryz.func125 hn
def zZ:=λe c lt f b ins d regs mem a h=>apD.cs (azf e c lt f b ins d regs mem a h:)
def amt:=mk aip Tryz.func125 hn
def nA:=λe c lt f b ins d K C regs mem a h=>amt.cs (azZ e c lt f b ins d K C regs mem a h:)
def apE:=mk aiq Tryz.func73 (hc apD (hc FL (hc FR (hc FK hn))))
def wO:=λi m h b hn a=>apE.cs (azA zZ om lN kF i m h b hn a:)
def apF:=mk air Tryz.func73 (hc amt (hc FL (hc FR (hc FK hn))))
def sG:=λi m K C h b hn a=>apF.cs (az1 nA om lN kF i m K C h b hn a:)
def apG:=mk ais Tryz.func38 (hc Uo (hc apE hn))
def AP:=λb m h hn a=>apG.cs (azB nY wO b m h hn a:)
end Go.TX.F
end
noncomputable section
namespace Go.TX.F
open Go Go.AE Go.TX Go.TX.Seat Go.Proofs List
set_option maxRecDepth 100000
set_option maxHeartbeats 4000000
def apH:=mk ait Tryz.func38 (hc Uo (hc apF hn))
def wP:=λb m K C h hn a=>apH.cs (az2 nY sG b m K C h hn a:)
def amu:=mk aaB Tryz.func74 hn
def wQ:=λl n h=>amu.cs (auL l n h:)
def ab4:=mk aaC Tryz.func39 (hc amu hn)
def kZ:=λl n h=>ab4.cs (auM wQ l n h:)
def aAl:=mk aq0 Tryz.func110 (hc alv (hc Uo (hc adP hn)))
def Lx:=λm h=>aAl.cs (aBA zP nY wI m h:)
def amv:=mk aiu Tryz.func302 (hc Ur (hc Uq hn))
def oF:=λnm b len fin x y k a h=>amv.cs (ayK gW lU nm b len fin x y k a h:)
def amw:=mk aiv Tryz.func299 (hc amv hn)
def qo:=λb a ok hk=>amw.cs (ayL oF b a ok hk:)
def apI:=mk aiw Tryz.func300 (hc Ur (hc Uq hn))
def AQ:=λb ok=>apI.cs (ayO gW lU b ok:)
def apJ:=mk aix Tryz.func269 (hc amw (hc apI (hc Gj hn)))
def LA:=λb a=>apJ.cs (ayQ qo AQ kC b a:)
def apK:=mk aiy Tryz.func270 (hc amw (hc Gj hn))
def LB:=λb a=>apK.cs (ayP qo kC b a:)
def apL:=mk aiz Tryz.func301 hn
def D6:=λi c d e b f g a h=>apL.cs (ayJ i c d e b f g a h:)
def apM:=mk aiA Tryz.func271 (hc Om (hc Gj (hc apL (hc FL (hc FR hn)))))
def GX:=λb a=>apM.cs (ayM fM kC D6 om lN b a:)
def apN:=mk aiB Tryz.func272 (hc Om (hc amv (hc Gj hn)))
def LC:=λb a=>apN.cs (ayN fM oF kC b a:)
def apO:=mk aiC Tryz.func234 (hc apM (hc apN (hc apJ (hc apK hn))))
def MX:=λb a=>apO.cs (ayR GX LC LA LB b a:)
def apP:=mk aiD Tryz.func273 hn
def GY:=λa b e d c f=>apP.cs (ay6 a b e d c f:)
def aAm:=mk aq1 Tryz.func274 hn
def MZ:=λa b c d=>aAm.cs (aBe a b c d:)
def apQ:=mk aiE Tryz.func275 (hc Gj hn)
def LD:=λb a=>apQ.cs (ay7 kC b a:)
def apR:=mk aiF Tryz.func235 (hc aAm (hc apQ (hc apP hn)))
def M0:=λl b a=>apR.cs (ay9 MZ LD GY l b a:)
def apS:=mk aiG Tryz.func172 (hc apR (hc apO hn))
def CB:=λa b h c d=>apS.cs (az5 M0 MX a b h c d:)
def apT:=mk aiH Tryz.func173 (hc amo hn)
def M4:=λl b c h=>apT.cs (ayU iJ l b c h:)
def amx:=mk aaD Tryz.func237 hn
def rX:=λl n a c b=>amx.cs (atL l n a c b:)
def apU:=mk aiI Tryz.func174 (hc ab3 (hc amx hn))
def M5:=λl q h b a=>apU.cs (ay3 tK rX l q h b a:)
def amy:=mk aaE Tryz.func115 (hc amh (hc amj hn))
def iL:=λl x h=>amy.cs (avw xK gY l x h:)
def amA:=mk aaF Tryz.func115 (hc amg (hc amk hn))
def gU:=λl mem h hm=>amA.cs (avD vC gZ l mem h hm:)
def amB:=mk aaG Tryz.func239 hn
def qK:=λl n a c b=>amB.cs (avy l n a c b:)
def apV:=mk aiJ Tryz.func175 (hc Rw (hc amB (hc amy hn)))
def M6:=λl e h b a c=>apV.cs (azQ oq qK iL l e h b a c:)
def apW:=mk aiK Tryz.func240 (hc adQ hn)
def M7:=λi=>apW.cs (azy wK i:)
def aAn:=mk aq2 Tryz.func176 (hc apW hn)
def GZ:=λl a=>aAn.cs (aBp M7 l a:)
def apX:=mk aiL Tryz.func111 (hc awo (hc aAn (hc apV (hc apT (hc apU (hc adU (hc apS hn)))))))
def CF:=λl a m K C c b hK hc d hn=>apX.cs (az7 xJ GZ M6 M4 M5 rW CB l a m K C c b hK hc d hn:)
def apY:=mk aiM Tryz.func114 (hc amt (hc FL (hc FR (hc iB hn))))
def xU:=λb m K C c hm d a=>apY.cs (az3 nA om lN bX b m K C c hm d a:)
def apZ:=mk aiN Tryz.func57 (hc aAl (hc aml (hc apX (hc apY (hc apH (hc alD (hc ab4 hn)))))))
def xV:=λq l a e ok c d z b f hn=>apZ.cs (az8 Lx zW CF xU wP nZ kZ q l a e ok c d z b f hn:)
def ap0:=mk aiO Tryz.func58 (hc Rw (hc amA hn))
def LG:=λl mem h hm=>ap0.cs (azV oq gU l mem h hm:)
def amC:=mk aiP Tryz.func27 (hc ap0 (hc apZ hn))
def rY:=λq l a e ok f b z c d hn=>amC.cs (az9 LG xV q l a e ok f b z c d hn:)
def ap1:=mk aiQ Tryz.func8 (hc ams (hc amC (hc adV (hc adW hn))))
def M8:=λe q n l z a b hn c=>ap1.cs (aAd qm rY wN lD e q n l z a b hn c:)
def ab5:=mk aaH Tryz.func35 hn
def Bw:=λa b c=>ab5.cs (arP a b c:)
def Rx:=mk aaI Tryz.func13 (hc ab5 hn)
def uD:=λa b h=>Rx.cs (atT Bw a b h:)
def ab6:=mk aaJ Tryz.func59 hn
def Aa:=λa b c=>ab6.cs (ati a b c:)
def amD:=mk aaK Tryz.func28 (hc ab6 (hc ab5 hn))
def LH:=λa b c=>amD.cs (avA Aa Bw a b c:)
def amE:=mk aaL Tryz.func29 (hc ab6 hn)
def LJ:=λa b c=>amE.cs (atN Aa a b c:)
def ab7:=mk aaM Tryz.func9 (hc amD (hc amE (hc Rx hn)))
def D7:=λa b z=>ab7.cs (avP LH LJ uD a b z:)
def amF:=mk aaN Tryz.func10 (hc Fz (hc La (hc abH hn)))
def M9:=λe q n l z a b hn c=>amF.cs (avL nU nW zH e q n l z a b hn c:)
def ab8:=mk aaO Tryz.func12 (hc uw hn)
def Gn:=ab8.cs (arO gJ:)
def amG:=mk aiR Tryz.func14 (hc amr (hc adW (hc apG (hc adP (hc ab4 hn)))))
def Bz:=λm q n h b a=>amG.cs (azC pK lD AP wI kZ m q n h b a:)
def amH:=mk aaP Tryz.func3 (hc ap1 (hc amG (hc ab7 (hc Rx (hc ab8 (hc alq (hc Fz (hc amF hn))))))))
def xL:=λc hc=>amH.cs (avR M8 Bz D7 uD Gn DU nU M9 c hc:)
def awp:=λc hc=>(xL c hc).1
def awq:=λc hc=>(xL c hc).2
def amI:=mk aaQ Tryz.func16 (hc abF (hc iP (hc Ro (hc abX hn))))
def CG:=λc hc a=>amI.cs (avO zF aN uo xG c hc a:)
def ap2:=mk aiS Tryz.func17 (hc ams (hc amC (hc adV (hc adW hn))))
def LK:=λe q l a z b c d hn=>ap2.cs (aAc qm rY wN lD e q l a z b c d hn:)
def amJ:=mk aaR Tryz.func6 (hc adV (hc ap2 (hc amG (hc ab7 (hc Rx (hc ab8 (hc amI (hc Fz (hc La hn)))))))))
def vD:=λc hc=>amJ.cs (avU wN LK Bz D7 uD Gn CG nU nW c hc:)
def awr:=λc hc=>(vD c hc).1
def awt:=λc hc=>(vD c hc).2
end Go.TX.F
end
