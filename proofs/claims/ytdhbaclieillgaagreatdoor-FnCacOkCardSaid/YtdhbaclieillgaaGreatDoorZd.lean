/- Part 4 of a proof: what the last part needs. No condition. -/
import Derived.Test.YtdhbaclieillgaaGreatDoorZc
import Derived.Lib.Bytes
set_option maxHeartbeats 1000000
set_option linter.all false
set_option linter.unusedSectionVars false
set_option linter.unusedVariables false
set_option linter.unusedSimpArgs false
namespace Go.TX.F
open Go Go.AE Go.TX List
variable{x:List aj}
def Br{l o:List aj}(h:aQ o)(a:∀k,cf o k=cf l k%65536):tT l=(true,o):=by
 unfold tT;rw [ZJ h.nf a,aL h,if_pos rfl]
def Hl(h:aQ x):aQ (kg x 65535)/\∀k,cf (kg x 65535) k=(65535*cf x k)%65536:=by
 have hc:∀(l:List aj) k,cf (l.map λm=>(⟨m.bH*65535%65536,m.atoms⟩:aj)) k%65536=(65535*cf l k)%65536:=λl k=>by
  induction l with
  | nil=>rfl
  | cons m l b=>rw [map_cons,bV,bV];dsimp only;split<;>omega
 have no:Nf (x.map λm=>(⟨m.bH*65535%65536,m.atoms⟩:aj)):=⟨by
  rw [pairwise_map];exact h.nf.ss,λm hm=>by
  rw [mem_map]at hm;obtain⟨n,hn,rfl⟩:=hm;have:=h.nf.co n hn;dsimp only;omega⟩
 have ok:aQ (x.map λm=>(⟨m.bH*65535%65536,m.atoms⟩:aj)):=iF.2 ⟨no,by rw [length_map];exact h.len,λm hm=>by
  rw [mem_map]at hm;obtain⟨n,hn,rfl⟩:=hm;exact show n.atoms.length<=4/\aok n.atoms from h.aok hn⟩
 have a:prods x (aW 65535)=x.map λm=>(⟨m.bH*65535%65536,m.atoms⟩:aj):=by
  unfold aW;rw [if_pos ah,yF];exact map_congr_left λm hm=>Bq 65535 (h.aok hm).2
 have e:kg x 65535=x.map λm=>(⟨m.bH*65535%65536,m.atoms⟩:aj):=by
  unfold kg qA;rw [if_pos (by rw [aL h];rfl),if_pos (by rw [aL h,aL (dA _)];rfl),a,Br ok (λk=>by have:=no.bnd k;omega)]
 rw [e];exact⟨ok,λk=>by rw [<-hc];have:=no.bnd k;omega⟩
def sub_self(h:aQ x):jg 2 x x=([],true):=by
 obtain⟨b,a⟩:=Hl h;unfold jg pV;rw [if_neg ah,if_pos rfl,if_pos (by rw [aL h,aL b];rfl),Br cO (λk=>by rw [bX,a,iW];omega)]
def tX(h:(dw x).2=true):aQ x/\x=aW (dw x).1/\0<=(dw x).1/\(dw x).1<=65535:=by
 unfold dw at h ⊢;by_cases c:aQ x
 .rw [aL c,if_pos rfl]at h ⊢;refine⟨c,?_⟩;by_cases b:x.length=0
  .rw [if_pos b];exact⟨by rw [eq_nil_of_length_eq_zero b];rfl,ah,ah⟩
  .rw [if_neg b]at h ⊢;by_cases a:x.length=1/\(x.getD 0 default).atoms.length=0
   .rw [if_pos a]
    match x,c,a with
    | [m],c,a=>
     have hc:=c.nf.co m (by simp);have d:m.atoms=[]:=eq_nil_of_length_eq_zero a.2;refine⟨?_,by show 0<=m.bH;omega,by show m.bH<=65535;omega⟩;show [m]=aW m.bH;unfold aW;rw [if_pos hc,<-d]
   .rw [if_neg a]at h;exact absurd h (by simp)
 .rw [aV c]at h;exact absurd h (by simp)
def pY{a:Int}(h:0<=a/\a<=65535)(k:List Int):cf (aW a) k=if []=k then a else 0:=by
 unfold aW;by_cases c:1<=a/\a<=65535
 .rw [if_pos c,bV,iW,Int.add_zero]
 .rw [if_neg c,iW];split<;>omega
def iK{a:Int}(h:0<=a/\a<=65535):dw (aW a)=(a,true):=by
 unfold dw;rw [aL (dA a),if_pos rfl];unfold aW;by_cases c:1<=a/\a<=65535
 .rw [if_pos c];rfl
 .rw [if_neg c,show a=0 by omega];rfl
def Xu{e a b:Int}(n:1<=e/\e<=5)(d:0<=a/\a<=65535)(c:0<=b/\b<=65535):jg e (aW a) (aW b)=(aW (wdo e a b),true):=by
 have hm:=EK d.1 d.2 c.1 c.2;unfold jg;by_cases h:e=1
 .subst h;have w:wdo 1 a b=(a+b)%65536:=by unfold wdo;rw [if_pos ⟨d,c⟩];rfl
  rw [if_pos rfl,w];unfold pV;rw [if_pos (by rw [aL (dA _),aL (dA _)];rfl),Br (dA ((a+b)%65536)) (λk=>by rw [bX,pY d,pY c,pY ah];split<;>omega)]
 .rw [if_neg h];by_cases f:e=2
  .subst f;have w:wdo 2 a b=(a-b)%65536:=by unfold wdo;rw [if_pos ⟨d,c⟩];rfl
   obtain⟨m,i⟩:=Hl (dA b);rw [if_pos rfl,w];unfold pV;rw [if_pos (by rw [aL (dA _),aL m];rfl),Br (dA ((a-b)%65536)) (λk=>by rw [bX,pY d,i,pY c,pY ah];split<;>omega)]
  .rw [if_neg f];by_cases g:e=3
   .subst g;have w:wdo 3 a b=(a*b)%65536:=by unfold wdo;rw [if_pos ⟨d,c⟩];rfl
    rw [if_pos rfl,w];unfold qA;rw [if_pos (by rw [aL (dA _),aL (dA _)];rfl),Br (dA ((a*b)%65536)) (λk=> ?_)];rw [pY ah];by_cases j:1<=a
    .by_cases p2:1<=b
     .have e1:aW a=[⟨a,[]⟩]:=by unfold aW;rw [if_pos ⟨j,d.2⟩]
      have l:aW b=[⟨b,[]⟩]:=by unfold aW;rw [if_pos ⟨p2,c.2⟩]
      rw [e1,l,yF,map_cons,map_nil,Bq b ⟨Pairwise.nil,λk hk=>absurd hk (by simp)⟩,bV,iW];dsimp only;split<;>omega
     .have e0:b=0:=by omega
      subst e0;rw [show prods (aW a) (aW 0)=[] by simp [prods,aW],iW];split<;>simp
    .have e0:a=0:=by omega
     subst e0;rw [show prods (aW 0) (aW b)=[] by simp [prods,aW],iW];split<;>simp
   .rw [if_neg g,ZK,iK d,iK c];rfl
end Go.TX.F
namespace Go.TX.F
open Go Go.AE Go.TX List
abbrev Y47(b : Unit -> Bool)(a : Unit -> Bool × Unit) : Prop := b () = true /\ a () = (true, ())
variable{d:List Int}
def ZO{i j x:Int}(b:0<=i)(a:i<d.length)(c:0<=j):((d.set i.toNat x).getD (j).toNat default)=if j=i then x else((d).getD (j).toNat default):=by
 simp only [getD];by_cases h:j=i
 .subst h;rw [if_pos rfl,getElem?_set_self ah];rfl
 .rw [if_neg h,getElem?_set_ne ah]
def aa8{i j:Int}(f:0<=i)(c:i<d.length)(g:0<=j)(e:j<d.length)(a:i≠j):((d.set i.toNat ((d).getD (j).toNat default)).set j.toNat ((d).getD (i).toNat default)).Perm d:=by
 rw [perm_iff_count];intro x;rw [getD_lt (show i.toNat<d.length by omega),getD_lt (show j.toNat<d.length by omega),count_set (by simp;omega),count_set ah,getElem_set_ne ah];have b:(if d[i.toNat]==x then 1 else 0)<=List.count x d:=by
  split
  .rename_i h;exact List.count_pos_iff.2 (by rw [<-eq_of_beq h];exact getElem_mem _)
  .omega
 split<;>split<;>simp_all<;>omega
def anp{p f}(U:Y5 p f)(a b:Int)(d:List Int)(hd:d.length<1000000000)(v:a=0)(z:b=d.length):
  Un.F (p,f,()) (a,b,d,()) (λy=>y.1=mR d):=by
 subst v;dsimp only [Un,gm];simp (disch:=omega) only [RR];have fin:∀e:List Int,e.Perm d->(∀q:Int,1<=q->q<e.length->((e).getD (q-1).toNat default)<=((e).getD (q).toNat default))->e=mR d:=λe m l=>
  Ag ((dD (d:=default) (R:=λa b:Int=>a<=b) (λv z=>Int.le_trans v z)).2 l) m
 refine au (λ(y:Int×Bp)=>y.1=0/\y.2.1=b/\1<=y.2.2.1/\(y.2.2.1<=b\/y.2.2.1=1)/\y.2.2.2.1.Perm d/\∀q,1<=q->q<y.2.2.1->((y.2.2.2.1).getD (q-1).toNat default)<=((y.2.2.2.1).getD (q).toNat default)) (λy=>(b-y.2.2.1).toNat)
  ⟨rfl,rfl,by simp,Or.inr rfl,Perm.refl d,λq m l=>by dsimp only at l;omega⟩ ?_
 rintro⟨(M:Int),(J:Int),(i:Int),(e:List Int),⟨⟩⟩ hI;dsimp only at hI ⊢;obtain⟨rfl,rfl,O,L,t,B⟩:=hI;have E:=t.length_eq;simp (disch:=omega) only [RR];refine⟨λK=> ?_,λK=>fin e t λq m l=>B q m ah⟩
 refine au (λ(y:Int×Int×Bp)=>y.1=0/\y.2.1=J/\y.2.2.1=i/\0<=y.2.2.2.1/\y.2.2.2.1<=i/\y.2.2.2.2.1.Perm d
   /\(∀q,1<=q->q<=i->q≠y.2.2.2.1->((y.2.2.2.2.1).getD (q-1).toNat default)<=((y.2.2.2.2.1).getD (q).toNat default))/\(1<=y.2.2.2.1->y.2.2.2.1+1<=i->((y.2.2.2.2.1).getD (y.2.2.2.1-1).toNat default)<=((y.2.2.2.2.1).getD (y.2.2.2.1+1).toNat default))) (λy=>y.2.2.2.1.toNat)
  ⟨rfl,rfl,rfl,by simp;omega,by simp,t,λq m l H=>B q m (by dsimp only at H;omega),λm l=>by dsimp only at l;omega⟩ ?_
 rintro⟨(C:Int),(I:Int),(N:Int),(j:Int),(r:List Int),⟨⟩⟩ hI;dsimp only at hI ⊢;obtain⟨rfl,rfl,rfl,F,G,o,n,u⟩:=hI;have A:=o.length_eq;simp (disch:=omega) only [RR,length_set,U]
 repeat' (refine And.intro ?_ ?_)
 all_goals try omega
 .intro ⟨m,l⟩;have h:∀k,0<=k->(((r.set j.toNat ((r).getD (j-1).toNat default)).set (j-1).toNat ((r).getD (j).toNat default)).getD (k).toNat default)=if k=j-1 then((r).getD (j).toNat default)else if k=j then((r).getD (j-1).toNat default)else((r).getD (k).toNat default):=λk hk=>by
   rw [ZO ah (by simp;omega) hk,ZO ah ah hk]
  repeat' (refine And.intro ?_ ?_)
  all_goals try omega
  .exact(aa8 ah ah ah ah ah).trans o
  .intro q s w k3;rw [h _ ah,h _ ah];by_cases x:q=j
   .subst x;rw [if_pos rfl,if_neg ah,if_pos rfl];omega
   .rw [if_neg ah];by_cases D:q=j+1
    .subst D;rw [if_pos ah,if_neg ah,if_neg ah];exact u ah ah
    .rw [if_neg ah,if_neg ah,if_neg ah];exact n q s w x
  .intro s w;rw [h _ ah,h _ ah,if_neg ah,if_neg ah,if_neg ah,if_pos ah];have:=n (j-1) ah ah ah;exact this
 .intro g;refine⟨⟨ah,ah,o,λq s w=> ?_⟩,ah⟩;by_cases c:q=j
  .subst c;rw [Bool.and_eq_false_iff,decide_eq_false_iff_not,decide_eq_false_iff_not]at g;omega
  .exact n q s ah c
def anq{c:Bp->Bool}{j:Bp->bf}{p:ni->Bool}{f:ni->mQ}(i:∀(a b:Int) (d:List Int),d.length<1000000000->a=0->b=d.length->c (a,b,d,())=true/\(j (a,b,d,())).1=mR d)(p2 p3 f2 f3 p4 f4 p5 f5 p6 f6 p7 f7 p8 f8 p9 f9)(a b k:Int)(d:List Int)(hd:d.length<=12)(m:a=0)(g:b=d.length):
  Uo.F (p,f,c,j,p2,f2,p3,f3,p4,f4,p5,f5,p6,f6,p7,f7,p8,f8,p9,f9,()) (a,b,k,d,()) (λy=>y.1=mR d):=by
 subst m;dsimp only [Uo,gm];simp (disch:=omega) only [RR];refine au (λ(y:Int×Int×Int×Bool×Bool×bf)=>y.1=0/\y.2.1=b/\y.2.2.2.2.2.1=d) (λy=>0) ⟨rfl,rfl,rfl⟩ ?_;rintro⟨(o:Int),(l:Int),(n:Int),(u:Bool),(v:Bool),(e:List Int),⟨⟩⟩ hI;dsimp only at hI ⊢;obtain⟨rfl,rfl,rfl⟩:=hI;simp (disch:=omega) only [RR];exact⟨λ_=>⟨(i 0 l e ah rfl g).1,(i 0 l e ah rfl g).2⟩,λh=>absurd h ah⟩
def anr{c:Int×Bp->Bool}{f:Int×Bp->bf}{g:dY->Bool}{i:dY->dY}(h:∀(a b k:Int) (d:List Int),d.length<=12->a=0->b=d.length->c (a,b,k,d,())=true/\(f (a,b,k,d,())).1=mR d)(j:∀n,0<=n->n<=18446744073709551615->g (n,())=true)(a:List Int)(l:a.length<=8):
  Uq.F (c,f,g,i,()) (a,()) (λy=>y=(mR a,())):=by
 dsimp only [Uq,gm];have e:IntKind.u64.wrap (a.length:Int)=(a.length:Int):=IntWalk.u64_in _ ah;refine⟨?_,(h _ _ _ _ ah rfl rfl).1,by rw [(h _ _ _ _ ah rfl rfl).2]⟩;rw [e];exact j _ ah ah
end Go.TX.F
namespace Go.TX.F
open Go Go.AE Go.TX List
variable{l:List Int}
def wOK(l:List Int):Prop:=∀z∈l,0<=z/\z<=65535
def wOK.at(h:wOK l)(n:Nat):0<=l.getD n default/\l.getD n default<=65535:=by
 by_cases hn:n<l.length
 .rw [getD_lt hn];exact h _ (getElem_mem _)
 .rw [getD,getElem?_eq_none ah];decide
def yV(v:List Int)(k:Int):Int:=if k<v.length then((v).getD (k).toNat default)else 0
def evM(v:List Int)(c:Int)(l:List Int):Int:=l.foldl (λc k=>c*yV v k%65536) c
def evF(v:List Int)(p:List aj):Int:=p.foldl (λs m=>(s+evM v m.bH m.atoms)%65536) 0
def ant{p1 f1}(f:Y9 p1 f1)(a:List Int)(k:a.length<1000000000):
  UD.F (p1,f1,()) (a,()) (λy=>y=(bp (wOK a),())):=by
 dsimp only [UD,gm];simp (disch:=omega) only [RR];refine au (λ(y:Eo)=>y.1=a/\y.2.1=a.length/\0<=y.2.2.1/\y.2.2.1<=a.length/\All y.2.2.1 (λi=>0<=((a).getD (i).toNat default)/\((a).getD (i).toNat default)<=65535)) (λy=>(a.length-y.2.2.1).toNat) ⟨rfl,rfl,by simp,by simp,All.zero⟩ ?_;rintro⟨(l:List Int),(n:Int),(i:Int),⟨⟩⟩ hI;dsimp only at hI ⊢;obtain⟨rfl,rfl,j,h,c⟩:=hI;simp (disch:=omega) only [RR,f];refine⟨λe=>⟨ah,ah,λb=> ?_,λb=>⟨⟨ah,ah,c.snoc ?_⟩,ah⟩⟩,λe=> ?_⟩
 .rw [jF]at b;rw [aV λg=>b (g.at _)]
 .rw [bD]at b;exact b
 .rw [aL];exact oM (d:=default) (G:=λz:Int=>0<=z/\z<=65535).1 (c.le ah)
def aVal(regs b ins out:List Int)(a:Atom):Int:=
 if a.kind=1 then yV regs a.k else if a.kind=2 then yV b a.k else if a.kind=3 then yV ins a.k else wdo a.k (evF out a.x) (evF out a.y)
def tv(regs b ins:List Int)(t:List Atom):List Int:=t.foldl (λo a=>o++ [aVal regs b ins o a]) []
def wOK.snoc(h:wOK l){x:Int}(b:0<=x/\x<=65535):wOK (l++ [x]):=λz a=>by
 rw [mem_append,mem_singleton]at a;rcases a with a | rfl
 .exact h z a
 .exact b
def anu{p1 f1}(d:Y40 p1 f1)(n:Int)(b:List Int)(p:Int)(c:Bt b)(hn:0<=n/\n<=100)(u:0<=p)(l:p<800000000):SH.F (p1,f1,()) (n,b,p,()) (λ(y:qj)=>y.1=b/\p<=y.2.1/\y.2.1<=p+300/\y.2.2.1.length=n/\wOK y.2.2.1):=by
 dsimp only [SH,gm];simp (disch:=omega) only [RR];refine au (λ(y:Int×Int×qj)=>y.1=n/\0<=y.2.1/\y.2.1<=n/\y.2.2.1=b/\p<=y.2.2.2.1/\y.2.2.2.1<=p+3*y.2.1/\y.2.2.2.2.1.length=y.2.1/\wOK y.2.2.2.2.1) (λy=>(n-y.2.1).toNat) ⟨rfl,by simp,by simp;omega,rfl,by simp,by simp,rfl,λz i=>(by cases i)⟩ ?_;rintro⟨(j:Int),(k:Int),(e:List Int),(q:Int),(o:List Int),⟨⟩⟩ hI;dsimp only at hI ⊢;obtain⟨rfl,w,v,rfl,k3,r,s,a⟩:=hI;obtain⟨h,t,m,g⟩:=(d e q c ah ah).2;simp (disch:=omega) only [RR,(d e q c ah ah).1,length_append,length_cons,length_nil];exact⟨λf=>⟨ah,⟨ah,ah,h,ah,ah,ah,a.snoc g⟩,ah⟩,λf=>⟨ah,ah,ah,a⟩⟩
end Go.TX.F
namespace Go.TX.F
open Go Go.AE Go.TX List
def ins(c:Int)(a:List Int):List aj->List aj
 | []=>if c%65536=0 then []else [⟨c%65536,a⟩]
 | m::o=>if fC a m.atoms<0 then(if c%65536=0 then m::o else⟨c%65536,a⟩::m::o)
  else if a=m.atoms then(if(c+m.bH)%65536=0 then o else⟨(c+m.bH)%65536,a⟩::o)else m::ins c a o
def aff{a:Int}(b:1<=a/\a<=5){x y:List aj}(c:aQ x)(d:aQ y):aQ (jg a x y).1:=by
 unfold jg;split
 .exact ZM _ _
 .split
  .exact ZM _ _
  .split
   .exact ajb _ _
   .unfold G6
    repeat' split
    all_goals first | exact dA _ | exact cO | assumption
variable{α:Type}{t:List Atom}{a:Atom}
abbrev hX(o : IOp) : Prop := o.kind ≠ 1 /\ o.kind ≠ 2 /\ o.kind ≠ 6
abbrev hY(o : IOp) : Prop := o.kind = 3 \/ o.kind = 5
abbrev mkV(o : IOp) : Prop := (1 <= o.kind /\ o.kind <= 4) \/ o.kind = 6
abbrev evO(o : IOp) : Prop := 4 <= o.kind /\ o.kind <= 7
def Vl(a:List IOp)(x n:Int):Prop:=0<=x/\x<n/\mkV ((a).getD (x).toNat default)
structure nD(ops:List IOp)(len i:Int)(o:IOp):Prop where
 kd:1<=o.kind/\o.kind<=8
 x1:hX o->Vl ops o.x i
 x0:¬hX o->o.x=0
 y1:hY o->Vl ops o.y i
 y0:¬hY o->o.y=0
 k1:o.kind=1->0<=o.k/\o.k<=65535
 k2:o.kind=2\/o.kind=8->0<=o.k/\o.k<=3
 k3:o.kind=3->1<=o.k/\o.k<=5
 k0:4<=o.kind->o.kind<=7->o.k=0
 a1:evO o->0<=o.at_/\o.at_<len
 a0:¬evO o->o.at_=0
structure Bu(b:Blk):Prop where
 f:1<=b.fin/\b.fin<=4
 x1:b.fin≠1->Vl b.ops b.x b.ops.length
 x0:b.fin=1->b.x=0
 y1:3<=b.fin->Vl b.ops b.y b.ops.length
 y0:b.fin<=2->b.y=0
 k1:b.fin≠2->0<=b.k/\b.k<=65535
 k0:b.fin=2->b.k=0
structure bR(b:Blk):Prop where
 ln:1<=b.len/\b.len<=8
 pc:0<=b.pc/\b.pc<=64-b.len
 sz:b.ops.length<=48
 op:∀i:Int,0<=i->i<b.ops.length->nD b.ops b.len i ((b.ops).getD (i).toNat default)
 en:Bu b
structure SS where
 t:List Atom
 regs:List (List aj)
 vals:List (List aj)
 ld:Int
 inn:Int
 evs:List Ev
def xOf(s:SS)(o:IOp):List aj:=if hX o then((s.vals).getD (o.x).toNat default)else []
def yOf(s:SS)(o:IOp):List aj:=if hY o then((s.vals).getD (o.y).toNat default)else []
def aOf(s:SS)(o:IOp):Atom:=if o.kind=4 then⟨2,s.ld,[],[]⟩else⟨3,s.inn,[],[]⟩
noncomputable def nT (s:SS) (o:IOp):List Atom:=if o.kind=3 then(tDo s.t o.k (xOf s o) (yOf s o)).1 else if o.kind=4\/o.kind=6 then(bC s.t (aOf s o)).1 else s.t
noncomputable def nV (s:SS) (o:IOp):List aj:=if o.kind=1 then aW o.k else if o.kind=2 then((s.regs).getD (o.k).toNat default)else if o.kind=3 then(tDo s.t o.k (xOf s o) (yOf s o)).2 else if o.kind=4\/o.kind=6 then gZ (bC s.t (aOf s o)).2 else []
def nR(s:SS)(o:IOp):List (List aj):=if o.kind=8 then s.regs.set o.k.toNat (xOf s o)else s.regs
def nE(s:SS)(o:IOp):List Ev:=if evO o then s.evs++ [⟨o.kind,o.at_,xOf s o,yOf s o,if o.kind=4\/o.kind=5 then s.regs else []⟩]else s.evs
noncomputable def stp (s:SS) (o:IOp):SS:=⟨nT s o,nR s o,s.vals++ [nV s o],if o.kind=4 then s.ld+1 else s.ld,if o.kind=6 then s.inn+1 else s.inn,nE s o⟩
noncomputable def rN (t:List Atom):Nat->List Atom×List (List aj)
 | 0=>(t,[])
 | n+1=>((bC (rN t n).1 ⟨1,n,[],[]⟩).1,(rN t n).2++ [gZ (bC (rN t n).1 ⟨1,n,[],[]⟩).2])
noncomputable def s0 (t:List Atom):SS:=⟨(rN t 4).1,(rN t 4).2,[],0,0,[]⟩
noncomputable def dB (t:List Atom) (b:Blk):SS:=b.ops.foldl stp (s0 t)
def kS(b:Blk)(s:SS):Sym:=⟨s.evs,s.regs,b.fin,if b.fin=1 then []else((s.vals).getD (b.x).toNat default),if 3<=b.fin then((s.vals).getD (b.y).toNat default)else [],b.k⟩
def aa9:Sym:=⟨[],[],0,[],[],0⟩
noncomputable def symEnd (s:Sym) (a:Int):Sym:=
 if bp (aQ s.x/\aQ s.y)=false then aa9
 else if s.fin=2/\(dw s.x).2=true then⟨s.events,s.regs,1,[],[],(dw s.x).1⟩
 else if s.fin≠3/\s.fin≠4 then s
 else if s.x=s.y\/(dw s.x).2=true/\(dw s.y).2=true then
  ⟨s.events,s.regs,1,[],[],if s.x=s.y/\s.fin=3\/((dw s.x).2=true/\(dw s.y).2=true)/\(s.fin=3/\(dw s.x).1=(dw s.y).1\/s.fin=4/\(dw s.x).1< (dw s.y).1)then s.k else a⟩
 else if s.fin=3/\0<iV s.x s.y then⟨s.events,s.regs,s.fin,s.y,s.x,s.k⟩else s
noncomputable def bF (t:List Atom) (b:Blk):List Atom×Sym:=if bp (aI t/\t.length<=100/\bR b)=true then((dB t b).t,symEnd (kS b (dB t b)) (b.pc+b.len))else([],aa9)
def wX(t:List Atom)(a:Atom):t<+:(bC t a).1:=by
 unfold bC;split
 .exact prefix_refl _
 .split
  .exact prefix_refl _
  .exact prefix_append _ _
def tY{a b:List α}(h:a<+:b):a.length<=b.length:=h.length_le
def MR{d:α}{a b:List α}(h:a<+:b){i:Int}(e:i.toNat<a.length):b.getD i.toNat d=a.getD i.toNat d:=by
 obtain⟨c,rfl⟩:=h;rw [getD_lt e,getD_lt (by rw [length_append];omega),getElem_append_left e]
def yG(h:0<=(bC t a).2):(bC t a).2< (bC t a).1.length/\(((bC t a).1).getD ((bC t a).2).toNat default)=a:=by
 have b:=kR t a
 revert h
 unfold bC;split
 .intro h;rcases b with⟨e,_⟩ | ⟨_,c,d,_⟩
  .exact absurd h (by dsimp only;omega)
  .exact⟨c,d.symm⟩
 .split
  .intro h;exact absurd h (by dsimp only;omega)
  .intro _;dsimp only;refine⟨by rw [length_append];simp only [length_cons,length_nil];omega,?_⟩;rw [getD_lt (by rw [length_append];simp only [length_cons,length_nil];omega)];simp
def Xv{u:List Atom}(e:aI u){k:Int}(b:0<=k)(d:k<u.length)(c:((u).getD (k).toNat default)=a):bC u a=(u,k):=by
 have i:uR u a=k:=by
  refine(kR u a).uniq (Or.inr ⟨b,d,c.symm,λj h f=> ?_⟩);have:=(o7.1 e).1 k b d;have g:=this.2 j h f;dsimp only at g ⊢;rw [c]at g;exact g
 unfold bC;rw [i,if_pos b]
def Bv{t u:List Atom}(d:aI u)(h:0<=(bC t a).2)(b:(bC t a).1<+:u):bC u a=(u,(bC t a).2):=by
 obtain⟨e,c⟩:=yG h;have:=tY b;exact Xv d h ah (by rw [MR b ah,c])
def PI{c n:Int}{x y:List aj}(b:bg x n)(a:bg y n):bg (jg c x y).1 n:=by
 unfold jg;split
 .exact G9 b a
 .split
  .refine G9 b ?_;unfold kg;split
   .exact Hg a (wW _ _)
   .exact jQ _
  .split
   .exact Hg b a
   .unfold G6
    repeat' split
    all_goals first | exact b | exact a | exact jQ _ | exact wW _ _
structure anv(t:List Atom)(op:Int)(x y:List aj):Prop where
 tok:aI (tDo t op x y).1
 pre:t<+:(tDo t op x y).1
 len:(tDo t op x y).1.length<=t.length+1
 pok:aQ (tDo t op x y).2
 und:bg (tDo t op x y).2 (tDo t op x y).1.length
 ok:tOk t op x y=true
def ajc{b:Int}{x y:List aj}(h:aI t)(p:t.length<200)(n:1<=b/\b<=5)(m:aQ x)(j:aQ y)(k:bg x t.length)(l:bg y t.length):anv t b x y:=by
 by_cases c:(jg b x y).2=true
 .have e:tDo t b x y=(t,(jg b x y).1):=by unfold tDo;rw [if_pos c]
  refine⟨?_,?_,?_,?_,?_,by unfold tOk;rw [c];rfl⟩<;>rw [e]
  .exact h
  .exact prefix_refl _
  .exact Nat.le_succ _
  .exact aff n m j
  .exact PI k l
 .have key:∀d f,aQ d->aQ f->bg d t.length->bg f t.length->0<=(bC t ⟨4,b,d,f⟩).2/\aI (bC t ⟨4,b,d,f⟩).1/\(bC t ⟨4,b,d,f⟩).1.length<=t.length+1:=λd f r s q o=>by
   have i:=EM (a:=⟨4,b,d,f⟩) h p;have u:=i.2.2.2 (by unfold jG;rw [if_pos rfl];exact⟨n,r,s,q,o⟩);exact⟨u,i.1,i.2.2.1⟩
  by_cases g:b≠2/\0<iV x y
  .obtain⟨k1,k2,k3⟩:=key y x j m l k;have e:tDo t b x y=((bC t ⟨4,b,y,x⟩).1,gZ (bC t ⟨4,b,y,x⟩).2):=by unfold tDo;rw [if_neg c,if_pos g,if_neg ah]
   refine⟨?_,?_,?_,?_,?_,by unfold tOk;rw [if_pos g,decide_eq_false ah,Bool.not_false,Bool.or_true]⟩<;>rw [e]
   .exact k2
   .exact wX _ _
   .exact k3
   .exact pX _
   .exact tV (yG k1).1
  .obtain⟨k1,k2,k3⟩:=key x y m j k l;have e:tDo t b x y=((bC t ⟨4,b,x,y⟩).1,gZ (bC t ⟨4,b,x,y⟩).2):=by unfold tDo;rw [if_neg c,if_neg g,if_neg ah]
   refine⟨?_,?_,?_,?_,?_,by unfold tOk;rw [if_neg g,decide_eq_false ah,Bool.not_false,Bool.or_true]⟩<;>rw [e]
   .exact k2
   .exact wX _ _
   .exact k3
   .exact pX _
   .exact tV (yG k1).1
def afg{t u:List Atom}{a:Int}{x y:List aj}(d:aI u)(h:tOk t a x y=true)(b:(tDo t a x y).1<+:u):tDo u a x y=(u,(tDo t a x y).2):=by
 by_cases c:(jg a x y).2=true
 .unfold tDo;rw [if_pos c,if_pos c]
 .by_cases c2:a≠2/\0<iV x y
  .have k1:0<=(bC t ⟨4,a,y,x⟩).2:=by
    unfold tOk at h;rw [if_pos c2,Bool.or_eq_true,Bool.not_eq_true',decide_eq_false_iff_not]at h;have:=h.resolve_left c;omega
   have e:tDo t a x y=((bC t ⟨4,a,y,x⟩).1,gZ (bC t ⟨4,a,y,x⟩).2):=by unfold tDo;rw [if_neg c,if_pos c2,if_neg ah]
   rw [e]at b ⊢;have:=Bv d k1 b;unfold tDo;rw [if_neg c,if_pos c2,this,if_neg (by dsimp only;omega)]
  .have k1:0<=(bC t ⟨4,a,x,y⟩).2:=by
    unfold tOk at h;rw [if_neg c2,Bool.or_eq_true,Bool.not_eq_true',decide_eq_false_iff_not]at h;have:=h.resolve_left c;omega
   have e:tDo t a x y=((bC t ⟨4,a,x,y⟩).1,gZ (bC t ⟨4,a,x,y⟩).2):=by unfold tDo;rw [if_neg c,if_neg c2,if_neg ah]
   rw [e]at b ⊢;have:=Bv d k1 b;unfold tDo;rw [if_neg c,if_neg c2,this,if_neg (by dsimp only;omega)]
end Go.TX.F
namespace Go.TX.F
open Go Go.AE Go.TX List
variable{n:Int}{i:Nat}{s:SS}{t:List Atom}{b:Blk}{u:List Atom}
structure SI(n:Int)(i:Nat)(s:SS):Prop where
 tok:aI s.t
 tl:(s.t.length:Int)<=n+i
 r4:s.regs.length=4
 rok:∀p∈s.regs,aQ p/\bg p s.t.length
 vl:s.vals.length=i
 vok:∀p∈s.vals,aQ p/\bg p s.t.length
 ld:0<=s.ld/\s.ld<=i
 inn:0<=s.inn/\s.inn<=i
def Db{l:List (List aj)}(h:∀p∈l,aQ p/\bg p n)(i:Int):aQ ((l).getD (i).toNat default)/\bg ((l).getD (i).toNat default) n:=by
 by_cases c:i.toNat<l.length
 .rw [getD_lt c];exact h _ (getElem_mem _)
 .rw [getD_eq_getElem?_getD,getElem?_eq_none ah];exact⟨cO,jQ _⟩
def SI.x(h:SI n i s)(o:IOp):aQ (xOf s o)/\bg (xOf s o) s.t.length:=by
 unfold xOf;split
 .exact Db h.vok _
 .exact⟨cO,jQ _⟩
def SI.y(h:SI n i s)(o:IOp):aQ (yOf s o)/\bg (yOf s o) s.t.length:=by
 unfold yOf;split
 .exact Db h.vok _
 .exact⟨cO,jQ _⟩
def ajd(h:SI n i s)(a:i<200)(o:IOp)(m:Int):jG (aOf s o) m:=by
 have c:=h.ld;have b:=h.inn;unfold aOf;split
 .unfold jG;rw [if_neg (by simp)];exact⟨⟨rfl,rfl⟩,Or.inr ⟨Or.inl rfl,by dsimp only;omega,by dsimp only;omega⟩⟩
 .unfold jG;rw [if_neg (by simp)];exact⟨⟨rfl,rfl⟩,Or.inr ⟨Or.inr rfl,by dsimp only;omega,by dsimp only;omega⟩⟩
structure SOK(s:SS)(o:IOp):Prop where
 pre:s.t<+:(stp s o).t
 d:o.kind=3->anv s.t o.k (xOf s o) (yOf s o)
 p:o.kind=4\/o.kind=6->0<=(bC s.t (aOf s o)).2
def Ho{o:IOp}(h:SI n i s)(hk:o.kind=3->1<=o.k/\o.k<=5)(hn:n+i<200)(j:i<200):SI n (i+1) (stp s o)/\SOK s o:=by
 have m:=h.tl;have g:s.t.length<200:=by omega
 have hd:o.kind=3->anv s.t o.k (xOf s o) (yOf s o):=λe=>ajc h.tok g (hk e) (h.x o).1 (h.y o).1 (h.x o).2 (h.y o).2
 have c:=EM (a:=aOf s o) h.tok g;have b:=c.2.2.2 (ajd h j o _);have T:aI (nT s o)/\(nT s o).length<=s.t.length+1/\s.t<+:nT s o:=by
  unfold nT;split
  .rename_i e;have:=hd e;exact⟨this.tok,this.len,this.pre⟩
  .split
   .exact⟨c.1,c.2.2.1,wX _ _⟩
   .exact⟨h.tok,Nat.le_succ _,prefix_refl _⟩
 have d:∀ {p:List aj},aQ p/\bg p s.t.length->aQ p/\bg p (nT s o).length:=λb=>⟨b.1,yE b.2 (by have:=tY T.2.2;omega)⟩
 have V:aQ (nV s o)/\bg (nV s o) (nT s o).length:=by
  unfold nV;split
  .exact⟨dA _,wW _ _⟩
  .split
   .exact d (Db h.rok _)
   .split
    .rename_i e;have:=hd e;refine⟨this.pok,?_⟩;have f:nT s o=(tDo s.t o.k (xOf s o) (yOf s o)).1:=by unfold nT;rw [if_pos e]
     rw [f];exact this.und
    .split
     .rename_i e1 f;have k:nT s o=(bC s.t (aOf s o)).1:=by unfold nT;rw [if_neg ah,if_pos f]
      rw [k];exact⟨pX _,tV (yG b).1⟩
     .exact⟨cO,jQ _⟩
 have q:=h.ld;have l:=h.inn;refine⟨⟨T.1,?_,?_,?_,?_,?_,?_,?_⟩,⟨T.2.2,hd,λ_=>b⟩⟩
 .have:=T.2.1;show((nT s o).length:Int)<=_;omega
 .show(nR s o).length=4;unfold nR;split
  .rw [length_set];exact h.r4
  .exact h.r4
 .show∀p∈nR s o,_;intro p b;unfold nR at b;split at b
  .rcases mem_or_eq_of_mem_set b with b | rfl
   .exact d (h.rok p b)
   .exact d (h.x o)
  .exact d (h.rok p b)
 .show(s.vals++ [nV s o]).length=i+1;rw [length_append,h.vl];rfl
 .show∀p∈s.vals++ [nV s o],_;intro p b;rw [mem_append,mem_singleton]at b;rcases b with b | rfl
  .exact d (h.vok p b)
  .exact V
 .show 0<=(if o.kind=4 then s.ld+1 else s.ld)/\(if o.kind=4 then s.ld+1 else s.ld)<=_;split<;>omega
 .show 0<=(if o.kind=6 then s.inn+1 else s.inn)/\(if o.kind=6 then s.inn+1 else s.inn)<=_;split<;>omega
def tZ:∀(a:List IOp) (i:Nat) (s:SS),SI n i s->(∀o∈a,o.kind=3->1<=o.k/\o.k<=5)->n+i+a.length<=200->i+a.length<=200->SI n (i+a.length) (a.foldl stp s)/\s.t<+:(a.foldl stp s).t
 | [],i,s,h,_,_,_=>⟨h,prefix_refl _⟩
 | o::r,i,s,h,hk,h1,h2=>by
  rw [length_cons]at h1 h2;obtain⟨b,c⟩:=Ho h (hk o mem_cons_self) ah ah;obtain⟨d,f⟩:=tZ r (i+1) (stp s o) b (λo e=>hk o (mem_cons_of_mem _ e)) ah ah;rw [foldl_cons,length_cons,show i+(r.length+1)=i+1+r.length by omega];exact⟨d,c.pre.trans f⟩
structure RI(t:List Atom)(n:Nat)(r:List Atom×List (List aj)):Prop where
 tok:aI r.1
 tl:r.1.length<=t.length+n
 pre:t<+:r.1
 r4:r.2.length=n
 rok:∀p∈r.2,aQ p/\bg p r.1.length
def Bw(h:aI t)(f:t.length<=196):∀n:Nat,n<=4->RI t n (rN t n)
 | 0,_=>⟨h,Nat.le_refl _,prefix_refl _,rfl,λp c=>absurd c (by simp [rN])⟩
 | n+1,hn=>by
  have b:=Bw h f n ah;have l:=b.tl;have c:=EM (a:=⟨1,n,[],[]⟩) b.tok ah;have e:=c.2.2.2 (by unfold jG;rw [if_neg (by simp)];exact⟨⟨rfl,rfl⟩,Or.inl ⟨rfl,by dsimp only;omega,by dsimp only;omega⟩⟩);have d:=wX (rN t n).1 ⟨1,n,[],[]⟩;unfold rN;refine⟨c.1,?_,b.pre.trans d,?_,λp h=> ?_⟩
  .have:=c.2.2.1;dsimp only;omega
  .dsimp only;rw [length_append,b.r4];rfl
  .dsimp only at h ⊢;rw [mem_append,mem_singleton]at h;rcases h with h | rfl
   .have:=b.rok p h;exact⟨this.1,yE this.2 (by have:=tY d;omega)⟩
   .exact⟨pX _,tV (yG e).1⟩
def MU(h:aI t)(c:t.length<=196){n:Nat}(hn:n<4):0<=(bC (rN t n).1 ⟨1,n,[],[]⟩).2:=by
 have b:=Bw h c n ah;have l:=b.tl;exact(EM (a:=⟨1,n,[],[]⟩) b.tok ah).2.2.2 (by unfold jG;rw [if_neg (by simp)];exact⟨⟨rfl,rfl⟩,Or.inl ⟨rfl,by dsimp only;omega,by dsimp only;omega⟩⟩)
def zn(h:aI t)(a:t.length<=196):SI (t.length+4) 0 (s0 t):=by
 have:=Bw h a 4 ah;have l:=this.tl;exact⟨this.tok,by show((rN t 4).1.length:Int)<=_;omega,this.r4,this.rok,rfl,λp b=>absurd b (by simp [s0]),by simp [s0],by simp [s0]⟩
def bR.k3(h:bR b):∀o∈b.ops,o.kind=3->1<=o.k/\o.k<=5:=λo c=>by
 obtain⟨i,a,rfl⟩:=getElem_of_mem c;have:=(h.op i ah ah).k3;rw [show(i:Int).toNat=i from rfl,getD_lt a]at this;exact this
def MV(h:aI t)(f:t.length<=100)(a:bR b):SI (t.length+4) b.ops.length (dB t b)/\t<+:(dB t b).t:=by
 have e:=a.sz;obtain⟨c,d⟩:=tZ b.ops 0 (s0 t) (zn h ah) a.k3 ah ah;rw [Nat.zero_add]at c;exact⟨c,(Bw h ah 4 ah).pre.trans d⟩
def SS.on(s:SS)(u:List Atom):SS:=⟨u,s.regs,s.vals,s.ld,s.inn,s.evs⟩
theorem anw{o:IOp}(b:aI u)(h:SOK s o)(a:(stp s o).t<+:u):stp (s.on u) o=(stp s o).on u:=by
 have a:nT s o<+:u:=a;have g:xOf (s.on u) o=xOf s o:=rfl;have d:yOf (s.on u) o=yOf s o:=rfl;have f:aOf (s.on u) o=aOf s o:=rfl;have eT:nT (s.on u) o=u:=by
  unfold nT;split
  .rename_i e;rw [g,d];have c:=(h.d e).ok;unfold nT at a;rw [if_pos e]at a;rw [show(s.on u).t=u from rfl,afg b c a]
  .split
   .rename_i e1 e2;unfold nT at a;rw [if_neg e1,if_pos e2]at a;rw [f,show(s.on u).t=u from rfl,Bv b (h.p e2) a]
   .rfl
 have i:nV (s.on u) o=nV s o:=by
  unfold nV;split
  .rfl
  .split
   .rfl
   .split
    .rename_i e;rw [g,d];have c:=(h.d e).ok;unfold nT at a;rw [if_pos e]at a;rw [show(s.on u).t=u from rfl,afg b c a]
    .split
     .rename_i e1 e2;unfold nT at a;rw [if_neg e1,if_pos e2]at a;rw [f,show(s.on u).t=u from rfl,Bv b (h.p e2) a]
     .rfl
 show SS.mk (nT (s.on u) o) (nR (s.on u) o) ((s.on u).vals++ [nV (s.on u) o]) _ _ (nE (s.on u) o)=SS.mk u (nR s o) (s.vals++ [nV s o]) _ _ (nE s o);rw [eT,i];rfl
def afh(c:aI u):∀(a:List IOp) (i:Nat) (s:SS),SI n i s->(∀o∈a,o.kind=3->1<=o.k/\o.k<=5)->n+i+a.length<=200->i+a.length<=200->(a.foldl stp s).t<+:u->a.foldl stp (s.on u)=(a.foldl stp s).on u
 | [],i,s,h,_,_,_,_=>rfl
 | o::r,i,s,h,hk,h1,h2,hp=>by
  rw [length_cons]at h1 h2;obtain⟨d,e⟩:=Ho h (hk o mem_cons_self) ah ah;rw [foldl_cons]at hp;obtain⟨_,f⟩:=tZ r (i+1) (stp s o) d (λo b=>hk o (mem_cons_of_mem _ b)) ah ah;rw [foldl_cons,foldl_cons,anw c e (f.trans hp)];exact afh c r (i+1) (stp s o) d (λo b=>hk o (mem_cons_of_mem _ b)) ah ah hp
def akl{t u:List Atom}(h:aI t)(c:t.length<=196)(b:aI u):∀n:Nat,n<=4->(rN t n).1<+:u->rN u n=(u,(rN t n).2)
 | 0,_,_=>rfl
 | n+1,hn,hp=>by
  have e:=MU h c (n:=n) ah;have d:=wX (rN t n).1 ⟨1,n,[],[]⟩;have a:(bC (rN t n).1 ⟨1,n,[],[]⟩).1<+:u:=hp;have f:=akl h c b n ah (d.trans a);show((bC (rN u n).1 ⟨1,n,[],[]⟩).1,(rN u n).2++ [gZ (bC (rN u n).1 ⟨1,n,[],[]⟩).2])=(u,(rN t n).2++ [gZ (bC (rN t n).1 ⟨1,n,[],[]⟩).2]);rw [f];dsimp only;rw [Bv b e a]
def aje{t u:List Atom}(h:aI t)(j:t.length<=100)(a:bR b)(d:aI u)(c:(dB t b).t<+:u):dB u b=(dB t b).on u:=by
 have i:=a.sz;have f:=zn h ah;obtain⟨_,g⟩:=tZ b.ops 0 (s0 t) f a.k3 ah ah;have e:s0 u=(s0 t).on u:=by
  unfold s0 SS.on;rw [akl h ah d 4 ah (g.trans c)]
 unfold dB at c ⊢;rw [e];exact afh d b.ops 0 (s0 t) f a.k3 ah ah c
def kU(h:aI t)(c:t.length<=100)(a:bR b):bF t b=((dB t b).t,symEnd (kS b (dB t b)) (b.pc+b.len)):=by
 unfold bF;rw [if_pos (aL ⟨h,c,a⟩)]
def abb{t u:List Atom}(h:aI t)(e:t.length<=100)(c:bR b)(d:aI u)(a:u.length<=100)(f:(bF t b).1<+:u):bF u b=(u,(bF t b).2):=by
 rw [kU h e c]at f ⊢;rw [kU d a c,aje h e c d f];rfl
def K4(h:aI t)(d:t.length<=100)(a:bR b):aI (bF t b).1/\t<+:(bF t b).1/\(bF t b).1.length<=t.length+b.ops.length+4:=by
 unfold bF;rw [if_pos (aL ⟨h,d,a⟩)];obtain⟨c,e⟩:=MV h d a;have:=c.tl;exact⟨c.tok,e,by dsimp only;omega⟩
end Go.TX.F
namespace Go.TX.F
open Go Go.AE Go.TX List
variable{n:Int}{i:Nat}{s:SS}{b:Blk}
def ShP(l:List (List aj)):Prop:=l.length<1000000000/\∀p∈l,Sh p
def ShE(e:Ev):Prop:=Sh e.x/\Sh e.y/\ShP e.regs
def afi(l:List Ev):Prop:=l.length<1000000000/\∀e∈l,ShE e
structure ShY(s:Sym):Prop where
 e:afi s.events
 r:ShP s.regs
 x:Sh s.x
 y:Sh s.y
def ShP.at{l:List (List aj)}(h:ShP l)(n:Nat):Sh (l.getD n default):=by
 by_cases c:n<l.length
 .rw [getD_lt c];exact h.2 _ (getElem_mem _)
 .rw [getD_eq_getElem?_getD,getElem?_eq_none ah];exact pW
def MW:ShP []:=⟨by simp,λp h=>absurd h (by simp)⟩
def afi.at{l:List Ev}(h:afi l)(n:Nat):ShE (l.getD n default):=by
 by_cases c:n<l.length
 .rw [getD_lt c];exact h.2 _ (getElem_mem _)
 .rw [getD_eq_getElem?_getD,getElem?_eq_none ah];exact⟨pW,pW,MW⟩
def ajf:ShY aa9:=⟨⟨by simp [aa9],λe h=>absurd h (by simp [aa9])⟩,MW,pW,pW⟩
def SI.regs(h:SI n i s):ShP s.regs:=⟨by have:=h.r4;omega,λp a=>(h.rok p a).1.sh⟩
def ajg{o:IOp}(h:SI n i s)(a:s.evs.length<=i/\∀e∈s.evs,ShE e):(stp s o).evs.length<=i+1/\∀e∈(stp s o).evs,ShE e:=by
 show(nE s o).length<=i+1/\∀e∈nE s o,ShE e;unfold nE;split
 .refine⟨by rw [length_append];have:=a.1;simp only [length_cons,length_nil];omega,λe b=> ?_⟩;rw [mem_append,mem_singleton]at b;rcases b with b | rfl
  .exact a.2 e b
  .refine⟨(h.x o).1.sh,(h.y o).1.sh,?_⟩;dsimp only;split
   .exact h.regs
   .exact MW
 .exact⟨by have:=a.1;omega,a.2⟩
def MX:∀(a:List IOp) (i:Nat) (s:SS),SI n i s->(∀o∈a,o.kind=3->1<=o.k/\o.k<=5)->n+i+a.length<=200->i+a.length<=200->(s.evs.length<=i/\∀e∈s.evs,ShE e)->(a.foldl stp s).evs.length<=i+a.length/\∀e∈(a.foldl stp s).evs,ShE e
 | [],i,s,h,_,_,_,h3=>h3
 | o::r,i,s,h,hk,h1,h2,h3=>by
  rw [length_cons]at h1 h2;obtain⟨b,d⟩:=Ho h (hk o mem_cons_self) ah ah;have:=MX r (i+1) (stp s o) b (λo c=>hk o (mem_cons_of_mem _ c)) ah ah (ajg h h3);rw [foldl_cons,length_cons,show i+(r.length+1)=i+1+r.length by omega];exact this
def evT(e:Ev):Int×Int×Nat:=(e.kind,e.at_,e.regs.length)
def opT(o:IOp):Int×Int×Nat:=(o.kind,o.at_,if o.kind=4\/o.kind=5 then 4 else 0)
def ZP(a:List IOp):List IOp:=a.filter λo=>decide (evO o)
def ZQ:∀(a:List IOp) (s:SS),s.regs.length=4->(a.foldl stp s).evs.map evT=s.evs.map evT++(ZP a).map opT
 | [],s,_=>by simp [ZP]
 | o::r,s,h=>by
  have b:(stp s o).regs.length=4:=by
   show(nR s o).length=4;unfold nR;split
   .rw [length_set];exact h
   .exact h
  rw [foldl_cons,ZQ r (stp s o) b];show(nE s o).map evT++_=_;unfold nE ZP;by_cases c:evO o
  .have e:evT ⟨o.kind,o.at_,xOf s o,yOf s o,if o.kind=4\/o.kind=5 then s.regs else []⟩=opT o:=by
    unfold evT opT;dsimp only;split
    .rw [h]
    .rfl
   rw [if_pos c,filter_cons_of_pos (by simpa using c),map_append,append_assoc];refine congrArg (s.evs.map evT++ ·) ?_;show evT _::_=opT o::_;rw [e];rfl
  .rw [if_neg c,filter_cons_of_neg (by simpa using c)]
def EO(h:SI n i s):aQ (kS b s).x/\aQ (kS b s).y:=by
 unfold kS;dsimp only;constructor
 .split
  .exact cO
  .exact(Db h.vok _).1
 .split
  .exact(Db h.vok _).1
  .exact cO
def MZ{s:Sym}(h:aQ s.x/\aQ s.y):(symEnd s n).events=s.events/\(symEnd s n).regs=s.regs/\aQ (symEnd s n).x/\aQ (symEnd s n).y:=by
 unfold symEnd;rw [if_neg (by rw [aL h];simp)]
 repeat' split
 all_goals first | exact⟨rfl,rfl,h⟩ | exact⟨rfl,rfl,cO,cO⟩ | exact⟨rfl,rfl,h.2,h.1⟩
structure asx(t:List Atom)(b:Blk):Prop where
 evs:(bF t b).2.events.map evT=(ZP b.ops).map opT
 r4:(bF t b).2.regs.length=4
 sh:ShY (bF t b).2
 ne:0< (bF t b).1.length
theorem PK{t:List Atom}(h:aI t)(i:t.length<=100)(a:bR b):asx t b:=by
 have j:=a.sz;have f:=zn h ah;obtain⟨c,k⟩:=MV h i a;have g:=MX b.ops 0 (s0 t) f a.k3 ah ah ⟨by simp [s0],λe d=>absurd d (by simp [s0])⟩;have d:=ZQ b.ops (s0 t) f.r4;have hk:=MZ (n:=b.pc+b.len) (EO (b:=b) c);have e:bF t b=((dB t b).t,symEnd (kS b (dB t b)) (b.pc+b.len)):=by unfold bF;rw [if_pos (aL ⟨h,i,a⟩)]
 rw [Nat.zero_add]at g;refine⟨?_,?_,?_,?_⟩
 .rw [e];dsimp only;rw [hk.1];show(dB t b).evs.map evT=_;unfold dB;rw [d];rfl
 .rw [e];dsimp only;rw [hk.2.1];exact c.r4
 .rw [e];refine⟨?_,?_,hk.2.2.1.sh,hk.2.2.2.sh⟩
  .rw [hk.1];exact⟨by have:=g.1;show(b.ops.foldl stp (s0 t)).evs.length<_;omega,g.2⟩
  .rw [hk.2.1];exact c.regs
 .rw [e];have r:=tZ b.ops 0 (s0 t) f a.k3 ah ah;have:=tY r.2;have p:=yG (MU h ah (n:=3) ah);have l:=MU h ah (n:=3) ah;show 0< (dB t b).t.length;have:(s0 t).t.length=(bC (rN t 3).1 ⟨1,(3:Nat),[],[]⟩).1.length:=rfl;unfold dB;omega
def Bz(t:List Atom)(b:Blk):ShY (bF t b).2/\ShT (bF t b).1:=by
 by_cases c:aI t/\t.length<=100/\bR b
 .exact⟨(PK c.1 c.2.1 c.2.2).sh,(K4 c.1 c.2.1 c.2.2).1.sh⟩
 .unfold bF;rw [aV c,if_neg (by simp)];exact⟨ajf,ai9⟩
noncomputable def t4:List Atom:=(rN [] 4).1
def yH:aI []:=o7.2 ⟨All.zero,by simp⟩
def ZR:aI t4/\t4.length<=4:=by
 have:=Bw yH (by simp) 4 ah;exact⟨this.tok,Nat.le_trans this.tl (by simp)⟩
noncomputable def chk (b c:Blk):Bool:=bp (bR b/\bR c/\b.pc=c.pc/\b.len=c.len/\(b=c\/(bF t4 b).2=(bF (bF t4 b).1 c).2))
structure Lk(b c:Blk):Prop where
 ob:bR b
 oc:bR c
 pc:b.pc=c.pc
 len:b.len=c.len
 run:∀u,aI u->u.length<=100->(bF u b).1=u->bF u c=bF u b
def Lk.refl(h:bR b):Lk b b:=⟨h,h,rfl,rfl,λ_ _ _ _=>rfl⟩
def Lk.trans{b c d:Blk}(h:Lk b c)(g:Lk c d):Lk b d:=⟨h.ob,g.oc,h.pc.trans g.pc,h.len.trans g.len,λu f a i=>by
 have e:=h.run u f a i;rw [g.run u f a (by rw [e];exact i),e]⟩
def ajh(a:bR b):aI (bF t4 b).1/\(bF t4 b).1.length<=100/\bF (bF t4 b).1 b=bF t4 b:=by
 have d:=ZR;have c:=K4 d.1 ah a;have e:=a.sz;refine⟨c.1,ah,?_⟩;have:=abb d.1 ah a c.1 ah (prefix_refl _);rw [this]
def Lk.chk{b c:Blk}(h:Lk b c):chk b c=true:=by
 obtain⟨e,d,a⟩:=ajh h.ob;refine aL ⟨h.ob,h.oc,h.pc,h.len,Or.inr ?_⟩;rw [h.run _ e d (by rw [a]),a]
end Go.TX.F
namespace Go.TX.F
open Go Go.AE Go.TX List
variable{α:Type}{b:Blk}
def Xw:Blk:=⟨0,0,[],0,0,0,0⟩
def fJ{d x:α}{l:List α}{i:Nat}:(l++ [x]).getD i d=if i<l.length then l.getD i d else if i=l.length then x else d:=by
 split
 .rename_i h;rw [getD_lt (by rw [length_append];omega),getD_lt h,getElem_append_left]
 .split
  .rename_i h1 h2;subst h2;rw [getD_lt (by simp)];simp
  .rw [getD_eq_getElem?_getD,getElem?_eq_none (by rw [length_append];simp only [length_cons,length_nil];omega)];rfl
def nG(f:SS->IOp->SS)(s:SS){l:List IOp}{i:Nat}(h:i<l.length):(l.take (i+1)).foldl f s=f ((l.take i).foldl f s) l[i]:=by
 rw [take_succ_eq_append_getElem h,foldl_append];rfl
def yI:∀(l:List IOp) (s:SS),(l.foldl stp s).vals.length=s.vals.length+l.length
 | [],_=>rfl
 | o::r,s=>by
  rw [foldl_cons,yI r,length_cons];show(s.vals++ [nV s o]).length+_=_;rw [length_append];simp only [length_cons,length_nil];omega
def ren(nm:List Int)(o:IOp):IOp:=⟨o.kind,if hX o then((nm).getD (o.x).toNat default)else o.x,if hY o then((nm).getD (o.y).toNat default)else o.y,o.k,o.at_⟩
def M0(nm:List Int)(b:Blk)(ops:List IOp):Blk:=⟨b.pc,b.len,ops.map (ren nm),b.fin,if b.fin=1 then b.x else((nm).getD (b.x).toNat default),if 3<=b.fin then((nm).getD (b.y).toNat default)else b.y,b.k⟩
def cpN(s:List Int×List Int)(i:Int)(o:IOp):Int:=if o.kind=2/\0<=((s.2).getD (o.k).toNat default)then((s.2).getD (o.k).toNat default)else i
def cpL(s:List Int×List Int)(i:Int)(o:IOp):List Int:=if o.kind=2 then(if 0<=((s.2).getD (o.k).toNat default)then s.2 else s.2.set o.k.toNat i)else if o.kind=8 then s.2.set o.k.toNat ((s.1).getD (o.x).toNat default)else s.2
def cpS(ops:List IOp):Nat->List Int×List Int
 | 0=>([],[-1, -1, -1, -1])
 | i+1=>((cpS ops i).1++ [cpN (cpS ops i) i (ops.getD i default)],cpL (cpS ops i) i (ops.getD i default))
noncomputable def bO (b:Blk):Blk:=if bp (bR b)=true then M0 (cpS b.ops b.ops.length).1 b b.ops else Xw
def uf(ops:List IOp):∀i,(cpS ops i).1.length=i/\(cpS ops i).2.length=4
 | 0=>⟨rfl,rfl⟩
 | i+1=>by
  obtain⟨b,a⟩:=uf ops i;constructor
  .show((cpS ops i).1++ [_]).length=_;rw [length_append,b];rfl
  .show(cpL (cpS ops i) i (ops.getD i default)).length=4;unfold cpL
   repeat' split
   all_goals first | exact a | (rw [length_set];exact a)
def Xx(a:List IOp):∀ {i n:Nat} {j:Nat},j<i->i<=n->(cpS a n).1.getD j default=(cpS a i).1.getD j default:=by
  intro i n j e d
  induction n with
  | zero => have : i = 0 := by omega
            subst this;rfl
  | succ n b=>
    by_cases c:i=n+1
    · subst c;rfl
    · have:=b ah;rw [<-this];show((cpS a n).1++ [_]).getD j default=_;rw [fJ,if_pos (by rw [(uf a n).1];omega)]
structure CI(ops:List IOp)(i:Nat)(s:SS):Prop where
 nm:∀j:Int,0<=j->j<i->(0<=(((cpS ops i).1).getD (j).toNat default)/\(((cpS ops i).1).getD (j).toNat default)<=j)/\((s.vals).getD ((((cpS ops i).1).getD (j).toNat default)).toNat default)=((s.vals).getD (j).toNat default)/\(mkV ((ops).getD (j).toNat default)->mkV ((ops).getD ((((cpS ops i).1).getD (j).toNat default)).toNat default))
 la:∀r:Int,0<=r->r<=3->0<=(((cpS ops i).2).getD (r).toNat default)->(((cpS ops i).2).getD (r).toNat default)<i/\((s.vals).getD ((((cpS ops i).2).getD (r).toNat default)).toNat default)=((s.regs).getD (r).toNat default)/\mkV ((ops).getD ((((cpS ops i).2).getD (r).toNat default)).toNat default)
def ug{d x:α}{l:List α}{i j:Int}(a:0<=i)(f:0<=j)(b:j<l.length):(l.set j.toNat x).getD i.toNat d=if i=j then x else l.getD i.toNat d:=by
 by_cases c:i<l.length
 .rw [getD_lt (by rw [length_set];omega),getD_lt ah,getElem_set];by_cases e:i=j
  .subst e;rw [if_pos rfl,if_pos rfl]
  .rw [if_neg ah,if_neg e]
 .rw [if_neg ah];simp only [getD_eq_getElem?_getD];rw [getElem?_eq_none (by rw [length_set];omega),getElem?_eq_none ah]
def Hq(H:bR b)(t:List Atom)(L:(s0 t).regs.length=4):∀i:Nat,i<=b.ops.length->
  ((b.ops.map (ren (cpS b.ops b.ops.length).1)).take i).foldl stp (s0 t)=(b.ops.take i).foldl stp (s0 t)/\((b.ops.take i).foldl stp (s0 t)).regs.length=4/\CI b.ops i ((b.ops.take i).foldl stp (s0 t))
 | 0,_=>⟨rfl,L,⟨λj f m=>absurd m ah,λr f m d=>by
   exfalso;have:(((cpS b.ops 0).2).getD (r).toNat default)= -1:=by
    show((([-1, -1, -1, -1]:List Int)).getD (r).toNat default)= -1;rcases(by omega:r=0\/r=1\/r=2\/r=3)with h | h | h | h<;>subst h<;>rfl
   omega⟩⟩
 | i+1,hi=>by
  obtain⟨B,x,k⟩:=Hq H t L i ah;have p:i<b.ops.length:=hi;have a:=H.op i ah ah;rw [show(i:Int).toNat=i from rfl,getD_lt p]at a;have C:b.ops.getD i default=b.ops[i]:=getD_lt p;have M:=yI (b.ops.take i) (s0 t);rw [length_take,Nat.min_eq_left ah,show(s0 t).vals.length=0 from rfl,Nat.zero_add]at M;obtain⟨N,P⟩:=uf b.ops i;rw [nG _ _ (by rw [length_map];exact p),nG _ _ p,B,getElem_map]
  clear B
  generalize (b.ops.take i).foldl stp (s0 t)=s at x k M ⊢;generalize X:b.ops[i]=o at a C ⊢;have D:∀j:Int,0<=j->j<i->(((cpS b.ops b.ops.length).1).getD (j).toNat default)=(((cpS b.ops i).1).getD (j).toNat default):=λj f m=>Xx b.ops ah ah
  have vx:∀j:Int,0<=j->j<i->((s.vals).getD ((((cpS b.ops b.ops.length).1).getD (j).toNat default)).toNat default)=((s.vals).getD (j).toNat default):=λj f m=>by rw [D j f m];exact(k.nm j f m).2.1
  have S:xOf s (ren (cpS b.ops b.ops.length).1 o)=xOf s o:=by
   unfold xOf;by_cases c:hX o
   .rw [if_pos (show hX (ren _ o)from c),if_pos c];show((s.vals).getD ((if hX o then(((cpS b.ops b.ops.length).1).getD (o.x).toNat default)else o.x)).toNat default)=_;rw [if_pos c];exact vx _ (a.x1 c).1 (a.x1 c).2.1
   .rw [if_neg (show¬hX (ren _ o)from c),if_neg c]
  have O:yOf s (ren (cpS b.ops b.ops.length).1 o)=yOf s o:=by
   unfold yOf;by_cases c:hY o
   .rw [if_pos (show hY (ren _ o)from c),if_pos c];show((s.vals).getD ((if hY o then(((cpS b.ops b.ops.length).1).getD (o.y).toNat default)else o.y)).toNat default)=_;rw [if_pos c];exact vx _ (a.y1 c).1 (a.y1 c).2.1
   .rw [if_neg (show¬hY (ren _ o)from c),if_neg c]
  have R:stp s (ren (cpS b.ops b.ops.length).1 o)=stp s o:=by
   unfold stp nT nV nR nE aOf;rw [S,O];rfl
  have T:(stp s o).regs.length=4:=by
   show(nR s o).length=4;unfold nR;split
   .rw [length_set];exact x
   .exact x
  refine⟨R,T,?_⟩;have A:∀j:Int,0<=j->j<i->(((stp s o).vals).getD (j).toNat default)=((s.vals).getD (j).toNat default):=λj f m=>by
   show(((s.vals++ [nV s o])).getD (j).toNat default)=_;rw [fJ,if_pos ah]
  have J:(((stp s o).vals).getD ((i:Int)).toNat default)=nV s o:=by
   show(((s.vals++ [nV s o])).getD ((i:Int)).toNat default)=_;rw [fJ,if_neg ah,if_pos ah]
  have U:∀j:Int,0<=j->j<i->(((cpS b.ops (i+1)).1).getD (j).toNat default)=(((cpS b.ops i).1).getD (j).toNat default):=λj f m=>Xx b.ops ah ah
  have Q:(((cpS b.ops (i+1)).1).getD ((i:Int)).toNat default)=cpN (cpS b.ops i) i o:=by
   show((((cpS b.ops i).1++ [cpN (cpS b.ops i) i (b.ops.getD i default)])).getD ((i:Int)).toNat default)=_;rw [fJ,if_neg ah,if_pos ah,C]
  have V:(cpS b.ops (i+1)).2=cpL (cpS b.ops i) i o:=by
   show cpL (cpS b.ops i) i (b.ops.getD i default)=_;rw [C]
  have E:((b.ops).getD ((i:Int)).toNat default)=o:=by rw [show(i:Int).toNat=i from rfl,C]
  refine⟨λj f m=> ?_,λr f m d=> ?_⟩
  .by_cases c:j<i
   .obtain⟨⟨w,z⟩,y,F⟩:=k.nm j f c;rw [U j f c];exact⟨⟨w,z⟩,by rw [A _ w ah,A j f c];exact y,F⟩
   .have:j=(i:Int):=by omega
    subst this;rw [Q];unfold cpN;by_cases l:o.kind=2/\0<=(((cpS b.ops i).2).getD (o.k).toNat default)
    .rw [if_pos l];have hk:=a.k2 (Or.inl l.1);obtain⟨w,z,y⟩:=k.la o.k hk.1 hk.2 l.2;refine⟨⟨l.2,ah⟩,?_,λ_=>y⟩;rw [A _ l.2 w,J,z];unfold nV;rw [if_neg ah,if_pos l.1]
    .rw [if_neg l];exact⟨⟨ah,Int.le_refl _⟩,rfl,λh=>h⟩
  .rw [V]at d ⊢;unfold cpL at d ⊢;have n:0<=(((cpS b.ops i).2).getD (r).toNat default)->(o.kind=8->r≠o.k)->(((cpS b.ops i).2).getD (r).toNat default)< ((i+1:Nat):Int)/\(((stp s o).vals).getD ((((cpS b.ops i).2).getD (r).toNat default)).toNat default)=(((stp s o).regs).getD (r).toNat default)/\mkV ((b.ops).getD ((((cpS b.ops i).2).getD (r).toNat default)).toNat default):=λI g=>by
    obtain⟨w,z,y⟩:=k.la r f m I;refine⟨ah,?_,y⟩;rw [A _ I w,z];show _=(((nR s o)).getD (r).toNat default);unfold nR;split
    .rename_i u;have hk:=a.k2 (Or.inr u);rw [ug f hk.1 ah,if_neg (g u)]
    .rfl
   by_cases l:o.kind=2
   .have hk:=a.k2 (Or.inl l);rw [if_pos l]at d ⊢;by_cases G:0<=(((cpS b.ops i).2).getD (o.k).toNat default)
    .rw [if_pos G]at d ⊢;exact n d (λe=>absurd e ah)
    .rw [if_neg G]at d ⊢;rw [ug f hk.1 ah]at d ⊢;by_cases q:r=o.k
     .rw [if_pos q]at d ⊢;refine⟨ah,?_,by rw [E];exact Or.inl ah⟩;rw [J];show nV s o=(((nR s o)).getD (r).toNat default);unfold nV nR;rw [if_neg ah,if_pos l,if_neg ah,q]
     .rw [if_neg q]at d ⊢;exact n d (λe=>absurd e ah)
   .rw [if_neg l]at d ⊢;by_cases u:o.kind=8
    .have hk:=a.k2 (Or.inr u);have K:hX o:=by unfold hX;omega
     have v:=a.x1 K;obtain⟨⟨w,z⟩,y,F⟩:=k.nm o.x v.1 v.2.1;rw [if_pos u]at d ⊢;rw [ug f hk.1 ah]at d ⊢;by_cases q:r=o.k
     .rw [if_pos q]at d ⊢;have W:=v.2.1;refine⟨ah,?_,F v.2.2⟩;rw [A _ w ah,y];show _=(((nR s o)).getD (r).toNat default);unfold nR;rw [if_pos u,ug f hk.1 ah,if_pos q];unfold xOf;rw [if_pos K]
     .rw [if_neg q]at d ⊢;exact n d (λ_=>q)
    .rw [if_neg u]at d ⊢;exact n d (λe=>absurd e u)
def afj{nm:List Int}{b:Blk}{a:List IOp}(i:Int):((((a.map (ren nm))).getD (i).toNat default)).kind=(((a).getD (i).toNat default)).kind:=by
 by_cases c:i.toNat<a.length
 .rw [getD_lt (by rw [length_map];exact c),getD_lt c,getElem_map];rfl
 .simp only [getD_eq_getElem?_getD];rw [getElem?_eq_none (by rw [length_map];omega),getElem?_eq_none ah]
def DZ(c:bR b):Lk b (bO b)/\(bO b).ops.length=b.ops.length/\∀u,aI u->u.length<=100->bF u (bO b)=bF u b:=by
 have e:bO b=M0 (cpS b.ops b.ops.length).1 b b.ops:=by unfold bO;rw [if_pos (aL c)]
 have w:=zn yH (by simp);obtain⟨_,_,ci⟩:=Hq c [] w.r4 b.ops.length (Nat.le_refl _);have v:∀i:Int,((((b.ops.map (ren (cpS b.ops b.ops.length).1))).getD (i).toNat default)).kind=(((b.ops).getD (i).toNat default)).kind:=λi=>afj (b:=b) i
 have j:∀ {x n:Int},Vl b.ops x n->n<=b.ops.length->Vl (b.ops.map (ren (cpS b.ops b.ops.length).1)) (((cpS b.ops b.ops.length).1).getD (x).toNat default) n:=λ{x n} ⟨f,d,q⟩ hn=>by
  obtain⟨⟨z,A⟩,_,y⟩:=ci.nm x f ah;have:=y q;exact⟨z,ah,by unfold mkV at this ⊢;rw [v];exact this⟩
 have ok:bR (bO b):=by
  rw [e];refine⟨c.ln,c.pc,by show(b.ops.map _).length<=48;rw [length_map];exact c.sz,λi f d=> ?_,?_⟩
  .have d:i< (b.ops.map (ren (cpS b.ops b.ops.length).1)).length:=d;rw [length_map]at d;have a:=c.op i f d;show nD (b.ops.map _) b.len i (((b.ops.map (ren (cpS b.ops b.ops.length).1))).getD (i).toNat default);rw [getD_lt (show i.toNat< (b.ops.map (ren (cpS b.ops b.ops.length).1)).length by rw [length_map];omega),getElem_map];rw [getD_lt (show i.toNat<b.ops.length by omega)]at a;generalize b.ops[i.toNat]=o at a;refine⟨a.kd,λh=> ?_,λh=> ?_,λh=> ?_,λh=> ?_,a.k1,a.k2,a.k3,a.k0,a.a1,a.a0⟩
   .have h:hX o:=h;show Vl _ (if hX o then _ else _) i;rw [if_pos h];exact j (a.x1 h) ah
   .have h:¬hX o:=h;show(if hX o then _ else _)=_;rw [if_neg h];exact a.x0 h
   .have h:hY o:=h;show Vl _ (if hY o then _ else _) i;rw [if_pos h];exact j (a.y1 h) ah
   .have h:¬hY o:=h;show(if hY o then _ else _)=_;rw [if_neg h];exact a.y0 h
  .have he:=c.en;refine⟨he.f,λh=> ?_,λh=> ?_,λh=> ?_,λh=> ?_,he.k1,he.k0⟩
   .have h:b.fin≠1:=h;show Vl (b.ops.map _) (if b.fin=1 then _ else _) ((b.ops.map _).length:Nat);rw [if_neg h,length_map];exact j (he.x1 h) (Int.le_refl _)
   .have h:b.fin=1:=h;show(if b.fin=1 then _ else _)=_;rw [if_pos h];exact he.x0 h
   .have h:3<=b.fin:=h;show Vl (b.ops.map _) (if 3<=b.fin then _ else _) ((b.ops.map _).length:Nat);rw [if_pos h,length_map];exact j (he.y1 h) (Int.le_refl _)
   .have h:b.fin<=2:=h;show(if 3<=b.fin then _ else _)=_;rw [if_neg ah];exact he.y0 h
 suffices R:∀u,aI u->u.length<=100->bF u (bO b)=bF u b from⟨⟨c,ok,by rw [e];rfl,by rw [e];rfl,λu f d _=>R u f d⟩,by rw [e];exact length_map _,R⟩
 intro u f d;have t:=zn f ah;obtain⟨l,_,k⟩:=Hq c u t.r4 b.ops.length (Nat.le_refl _);rw [take_of_length_le (by rw [length_map];omega),take_of_length_le ah]at l;rw [take_of_length_le ah]at k;have r:dB u (bO b)=dB u b:=by rw [e];exact l
 unfold bF;rw [if_pos (aL ⟨f,d,ok⟩),if_pos (aL ⟨f,d,c⟩),r];have m:kS (bO b) (dB u b)=kS b (dB u b):=by
  rw [e];unfold kS M0;dsimp only;have g:=c.en;have p:b.fin≠1->(((dB u b).vals).getD ((((cpS b.ops b.ops.length).1).getD (b.x).toNat default)).toNat default)=(((dB u b).vals).getD (b.x).toNat default):=λh=>(k.nm b.x (g.x1 h).1 (g.x1 h).2.1).2.1
  have s:3<=b.fin->(((dB u b).vals).getD ((((cpS b.ops b.ops.length).1).getD (b.y).toNat default)).toNat default)=(((dB u b).vals).getD (b.y).toNat default):=λh=>(k.nm b.y (g.y1 h).1 (g.y1 h).2.1).2.1
  congr 1
  .split
   .rfl
   .rename_i h;exact p h
  .split
   .rename_i h;exact s h
   .rfl
 rw [m];rw [show(bO b).pc=b.pc by rw [e];rfl,show(bO b).len=b.len by rw [e];rfl]
def Xy(a:bR b):Lk b (bO b)/\(bO b).ops.length=b.ops.length:=⟨(DZ a).1,(DZ a).2.1⟩
end Go.TX.F
namespace Go.TX.F
open Go Go.AE Go.TX List
variable{b:Blk}{d:List Bool}{m:List Bool}
def fcO(f:List IOp)(o:IOp):IOp:=if o.kind=3/\(((f).getD (o.x).toNat default)).kind=1/\(((f).getD (o.y).toNat default)).kind=1 then⟨1,0,0,wdo o.k (((f).getD (o.x).toNat default)).k (((f).getD (o.y).toNat default)).k,0⟩else o
def fc(a:List IOp):Nat->List IOp
 | 0=> []
 | i+1=>fc a i++ [fcO (fc a i) (a.getD i default)]
def fcB(b:Blk)(f:List IOp):Blk:=
 if b.fin=2/\(((f).getD (b.x).toNat default)).kind=1 then⟨b.pc,b.len,f,1,0,b.y,(((f).getD (b.x).toNat default)).k⟩
 else if 3<=b.fin/\(((f).getD (b.x).toNat default)).kind=1/\(((f).getD (b.y).toNat default)).kind=1 then⟨b.pc,b.len,f,1,0,0,if b.fin=3/\(((f).getD (b.x).toNat default)).k=(((f).getD (b.y).toNat default)).k\/b.fin=4/\(((f).getD (b.x).toNat default)).k< (((f).getD (b.y).toNat default)).k then b.k else b.pc+b.len⟩
 else⟨b.pc,b.len,f,b.fin,b.x,b.y,b.k⟩
noncomputable def dJ (b:Blk):Blk:=if bp (bR b)=true then fcB b (fc b.ops b.ops.length)else Xw
def mg(a:List IOp):∀i,(fc a i).length=i
 | 0=>rfl
 | i+1=>by show(fc a i++ [_]).length=_;rw [length_append,mg a i];rfl
def akm(a:List IOp){i n j:Nat}(e:j<i)(d:i<=n):(fc a n).getD j default=(fc a i).getD j default:=by
  induction n with
  | zero => have : i = 0 := by omega
            subst this;rfl
  | succ n b=>
    by_cases c:i=n+1
    · subst c;rfl
    · have:=b ah;rw [<-this];show(fc a n++ [_]).getD j default=_;rw [fJ,if_pos (by rw [mg];omega)]
def Xz(a:List IOp){i n:Nat}(h:i<n):(fc a n).getD i default=fcO (fc a i) (a.getD i default):=by
 rw [akm a (show i<i+1 by omega) (show i+1<=n by omega)];show(fc a i++ [_]).getD i default=_;rw [fJ,if_neg (by rw [mg];omega),if_pos (by rw [mg])]
structure FI(ops:List IOp)(i:Nat)(s:SS):Prop where
 c:∀j:Int,0<=j->j<i->((((fc ops i)).getD (j).toNat default)).kind=1->(0<=((((fc ops i)).getD (j).toNat default)).k/\((((fc ops i)).getD (j).toNat default)).k<=65535)/\((s.vals).getD (j).toNat default)=aW ((((fc ops i)).getD (j).toNat default)).k
 m:∀j:Int,0<=j->j<i->mkV ((ops).getD (j).toNat default)->mkV (((fc ops i)).getD (j).toNat default)
def abd(t:List Atom){c a b:Int}(d:1<=c/\c<=5)(f:0<=a/\a<=65535)(e:0<=b/\b<=65535):tDo t c (aW a) (aW b)=(t,aW (wdo c a b)):=by
 unfold tDo;rw [Xu d f e,if_pos rfl]
def yJ(x:bR b)(t:List Atom):∀i:Nat,i<=b.ops.length->
  ((fc b.ops b.ops.length).take i).foldl stp (s0 t)=(b.ops.take i).foldl stp (s0 t)/\FI b.ops i ((b.ops.take i).foldl stp (s0 t))
 | 0,_=>⟨rfl,⟨λj f k=>absurd k ah,λj f k=>absurd k ah⟩⟩
 | i+1,hi=>by
  obtain⟨l,e⟩:=yJ x t i ah;have d:i<b.ops.length:=hi;have a:=x.op i ah ah;rw [show(i:Int).toNat=i from rfl,getD_lt d]at a;have m:b.ops.getD i default=b.ops[i]:=getD_lt d;have C:=yI (b.ops.take i) (s0 t);rw [length_take,Nat.min_eq_left ah,show(s0 t).vals.length=0 from rfl,Nat.zero_add]at C;have Q:=mg b.ops i;have y:(fc b.ops b.ops.length)[i]'(by rw [mg];exact d)=fcO (fc b.ops i) b.ops[i]:=by
   rw [<-m,<-Xz b.ops d,getD_lt]
  rw [nG _ _ (by rw [mg];exact d),nG _ _ d,l,y]
  clear l
  generalize (b.ops.take i).foldl stp (s0 t)=s at e C ⊢;generalize R:b.ops[i]=o at a m y ⊢;have q:o.kind=3/\((((fc b.ops i)).getD (o.x).toNat default)).kind=1/\((((fc b.ops i)).getD (o.y).toNat default)).kind=1->xOf s o=aW ((((fc b.ops i)).getD (o.x).toNat default)).k/\yOf s o=aW ((((fc b.ops i)).getD (o.y).toNat default)).k/\(0<=((((fc b.ops i)).getD (o.x).toNat default)).k/\((((fc b.ops i)).getD (o.x).toNat default)).k<=65535)/\(0<=((((fc b.ops i)).getD (o.y).toNat default)).k/\((((fc b.ops i)).getD (o.y).toNat default)).k<=65535):=λ⟨J,L,I⟩=>by
   have B:hX o:=by unfold hX;omega
   have u:hY o:=Or.inl J;have w:=a.x1 B;have r:=a.y1 u;have F:=e.c o.x w.1 w.2.1 L;have z:=e.c o.y r.1 r.2.1 I;refine⟨?_,?_,F.1,z.1⟩
   .unfold xOf;rw [if_pos B];exact F.2
   .unfold yOf;rw [if_pos u];exact z.2
  have n:stp s (fcO (fc b.ops i) o)=stp s o/\((fcO (fc b.ops i) o).kind=1->(0<=(fcO (fc b.ops i) o).k/\(fcO (fc b.ops i) o).k<=65535)/\nV s o=aW (fcO (fc b.ops i) o).k)/\(mkV o->mkV (fcO (fc b.ops i) o)):=by
   unfold fcO;by_cases c:o.kind=3/\((((fc b.ops i)).getD (o.x).toNat default)).kind=1/\((((fc b.ops i)).getD (o.y).toNat default)).kind=1
   .rw [if_pos c];obtain⟨E,D,k3,P⟩:=q c;have hd:=abd s.t (a.k3 c.1) k3 P;have M:nT s o=s.t:=by unfold nT;rw [if_pos c.1,E,D,hd]
    have G:nV s o=aW (wdo o.k ((((fc b.ops i)).getD (o.x).toNat default)).k ((((fc b.ops i)).getD (o.y).toNat default)).k):=by unfold nV;rw [if_neg ah,if_neg ah,if_pos c.1,E,D,hd]
    refine⟨?_,λ_=>⟨EJ _ _ _,G⟩,λ_=>Or.inl ⟨by dsimp only;omega,by dsimp only;omega⟩⟩;have N:nR s o=s.regs:=by unfold nR;rw [if_neg ah]
    have K:nE s o=s.evs:=by unfold nE;rw [if_neg ah]
    show SS.mk (nT s ⟨1,0,0,_,0⟩) (nR s ⟨1,0,0,_,0⟩) (s.vals++ [nV s ⟨1,0,0,_,0⟩]) (if(1:Int)=4 then _ else _) (if(1:Int)=6 then _ else _) (nE s ⟨1,0,0,_,0⟩)=SS.mk (nT s o) (nR s o) (s.vals++ [nV s o]) (if o.kind=4 then _ else _) (if o.kind=6 then _ else _) (nE s o);rw [M,G,N,K,if_neg (show¬o.kind=4 by omega),if_neg (show¬o.kind=6 by omega)];rfl
   .rw [if_neg c];refine⟨rfl,λh=>⟨a.k1 h,by unfold nV;rw [if_pos h]⟩,λh=>h⟩
  refine⟨n.1,?_⟩;have H:∀j:Int,0<=j->j<i->(((stp s o).vals).getD (j).toNat default)=((s.vals).getD (j).toNat default):=λj f k=>by
   show(((s.vals++ [nV s o])).getD (j).toNat default)=_;rw [fJ,if_pos ah]
  have O:(((stp s o).vals).getD ((i:Int)).toNat default)=nV s o:=by
   show(((s.vals++ [nV s o])).getD ((i:Int)).toNat default)=_;rw [fJ,if_neg ah,if_pos ah]
  have A:∀j:Int,0<=j->j<i->(((fc b.ops (i+1))).getD (j).toNat default)=(((fc b.ops i)).getD (j).toNat default):=λj f k=>akm b.ops ah ah
  have v:(((fc b.ops (i+1))).getD ((i:Int)).toNat default)=fcO (fc b.ops i) o:=by
   rw [show((i:Int)).toNat=i from rfl,Xz b.ops (show i<i+1 by omega),m]
  have p:((b.ops).getD ((i:Int)).toNat default)=o:=by rw [show(i:Int).toNat=i from rfl,m]
  refine⟨λj f k g=> ?_,λj f k g=> ?_⟩
  .by_cases c:j<i
   .rw [A j f c]at g ⊢;rw [H j f c];exact e.c j f c g
   .have:j=(i:Int):=by omega
    subst this;rw [v]at g ⊢;rw [O];exact n.2.1 g
  .by_cases c:j<i
   .rw [A j f c];exact e.m j f c g
   .have:j=(i:Int):=by omega
    subst this;rw [p]at g;rw [v];exact n.2.2 g
def XA{a b:Int}(d:0<=a/\a<=65535)(c:0<=b/\b<=65535)(h:aW a=aW b):a=b:=by
 have:=iK d;rw [h,iK c]at this;exact(congrArg Prod.fst this).symm
def asy(b:Blk)(f:List IOp):(fcB b f).pc=b.pc/\(fcB b f).len=b.len/\(fcB b f).ops=f:=by
 unfold fcB;split
 .exact⟨rfl,rfl,rfl⟩
 .split<;>exact⟨rfl,rfl,rfl⟩
def PL(f:bR b):Lk b (dJ b)/\(dJ b).ops.length=b.ops.length:=by
 have e:dJ b=fcB b (fc b.ops b.ops.length):=by unfold dJ;rw [if_pos (aL f)]
 obtain⟨z,m,t⟩:=asy b (fc b.ops b.ops.length);have l:=mg b.ops b.ops.length;obtain⟨_,M⟩:=yJ f [] b.ops.length (Nat.le_refl _);have y:∀ {x n:Int},Vl b.ops x n->n<=b.ops.length->Vl (fc b.ops b.ops.length) x n:=λ{x n} ⟨H,J,O⟩ hn=>⟨H,J,M.m x H ah O⟩
 have a:=f.en;have H:=f.ln;have J:=f.pc;have ok:bR (dJ b):=by
  rw [e];refine⟨by rw [m];exact f.ln,by rw [z,m];exact f.pc,by rw [t,l];exact f.sz,λi G B=> ?_,?_⟩
  .rw [t]at B ⊢;rw [l]at B;rw [m];have j:=f.op i G B;rw [Xz b.ops (show i.toNat<b.ops.length by omega)];generalize b.ops.getD i.toNat default=o at j;unfold fcO;split
   .refine⟨by dsimp only;omega,λh=>absurd h (by unfold hX;simp),λ_=>rfl,λh=>absurd h (by unfold hY;simp),λ_=>rfl,λ_=>EJ _ _ _,λh=>absurd h (by simp),λh=>absurd h (by simp),λh=>absurd h (by simp),λh=>absurd h (by unfold evO;simp),λ_=>rfl⟩
   .exact⟨j.kd,λh=>y (j.x1 h) ah,j.x0,λh=>y (j.y1 h) ah,j.y0,j.k1,j.k2,j.k3,j.k0,j.a1,j.a0⟩
  .unfold fcB;split
   .rename_i c;have v:=a.x1 ah;have g:=M.c b.x v.1 v.2.1 c.2;exact⟨by dsimp only;omega,λh=>absurd rfl h,λ_=>rfl,λh=>absurd h (by dsimp only;omega),λ_=>a.y0 ah,λ_=>g.1,λh=>absurd h (by simp)⟩
   .split
    .rename_i c;refine⟨by dsimp only;omega,λh=>absurd rfl h,λ_=>rfl,λh=>absurd h (by dsimp only;omega),λ_=>rfl,λ_=> ?_,λh=>absurd h (by simp)⟩;dsimp only;split
     .exact a.k1 ah
     .omega
    .exact⟨a.f,λh=>by dsimp only at h ⊢;rw [l];exact y (a.x1 h) (Int.le_refl _),a.x0,λh=>by dsimp only at h ⊢;rw [l];exact y (a.y1 h) (Int.le_refl _),a.y0,a.k1,a.k0⟩
 refine⟨⟨f,ok,by rw [e,z],by rw [e,m],λu E A T=> ?_⟩,by rw [e,t,l]⟩;obtain⟨K,k⟩:=yJ f u b.ops.length (Nat.le_refl _);rw [take_of_length_le ah,take_of_length_le ah]at K;rw [take_of_length_le ah]at k;have P:dB u (dJ b)=dB u b:=by unfold dB;rw [e,t];exact K
 unfold bF;rw [if_pos (aL ⟨E,A,ok⟩),if_pos (aL ⟨E,A,f⟩),P];rw [e,z,m];have G:=(MV E A f).1;have C:=EO (b:=b) G
 congr 1
 have k:FI b.ops b.ops.length (dB u b):=k;generalize dB u b=s at k C;unfold fcB;split
 .rename_i c;have v:=a.x1 ah;obtain⟨p,F⟩:=k.c b.x v.1 v.2.1 c.2;have r:(kS b s).x=aW ((((fc b.ops b.ops.length)).getD (b.x).toNat default)).k:=by unfold kS;dsimp only;rw [if_neg ah];exact F
  have I:(kS b s).y=[]:=by unfold kS;dsimp only;rw [if_neg ah]
  have D:symEnd (kS b s) (b.pc+b.len)=⟨s.evs,s.regs,1,[],[],((((fc b.ops b.ops.length)).getD (b.x).toNat default)).k⟩:=by
   unfold symEnd;rw [if_neg (by rw [aL C];simp),if_pos ⟨c.1,by rw [r,iK p]⟩,r,iK p];rfl
  rw [D];unfold symEnd kS;dsimp only;rw [if_neg (by rw [aL ⟨by rw [if_pos rfl];exact cO,by rw [if_neg ah];exact cO⟩];simp),if_neg ah,if_pos ah];rw [if_pos rfl,if_neg ah]
 .split
  .rename_i _ c;have v:=a.x1 ah;have w:=a.y1 c.1;obtain⟨p,F⟩:=k.c b.x v.1 v.2.1 c.2.1;obtain⟨L,R⟩:=k.c b.y w.1 w.2.1 c.2.2;have r:(kS b s).x=aW ((((fc b.ops b.ops.length)).getD (b.x).toNat default)).k:=by unfold kS;dsimp only;rw [if_neg ah];exact F
   have I:(kS b s).y=aW ((((fc b.ops b.ops.length)).getD (b.y).toNat default)).k:=by unfold kS;dsimp only;rw [if_pos c.1];exact R
   have S:=a.f;have D:symEnd (kS b s) (b.pc+b.len)=⟨s.evs,s.regs,1,[],[],if b.fin=3/\((((fc b.ops b.ops.length)).getD (b.x).toNat default)).k=((((fc b.ops b.ops.length)).getD (b.y).toNat default)).k\/b.fin=4/\((((fc b.ops b.ops.length)).getD (b.x).toNat default)).k< ((((fc b.ops b.ops.length)).getD (b.y).toNat default)).k then b.k else b.pc+b.len⟩:=by
    unfold symEnd;rw [if_neg (by rw [aL C];simp),if_neg (by show¬(b.fin=2/\_);omega),if_neg (by show¬(b.fin≠3/\b.fin≠4);omega)];rw [r,I,iK p,iK L,if_pos (Or.inr ⟨rfl,rfl⟩)];show Sym.mk s.evs s.regs 1 [] [] _=_
    congr 1
    show(if(_/\b.fin=3\/(true=true/\true=true)/\(b.fin=3/\_\/b.fin=4/\_))then b.k else _)=_;by_cases d:b.fin=3/\((((fc b.ops b.ops.length)).getD (b.x).toNat default)).k=((((fc b.ops b.ops.length)).getD (b.y).toNat default)).k\/b.fin=4/\((((fc b.ops b.ops.length)).getD (b.x).toNat default)).k< ((((fc b.ops b.ops.length)).getD (b.y).toNat default)).k
    .rw [if_pos d];exact if_pos (Or.inr ⟨⟨rfl,rfl⟩,d⟩)
    .rw [if_neg d];refine if_neg ?_;rintro(⟨Q,N⟩ | ⟨_,q⟩)
     .exact d (Or.inl ⟨N,XA p L Q⟩)
     .exact d q
   rw [D];unfold symEnd kS;dsimp only;rw [if_neg (by rw [aL ⟨by rw [if_pos rfl];exact cO,by rw [if_neg ah];exact cO⟩];simp),if_neg ah,if_pos ah];rw [if_pos rfl,if_neg ah]
  .rfl
def kpS(a:List IOp)(b:List Bool):Nat->List Int×List IOp
 | 0=>([],[])
 | i+1=>((kpS a b i).1++ [((kpS a b i).2.length:Int)],if b.getD i default=true then(kpS a b i).2++ [a.getD i default]else(kpS a b i).2)
def jH(b:Blk)(a:List Bool):Blk:=M0 (kpS b.ops a b.ops.length).1 b (kpS b.ops a b.ops.length).2
def jI:List IOp->Int->Bool
 | [],_=>false
 | o::l,r=>if o.kind=4\/o.kind=5\/o.kind=2/\o.k=r then false else if o.kind=8/\o.k=r then true else jI l r
def nM(a:List IOp)(b:List Bool):∀i,(kpS a b i).1.length=i/\(kpS a b i).2.length<=i
 | 0=>⟨rfl,Nat.le_refl _⟩
 | i+1=>by
  obtain⟨c,d⟩:=nM a b i;unfold kpS;refine⟨by rw [length_append,c];rfl,?_⟩;dsimp only;split
  .rw [length_append];simp only [length_cons,length_nil];omega
  .omega
def M4(a:List IOp)(b:List Bool){i n:Nat}(h:i<=n):(kpS a b i).2<+:(kpS a b n).2/\(kpS a b i).1<+:(kpS a b n).1:=by
 induction n with
 | zero=>rw [show i=0 by omega];exact⟨prefix_refl _,prefix_refl _⟩
 | succ n d=>
  by_cases c:i=n+1
  .subst c;exact⟨prefix_refl _,prefix_refl _⟩
  .obtain⟨h1,h2⟩:=d ah;refine⟨h1.trans ?_,h2.trans (prefix_append _ _)⟩;show _<+:if b.getD n default=true then _ else _
   split
   .exact prefix_append _ _
   .exact prefix_refl _
def XB(a:List IOp)(b:List Bool){j n:Nat}(h:j<n):(kpS a b n).1.getD j default=((kpS a b j).2.length:Int):=by
 have:=MR (d:=default) (M4 a b (show j+1<=n by omega)).2 (i:=j) (by have:=(nM a b (j+1)).1;omega);rw [show((j:Int)).toNat=j from rfl]at this;rw [this];show((kpS a b j).1++ [_]).getD j default=_;rw [fJ,(nM a b j).1,if_neg ah,if_pos rfl]
def Hr(a:List IOp)(b:List Bool){j n:Nat}(h:j<n)(k:b.getD j default=true):(kpS a b j).2.length< (kpS a b n).2.length/\(kpS a b n).2.getD (kpS a b j).2.length default=a.getD j default:=by
 have e:(kpS a b (j+1)).2=(kpS a b j).2++ [a.getD j default]:=by show(if b.getD j default=true then _ else _)=_;rw [if_pos k]
 have p:=(M4 a b (show j+1<=n by omega)).1;have l:=tY p;rw [e,length_append]at l;simp only [length_cons,length_nil]at l;refine⟨ah,?_⟩;have:=MR (d:=default) p (i:=(kpS a b j).2.length) (by rw [e,length_append];simp);rw [show((((kpS a b j).2.length:Nat):Int)).toNat=(kpS a b j).2.length from rfl]at this;rw [this,e,fJ,if_neg ah,if_pos rfl]
def XC(a:List IOp)(b:List Bool):∀ {n m:Nat},m< (kpS a b n).2.length->∃j,j<n/\b.getD j default=true/\(kpS a b j).2.length=m
 | 0,m,h=>absurd h (by simp [kpS])
 | n+1,m,h=>by
  have h:m< (if b.getD n default=true then(kpS a b n).2++ [a.getD n default]else(kpS a b n).2).length:=h;by_cases c:m< (kpS a b n).2.length
  .obtain⟨j,h1,h2,h3⟩:=XC a b c;exact⟨j,ah,h2,h3⟩
  .split at h
   .rename_i k;rw [length_append]at h;simp only [length_cons,length_nil]at h;exact⟨n,ah,k,ah⟩
   .omega
structure KP(b:Blk)(kp:List Bool):Prop where
 x:∀i:Int,0<=i->i<b.ops.length->((kp).getD (i).toNat default)=true->hX ((b.ops).getD (i).toNat default)->((kp).getD ((((b.ops).getD (i).toNat default)).x).toNat default)=true
 y:∀i:Int,0<=i->i<b.ops.length->((kp).getD (i).toNat default)=true->hY ((b.ops).getD (i).toNat default)->((kp).getD ((((b.ops).getD (i).toNat default)).y).toNat default)=true
 ex:b.fin≠1->((kp).getD (b.x).toNat default)=true
 ey:3<=b.fin->((kp).getD (b.y).toNat default)=true
 no:∀i:Int,0<=i->i<b.ops.length->((kp).getD (i).toNat default)=false->(((b.ops).getD (i).toNat default)).kind<=3\/(((b.ops).getD (i).toNat default)).kind=8/\jI (b.ops.drop (i.toNat+1)) (((b.ops).getD (i).toNat default)).k=true
structure KI(b:Blk)(kp:List Bool)(i:Nat)(s s':SS):Prop where
 t:s'.t=s.t
 ld:s'.ld=s.ld
 inn:s'.inn=s.inn
 evs:s'.evs=s.evs
 vl:s'.vals.length=(kpS b.ops kp i).2.length
 v:∀j:Nat,j<i->kp.getD j default=true->s'.vals.getD (kpS b.ops kp j).2.length default=s.vals.getD j default
 r4:s'.regs.length=4/\s.regs.length=4
 rg:∀r:Int,0<=r->r<=3->jI (b.ops.drop i) r=false->((s'.regs).getD (r).toNat default)=((s.regs).getD (r).toNat default)
def asz{a b:List (List aj)}(h:a.length=4/\b.length=4)(g:∀r:Int,0<=r->r<=3->((a).getD (r).toNat default)=((b).getD (r).toNat default)):a=b:=by
 refine oL (d:=default) ah λj c e=> ?_
 exact g j c ah
def XD{z:SS}{o:IOp}(h:z.regs.length=4):(nR z o).length=4:=by
 unfold nR;split
 .rw [length_set];exact h
 .exact h
def PN(O:bR b)(H:KP b d)(u:List Atom)(D:∀i,i<=b.ops.length->((b.ops.take i).foldl stp (s0 u)).t=u)(K:(s0 u).regs.length=4):∀i:Nat,i<=b.ops.length->
  KI b d i ((b.ops.take i).foldl stp (s0 u)) (((kpS b.ops d i).2.map (ren (kpS b.ops d b.ops.length).1)).foldl stp (s0 u))
 | 0,_=>⟨rfl,rfl,rfl,rfl,rfl,λj h=>absurd h ah,⟨K,K⟩,λ_ _ _ _=>rfl⟩
 | i+1,hi=>by
  have f:=PN O H u D K i ah;have v:i<b.ops.length:=hi;have l:=O.op i ah ah;have P:=D i ah;have G:=D (i+1) hi;have N:b.ops.getD i default=b.ops[i]:=getD_lt v;have L:=yI (b.ops.take i) (s0 u);rw [length_take,Nat.min_eq_left ah,show(s0 u).vals.length=0 from rfl,Nat.zero_add]at L;have R:=H.x i ah ah;have M:=H.y i ah ah;have hn:=H.no i ah ah;rw [nG _ _ v]at G ⊢;rw [show(i:Int).toNat=i from rfl,N]at l R M hn;have V:b.ops.drop i=b.ops[i]::b.ops.drop (i+1):=drop_eq_getElem_cons v;have w:∀r,jI (b.ops.drop i) r=if b.ops[i].kind=4\/b.ops[i].kind=5\/b.ops[i].kind=2/\b.ops[i].k=r then false else if b.ops[i].kind=8/\b.ops[i].k=r then true else jI (b.ops.drop (i+1)) r:=λr=>by rw [V];rfl
  have J:(kpS b.ops d (i+1)).2=if d.getD i default=true then(kpS b.ops d i).2++ [b.ops[i]]else(kpS b.ops d i).2:=by rw [<-N];rfl
  rw [J];generalize (b.ops.take i).foldl stp (s0 u)=s at f P G L ⊢;generalize b.ops[i]=o at*;have I:(o.kind=8->d.getD i default=false)->∀r:Int,0<=r->r<=3->jI (b.ops.drop (i+1)) r=false->∀a:SS,KI b d i s a->((a.regs).getD (r).toNat default)=(((nR s o)).getD (r).toNat default):=λF r m n p a k=>by
   unfold nR;by_cases c:o.kind=8
   .rw [if_pos c];have hk:=l.k2 (Or.inr c);have:=hn (F c);have S:=(this.resolve_left ah).2;rw [ug m hk.1 (by have:=k.r4.2;omega)];by_cases g:r=o.k
    .rw [<-g,p]at S;cases S
    .rw [if_neg g];refine k.rg r m n ?_;rw [w,if_neg ah,if_neg ah];exact p
   .rw [if_neg c];refine k.rg r m n ?_;rw [w];split
    .rfl
    .rw [if_neg ah];exact p
  by_cases t:d.getD i default=true
  .rw [if_pos t,map_append,foldl_append];generalize ((kpS b.ops d i).2.map (ren (kpS b.ops d b.ops.length).1)).foldl stp (s0 u)=a at f ⊢;show KI b d (i+1) (stp s o) (stp a (ren _ o));have vx:∀x:Int,Vl b.ops x i->((d).getD (x).toNat default)=true->((a.vals).getD ((((kpS b.ops d b.ops.length).1).getD (x).toNat default)).toNat default)=((s.vals).getD (x).toNat default):=λx C q=>by
    have W:=C.1;have Y:=C.2.1;rw [XB b.ops d (show x.toNat<b.ops.length by omega),show((((kpS b.ops d x.toNat).2.length:Nat):Int)).toNat=(kpS b.ops d x.toNat).2.length from rfl];exact f.v x.toNat ah q
   have z:((d).getD ((i:Int)).toNat default)=true:=t;have B:xOf a (ren (kpS b.ops d b.ops.length).1 o)=xOf s o:=by
    unfold xOf;by_cases c:hX o
    .rw [if_pos (show hX (ren _ o)from c),if_pos c];show((a.vals).getD ((if hX o then(((kpS b.ops d b.ops.length).1).getD (o.x).toNat default)else o.x)).toNat default)=_;rw [if_pos c];exact vx _ (l.x1 c) (R z c)
    .rw [if_neg (show¬hX (ren _ o)from c),if_neg c]
   have E:yOf a (ren (kpS b.ops d b.ops.length).1 o)=yOf s o:=by
    unfold yOf;by_cases c:hY o
    .rw [if_pos (show hY (ren _ o)from c),if_pos c];show((a.vals).getD ((if hY o then(((kpS b.ops d b.ops.length).1).getD (o.y).toNat default)else o.y)).toNat default)=_;rw [if_pos c];exact vx _ (l.y1 c) (M z c)
    .rw [if_neg (show¬hY (ren _ o)from c),if_neg c]
   have Q:aOf a (ren (kpS b.ops d b.ops.length).1 o)=aOf s o:=by
    unfold aOf;rw [f.ld,f.inn];rfl
   have eT:nT a (ren (kpS b.ops d b.ops.length).1 o)=nT s o:=by
    unfold nT;rw [B,E,Q,f.t];rfl
   have U:nV a (ren (kpS b.ops d b.ops.length).1 o)=nV s o:=by
    unfold nV;rw [B,E,Q,f.t];show(if o.kind=1 then _ else if o.kind=2 then((a.regs).getD (o.k).toNat default)else _)=_;by_cases A:o.kind=1
    .rw [if_pos A,if_pos A];rfl
    .rw [if_neg A,if_neg A];by_cases g:o.kind=2
     .have hk:=l.k2 (Or.inl g);rw [if_pos g,if_pos g];exact f.rg o.k hk.1 hk.2 (by rw [w,if_pos (Or.inr (Or.inr ⟨g,rfl⟩))])
     .rw [if_neg g,if_neg g];rfl
   have T:nE a (ren (kpS b.ops d b.ops.length).1 o)=nE s o:=by
    unfold nE;rw [B,E,f.evs];show(if evO o then _++ [(⟨o.kind,o.at_,_,_,if o.kind=4\/o.kind=5 then a.regs else []⟩:Ev)]else _)=_;by_cases c:o.kind=4\/o.kind=5
    .have e:a.regs=s.regs:=asz f.r4 λr m n=>f.rg r m n (by rw [w,if_pos ah])
     rw [e]
    .rw [if_neg c,if_neg c]
   refine⟨by rw [show(stp a (ren (kpS b.ops d b.ops.length).1 o)).t=_ from eT];rfl,?_,?_,T,?_,λj C q=> ?_,?_,λr m n p=> ?_⟩
   .show(if o.kind=4 then a.ld+1 else a.ld)=if o.kind=4 then s.ld+1 else s.ld
    rw [f.ld]
   .show(if o.kind=6 then a.inn+1 else a.inn)=if o.kind=6 then s.inn+1 else s.inn
    rw [f.inn]
   .show(a.vals++ [_]).length=_;rw [J,if_pos t,length_append,length_append,f.vl];rfl
   .show(a.vals++ [nV a _]).getD _ default=(s.vals++ [nV s o]).getD j default;rw [U,fJ,fJ,f.vl,L];by_cases c:j<i
    .have:=(Hr b.ops d c q).1;rw [if_pos this,if_pos c];exact f.v j c q
    .have e:j=i:=by omega
     subst e;rw [if_neg ah,if_pos rfl,if_neg ah,if_pos rfl]
   .exact⟨XD f.r4.1,XD f.r4.2⟩
   .show(((nR a (ren _ o))).getD (r).toNat default)=(((nR s o)).getD (r).toNat default);unfold nR;rw [B];show(((if o.kind=8 then a.regs.set o.k.toNat (xOf s o)else a.regs)).getD (r).toNat default)=_;by_cases c:o.kind=8
    .have hk:=l.k2 (Or.inr c);rw [if_pos c,if_pos c,ug m hk.1 (by have:=f.r4.1;omega),ug m hk.1 (by have:=f.r4.2;omega)];by_cases g:r=o.k
     .rw [if_pos g,if_pos g]
     .rw [if_neg g,if_neg g];refine f.rg r m n ?_;rw [w,if_neg ah,if_neg ah];exact p
    .rw [if_neg c,if_neg c];refine f.rg r m n ?_;rw [w];split
     .rfl
     .rw [if_neg ah];exact p
  .rw [if_neg t];generalize ((kpS b.ops d i).2.map (ren (kpS b.ops d b.ops.length).1)).foldl stp (s0 u)=a at f ⊢;have y:d.getD i default=false:=by simpa using t
   have X:=hn y;refine⟨by rw [f.t,P,G],?_,?_,?_,?_,λj C q=> ?_,⟨f.r4.1,?_⟩,λr m n p=>I (λ_=>y) r m n p a f⟩
   .show a.ld=if o.kind=4 then s.ld+1 else s.ld
    rw [if_neg ah,f.ld]
   .show a.inn=if o.kind=6 then s.inn+1 else s.inn
    rw [if_neg ah,f.inn]
   .show a.evs=nE s o;unfold nE;rw [if_neg (by unfold evO;omega),f.evs]
   .rw [f.vl,J,if_neg t]
   .show _=(s.vals++ [nV s o]).getD j default;by_cases c:j<i
    .rw [fJ,if_pos ah];exact f.v j c q
    .have e:j=i:=by omega
     subst e;exact absurd q t
   .exact XD f.r4.2
def abe{u:List Atom}(a:bR b)(f:aI u)(h:u.length<=100)(g:(bF u b).1=u):∀i,i<=b.ops.length->((b.ops.take i).foldl stp (s0 u)).t=u:=λi m=>by
 have n:=a.sz;have l:=zn f ah;have hk:=a.k3;have lt:(b.ops.take i).length=i:=by rw [length_take];omega
 obtain⟨j,k⟩:=tZ (b.ops.take i) 0 (s0 u) l (λo c=>hk o (mem_of_mem_take c)) ah ah;obtain⟨_,d⟩:=tZ (b.ops.drop i) _ _ j (λo c=>hk o (mem_of_mem_drop c)) (by rw [length_drop];omega) (by rw [length_drop];omega);rw [<-foldl_append,take_append_drop]at d;have e:(b.ops.foldl stp (s0 u)).t=u:=by rw [kU f h a]at g;exact g
 rw [e]at d;have p:=(Bw f ah 4 ah).pre.trans k;exact(p.eq_of_length (Nat.le_antisymm (tY p) (tY d))).symm
def afk(f:IOp->IOp){l:List IOp}{m:Nat}(h:m<l.length):(l.map f).getD m default=f (l.getD m default):=by
 rw [getD_lt (by rw [length_map];exact h),getD_lt h,getElem_map]
def aji(g:bR b)(H:KP b d):bR (jH b d):=by
 have le:=(nM b.ops d b.ops.length).2;have w:=g.sz;have l:∀ {x:Int} {j:Nat},Vl b.ops x j->j<=b.ops.length->((d).getD (x).toNat default)=true->Vl ((kpS b.ops d b.ops.length).2.map (ren (kpS b.ops d b.ops.length).1)) (((kpS b.ops d b.ops.length).1).getD (x).toNat default) ((kpS b.ops d j).2.length:Int):=λ{x j} h v k=>by
  have y:=h.1;have A:=h.2.1;have a:=Hr b.ops d (show x.toNat<j by omega) k;have r:=Hr b.ops d (show x.toNat<b.ops.length by omega) k;rw [XB b.ops d (show x.toNat<b.ops.length by omega)];refine⟨ah,ah,?_⟩;rw [show((((kpS b.ops d x.toNat).2.length:Nat):Int)).toNat=(kpS b.ops d x.toNat).2.length from rfl,afk _ r.1,r.2];exact h.2.2
 have f:=g.en;refine⟨g.ln,g.pc,?_,λi z p=> ?_,?_⟩
 .show((kpS b.ops d b.ops.length).2.map _).length<=48;rw [length_map];omega
 .show nD ((kpS b.ops d b.ops.length).2.map _) b.len i (((kpS b.ops d b.ops.length).2.map _).getD i.toNat default);have p:i< ((kpS b.ops d b.ops.length).2.map (ren (kpS b.ops d b.ops.length).1)).length:=p;rw [length_map]at p;obtain⟨j,t,m,s⟩:=XC b.ops d (show i.toNat< (kpS b.ops d b.ops.length).2.length by omega);have a:=Hr b.ops d t m;rw [s]at a;rw [afk _ a.1,a.2];have e:=g.op j ah ah;have q:=H.x j ah ah m;have n:=H.y j ah ah m;rw [show(j:Int).toNat=j from rfl]at e q n;generalize b.ops.getD j default=o at e q n;have u:i=((kpS b.ops d j).2.length:Int):=by omega
  rw [u];refine⟨e.kd,λc=> ?_,λc=> ?_,λc=> ?_,λc=> ?_,e.k1,e.k2,e.k3,e.k0,e.a1,e.a0⟩
  .have c:hX o:=c;show Vl _ (if hX o then _ else _) _;rw [if_pos c];exact l (e.x1 c) ah (q c)
  .have c:¬hX o:=c;show(if hX o then _ else _)=_;rw [if_neg c];exact e.x0 c
  .have c:hY o:=c;show Vl _ (if hY o then _ else _) _;rw [if_pos c];exact l (e.y1 c) ah (n c)
  .have c:¬hY o:=c;show(if hY o then _ else _)=_;rw [if_neg c];exact e.y0 c
 .have ln:(((jH b d).ops.length:Nat):Int)=((kpS b.ops d b.ops.length).2.length:Int):=by show(((kpS b.ops d b.ops.length).2.map _).length:Int)=_;rw [length_map]
  refine⟨f.f,λh=> ?_,λh=> ?_,λh=> ?_,λh=> ?_,f.k1,f.k0⟩
  .have h:b.fin≠1:=h;rw [ln];show Vl _ (if b.fin=1 then _ else _) _;rw [if_neg h];exact l (f.x1 h) (Nat.le_refl _) (H.ex h)
  .have h:b.fin=1:=h;show(if b.fin=1 then _ else _)=_;rw [if_pos h];exact f.x0 h
  .have h:3<=b.fin:=h;rw [ln];show Vl _ (if 3<=b.fin then _ else _) _;rw [if_pos h];exact l (f.y1 h) (Nat.le_refl _) (H.ey h)
  .have h:b.fin<=2:=h;show(if 3<=b.fin then _ else _)=_;rw [if_neg ah];exact f.y0 h
def ZT(d:bR b){a:List Bool}(H:KP b a):Lk b (jH b a):=by
 have ok:=aji d H;refine⟨d,ok,rfl,rfl,λu e f l=> ?_⟩;have o:=zn e ah;have K:=PN d H u (abe d e f l) o.r4 b.ops.length (Nat.le_refl _);rw [take_length]at K;have K:KI b a b.ops.length (dB u b) (dB u (jH b a)):=K;rw [kU e f d,kU e f ok];have m:(dB u (jH b a)).regs=(dB u b).regs:=asz K.r4 λr p n=>by have:=K.rg r p n;rw [drop_length]at this;exact this rfl
 have j:kS (jH b a) (dB u (jH b a))=kS b (dB u b):=by
  have i:=d.en;have h:∀x:Int,Vl b.ops x b.ops.length->((a).getD (x).toNat default)=true->(((dB u (jH b a)).vals).getD ((((kpS b.ops a b.ops.length).1).getD (x).toNat default)).toNat default)=(((dB u b).vals).getD (x).toNat default):=λx g k=>by
   have q:=g.1;have s:=g.2.1;rw [XB b.ops a (show x.toNat<b.ops.length by omega),show((((kpS b.ops a x.toNat).2.length:Nat):Int)).toNat=(kpS b.ops a x.toNat).2.length from rfl];exact K.v x.toNat ah k
  unfold kS;show Sym.mk (dB u (jH b a)).evs (dB u (jH b a)).regs b.fin (if b.fin=1 then []else(((dB u (jH b a)).vals).getD ((if b.fin=1 then b.x else(((kpS b.ops a b.ops.length).1).getD (b.x).toNat default))).toNat default)) (if 3<=b.fin then(((dB u (jH b a)).vals).getD ((if 3<=b.fin then(((kpS b.ops a b.ops.length).1).getD (b.y).toNat default)else b.y)).toNat default)else []) b.k=_;rw [K.evs,m]
  congr 1
  .by_cases c:b.fin=1
   .rw [if_pos c,if_pos c]
   .rw [if_neg c,if_neg c,if_neg c];exact h _ (i.x1 c) (H.ex c)
  .by_cases c:3<=b.fin
   .rw [if_pos c,if_pos c,if_pos c];exact h _ (i.y1 c) (H.ey c)
   .rw [if_neg c,if_neg c]
 rw [j,K.t];rfl
def eF(a:List IOp):List Bool:=(range a.length).map λi=> !(decide ((a.getD i default).kind=8)&&jI (a.drop (i+1)) (a.getD i default).k)
noncomputable def jR (b:Blk):Blk:=if bp (bR b)=true then jH b (eF b.ops)else Xw
def yK{a:List IOp}{i:Nat}(h:i<a.length):(eF a).getD i default= !(decide ((a.getD i default).kind=8)&&jI (a.drop (i+1)) (a.getD i default).k):=by
 unfold eF;rw [getD_lt (by rw [length_map,length_range];exact h),getElem_map,getElem_range]
def abf(f:bR b):KP b (eF b.ops):=by
 have v:∀ {x n:Int},Vl b.ops x n->n<=b.ops.length->(((eF b.ops)).getD (x).toNat default)=true:=λ{x n} h hn=>by
  have k:=h.1;have l:=h.2.1;have g:=h.2.2;rw [yK ah,decide_eq_false (show¬(b.ops.getD x.toNat default).kind=8 from λe=>by unfold mkV at g;omega)];rfl
 have j:=f.en;refine⟨λi d a _ c=>v ((f.op i d a).x1 c) ah,λi d a _ c=>v ((f.op i d a).y1 c) ah,λc=>v (j.x1 c) (Int.le_refl _),λc=>v (j.y1 c) (Int.le_refl _),λi d a c=>Or.inr ?_⟩;rw [yK ah,Bool.not_eq_false',Bool.and_eq_true,decide_eq_true_eq]at c;exact c
def XE(a:bR b):Lk b (jR b):=by
 unfold jR;rw [if_pos (aL a)];exact ZT a (abf a)
def us0(b:Blk):List Bool:=(λm:List Bool=>if 3<=b.fin then m.set b.y.toNat true else m) (if b.fin=1 then replicate b.ops.length false else(replicate b.ops.length false).set b.x.toNat true)
def usO(o:IOp)(i:Nat)(m:List Bool):List Bool:=
 if(m.getD i default || decide (4<=o.kind))=true then(λm:List Bool=>if hY o then m.set o.y.toNat true else m) ((λm:List Bool=>if hX o then m.set o.x.toNat true else m) (m.set i true))else m
def us(b:Blk):Nat->List Bool
 | 0=>us0 b
 | k+1=>usO (b.ops.getD (b.ops.length-1-k) default) (b.ops.length-1-k) (us b k)
noncomputable def EP (b:Blk):List Bool:=if bp (bR b)=true then us b b.ops.length else []
noncomputable def iA (b:Blk):Blk:=if bp (bR b)=true then jH b (us b b.ops.length)else Xw
def ajj(o:IOp)(i:Nat)(m:List Bool):(usO o i m).length=m.length:=by
 unfold usO;dsimp only;repeat' split
 all_goals simp only [length_set]
def ajk(b:Blk):(us0 b).length=b.ops.length:=by
 unfold us0;dsimp only;repeat' split
 all_goals simp only [length_set,length_replicate]
def wY(b:Blk):∀k,(us b k).length=b.ops.length
 | 0=>ajk b
 | k+1=>by unfold us;rw [ajj,wY b k]
def yL{i:Nat}{j:Int}(h:j.toNat<m.length):(m.set j.toNat true).getD i default=(m.getD i default || decide (i=j.toNat)):=by
 by_cases c:i=j.toNat
 .subst c;rw [getD_lt (by rw [length_set];exact h),getElem_set_self,decide_eq_true rfl,Bool.or_true]
 .rw [decide_eq_false c,Bool.or_false];simp only [getD,getElem?_set_ne (Ne.symm c)]
def ZU{o:IOp}{i t:Nat}(k:i<m.length)(l:hX o->o.x.toNat<m.length)(n:hY o->o.y.toNat<m.length):(usO o i m).getD t default=true↔m.getD t default=true\/(m.getD i default=true\/4<=o.kind)/\(t=i\/hX o/\t=o.x.toNat\/hY o/\t=o.y.toNat):=by
 unfold usO;dsimp only;by_cases c:(m.getD i default || decide (4<=o.kind))=true
 .rw [if_pos c];rw [Bool.or_eq_true,decide_eq_true_eq]at c;have f:∀t:Nat,(m.set i true).getD t default=true↔m.getD t default=true\/t=i:=λt=>by
   have:=yL (m:=m) (i:=t) (j:=(i:Int)) k;rw [show((i:Int)).toNat=i from rfl]at this;rw [this,Bool.or_eq_true,decide_eq_true_eq]
  have e:∀t:Nat,((if hX o then(m.set i true).set o.x.toNat true else m.set i true).getD t default=true)↔(m.getD t default=true\/t=i)\/hX o/\t=o.x.toNat:=λt=>by
   by_cases d:hX o
   .rw [if_pos d,yL (by rw [length_set];exact l d),Bool.or_eq_true,decide_eq_true_eq,f];exact⟨λh=>h.elim Or.inl (λh=>Or.inr ⟨d,h⟩),λh=>h.elim Or.inl (λh=>Or.inr h.2)⟩
   .rw [if_neg d,f];exact⟨Or.inl,λh=>h.elim id (λh=>absurd h.1 d)⟩
  have g:(if hX o then(m.set i true).set o.x.toNat true else m.set i true).length=m.length:=by split<;>simp only [length_set]
  by_cases d:hY o
  .rw [if_pos d,yL (by rw [g];exact n d),Bool.or_eq_true,decide_eq_true_eq,e];have b:=eq_true c;have a:=eq_true d;generalize hY o=Y at a ⊢;generalize hX o=Z;rw [b,a];grind
  .rw [if_neg d,e];have b:=eq_true c;have a:=eq_false d;generalize hY o=Y at a ⊢;generalize hX o=Z;rw [b,a];grind
 .rw [if_neg c];rw [Bool.or_eq_true,decide_eq_true_eq]at c;simp only [c,false_and,or_false]
def XF{t:Nat}{j:Int}(h:j.toNat<m.length):(m.set j.toNat true).getD t default=true↔m.getD t default=true\/t=j.toNat:=by rw [yL h,Bool.or_eq_true,decide_eq_true_eq]
structure UI(b:Blk)(p:Nat)(m:List Bool):Prop where
 k:∀i:Nat,p<=i->i<b.ops.length->4<=(b.ops.getD i default).kind->m.getD i default=true
 x:∀i:Nat,p<=i->i<b.ops.length->m.getD i default=true->hX (b.ops.getD i default)->((m).getD ((b.ops.getD i default).x).toNat default)=true
 y:∀i:Nat,p<=i->i<b.ops.length->m.getD i default=true->hY (b.ops.getD i default)->((m).getD ((b.ops.getD i default).y).toNat default)=true
 ex:b.fin≠1->((m).getD (b.x).toNat default)=true
 ey:3<=b.fin->((m).getD (b.y).toNat default)=true
 wh:∀t:Nat,t<b.ops.length->m.getD t default=true->4<=(b.ops.getD t default).kind\/b.fin≠1/\t=b.x.toNat\/3<=b.fin/\t=b.y.toNat\/∃j:Nat,p<=j/\j<b.ops.length/\t<j/\m.getD j default=true/\(hX (b.ops.getD j default)/\t=(b.ops.getD j default).x.toNat\/hY (b.ops.getD j default)/\t=(b.ops.getD j default).y.toNat)
def ZV(f:bR b)(t:Nat):(us0 b).getD t default=true↔b.fin≠1/\t=b.x.toNat\/3<=b.fin/\t=b.y.toNat:=by
 have e:=f.en;have g:=e.x1;have i:=e.y1;unfold us0;dsimp only;have r:∀t,(replicate b.ops.length false).getD t default=false:=λt=>by
  by_cases c:t<b.ops.length
  .rw [getD_lt (by rw [length_replicate];exact c),getElem_replicate]
  .rw [getD_eq_getElem?_getD,getElem?_eq_none (by rw [length_replicate];omega)];rfl
 have a:∀t:Nat,((if b.fin=1 then replicate b.ops.length false else(replicate b.ops.length false).set b.x.toNat true).getD t default=true)↔b.fin≠1/\t=b.x.toNat:=λt=>by
  by_cases d:b.fin=1
  .rw [if_pos d,r];simp [d]
  .have:=g d;have k:=this.1;have j:=this.2.1;rw [if_neg d,yL (by rw [length_replicate];omega),r];simp [d]
 have h:(if b.fin=1 then replicate b.ops.length false else(replicate b.ops.length false).set b.x.toNat true).length=b.ops.length:=by split<;>simp only [length_set,length_replicate]
 by_cases d:3<=b.fin
 .have:=i d;have k:=this.1;have j:=this.2.1;rw [if_pos d,yL (by rw [h];omega),Bool.or_eq_true,decide_eq_true_eq,a];simp only [d,true_and]
 .rw [if_neg d,a];simp only [d,false_and,or_false]
def akn(u:bR b):∀k,k<=b.ops.length->UI b (b.ops.length-k) (us b k)
 | 0,_=>by
  have e:=ZV u;exact⟨λi a d=>absurd d ah,λi a d=>absurd d ah,λi a d=>absurd d ah,λc=>(e _).2 (Or.inl ⟨c,rfl⟩),λc=>(e _).2 (Or.inr ⟨c,rfl⟩),λt _ h=>((e t).1 h).elim (λh=>Or.inr (Or.inl h)) (λh=>Or.inr (Or.inr (Or.inl h)))⟩
 | k+1,hk=>by
  have l:=akn u k ah;have D:=wY b k;have s:=u.op ((b.ops.length-1-k:Nat):Int) ah ah;rw [show(((b.ops.length-1-k:Nat):Int)).toNat=b.ops.length-1-k from rfl]at s;generalize C:b.ops.length-1-k=p at s;have F:b.ops.length-k=p+1:=by omega
  rw [F]at l;rw [show b.ops.length- (k+1)=p by omega];have w:p<b.ops.length:=by omega
  show UI b p (usO (b.ops.getD (b.ops.length-1-k) default) (b.ops.length-1-k) (us b k));rw [C];have X:hX (b.ops.getD p default)->(b.ops.getD p default).x.toNat<p:=λc=>by have:=s.x1 c;have B:=this.1;have n:=this.2.1;omega
  have Y:hY (b.ops.getD p default)->(b.ops.getD p default).y.toNat<p:=λc=>by have:=s.y1 c;have B:=this.1;have n:=this.2.1;omega
  generalize us b k=m at l D;have e:∀t:Nat,_↔_:=λt=>ZU (o:=b.ops.getD p default) (i:=p) (t:=t) (m:=m) ah (λc=>by have:=X c;omega) (λc=>by have:=Y c;omega)
  have v:∀t:Nat,p<t->((usO (b.ops.getD p default) p m).getD t default=true↔m.getD t default=true):=λt h=>by
   rw [e];constructor
   .rintro(a | ⟨_,a | ⟨a,d⟩ | ⟨a,d⟩⟩)
    .exact a
    .omega
    .have:=X a;omega
    .have:=Y a;omega
   .exact Or.inl
  have mono:∀t:Nat,m.getD t default=true->(usO (b.ops.getD p default) p m).getD t default=true:=λt h=>(e t).2 (Or.inl h)
  have q:(usO (b.ops.getD p default) p m).getD p default=true↔m.getD p default=true\/4<=(b.ops.getD p default).kind:=by
   rw [e];constructor
   .rintro(a | ⟨a,_⟩)
    .exact Or.inl a
    .exact a
   .intro h;exact Or.inr ⟨h,Or.inl rfl⟩
  refine⟨λi a d f=> ?_,λi a d f r=> ?_,λi a d f r=> ?_,λc=>mono _ (l.ex c),λc=>mono _ (l.ey c),λt a d=> ?_⟩
  .by_cases c:i=p
   .subst c;exact q.2 (Or.inr f)
   .exact mono _ (l.k i ah d f)
  .by_cases c:i=p
   .subst c;exact(e _).2 (Or.inr ⟨q.1 f,Or.inr (Or.inl ⟨r,rfl⟩)⟩)
   .exact mono _ (l.x i ah d ((v i ah).1 f) r)
  .by_cases c:i=p
   .subst c;exact(e _).2 (Or.inr ⟨q.1 f,Or.inr (Or.inr ⟨r,rfl⟩)⟩)
   .exact mono _ (l.y i ah d ((v i ah).1 f) r)
  .have old:m.getD t default=true->_:=λh=>l.wh t a h
   have x:m.getD t default=true->4<=(b.ops.getD t default).kind\/b.fin≠1/\t=b.x.toNat\/3<=b.fin/\t=b.y.toNat\/∃j:Nat,p<=j/\j<b.ops.length/\t<j/\(usO (b.ops.getD p default) p m).getD j default=true/\(hX (b.ops.getD j default)/\t=(b.ops.getD j default).x.toNat\/hY (b.ops.getD j default)/\t=(b.ops.getD j default).y.toNat):=λh=>by
    rcases old h with h | h | h | ⟨j,G,z,A,E,y⟩
    .exact Or.inl h
    .exact Or.inr (Or.inl h)
    .exact Or.inr (Or.inr (Or.inl h))
    .exact Or.inr (Or.inr (Or.inr ⟨j,ah,z,A,mono _ E,y⟩))
   rcases(e t).1 d with h | ⟨h,g⟩
   .exact x h
   .rcases g with g | ⟨n,g2⟩ | ⟨n,g2⟩
    .subst g;rcases h with h | h
     .exact x h
     .exact Or.inl h
    .exact Or.inr (Or.inr (Or.inr ⟨p,Nat.le_refl _,w,by have:=X n;omega,q.2 h,Or.inl ⟨n,g2⟩⟩))
    .exact Or.inr (Or.inr (Or.inr ⟨p,Nat.le_refl _,w,by have:=Y n;omega,q.2 h,Or.inr ⟨n,g2⟩⟩))
def ako(a:bR b):UI b 0 (us b b.ops.length):=by
 have:=akn a b.ops.length (Nat.le_refl _);rw [Nat.sub_self]at this;exact this
def asA(f:bR b):KP b (us b b.ops.length):=by
 have h:=ako f;refine⟨λi e d a c=>h.x i.toNat (Nat.zero_le _) ah a c,λi e d a c=>h.y i.toNat (Nat.zero_le _) ah a c,h.ex,h.ey,λi e d c=>Or.inl ?_⟩;by_cases g:(((b.ops).getD (i).toNat default)).kind<=3
 .exact g
 .have:=h.k i.toNat (Nat.zero_le _) ah ah;rw [c]at this;cases this
def Ht(a:bR b):Lk b (iA b):=by
 unfold iA;rw [if_pos (aL a)];exact ZT a (asA a)
def afl(b:Blk)(a:List Bool):(jH b a).ops.length=(kpS b.ops a b.ops.length).2.length:=length_map _
theorem Hu(o:IOp)(l:List IOp)(r:Int):jI (o::l) r=if o.kind=4\/o.kind=5\/o.kind=2/\o.k=r then false else if o.kind=8/\o.k=r then true else jI l r:=rfl
def PO(a:bR b):jR b=jH b (eF b.ops):=by unfold jR;rw [if_pos (aL a)]
def PU(a:bR b):iA b=jH b (us b b.ops.length):=by unfold iA;rw [if_pos (aL a)]
def PW(b:Blk)(a:List Bool):(jH b a).ops.length<=b.ops.length:=by rw [afl];exact(nM b.ops a b.ops.length).2
def Ah(b:Blk):(jR b).ops.length<=b.ops.length:=by
 unfold jR;split
 .exact PW _ _
 .exact Nat.zero_le _
def uh(b:Blk):(iA b).ops.length<=b.ops.length:=by
 unfold iA;split
 .exact PW _ _
 .exact Nat.zero_le _
def ajl(b:Blk)(f:List IOp):(fcB b f).ops=f:=by
 unfold fcB;split; · rfl
 split<;>rfl
def wZ(b:Blk):(dJ b).ops.length<=b.ops.length:=by
 unfold dJ;split
 .rw [ajl,mg];exact Nat.le_refl _
 .exact Nat.zero_le _
def uj(b:Blk):(bO b).ops.length<=b.ops.length:=by
 unfold bO;split
 .exact Nat.le_of_eq (length_map _)
 .exact Nat.zero_le _
noncomputable def kV (b:Blk):Blk:=iA (jR (iA (dJ (bO b))))
def Dc(b:Blk):(kV b).ops.length<=b.ops.length:=Nat.le_trans (uh _) (Nat.le_trans (Ah _) (Nat.le_trans (uh _) (Nat.le_trans (wZ _) (uj _))))
def K6(f:bR b):Lk b (kV b):=by
 have d:=(Xy f).1;have a:=(PL d.oc).1;have e:=Ht a.oc;have c:=XE e.oc;exact d.trans (a.trans (e.trans (c.trans (Ht c.oc))))
def BA(a:bR b):dJ b=fcB b (fc b.ops b.ops.length):=by unfold dJ;rw [if_pos (aL a)]
def PX(a:bR b):bO b=M0 (cpS b.ops b.ops.length).1 b b.ops:=by unfold bO;rw [if_pos (aL a)]
end Go.TX.F
namespace Go.TX.F
open Go Go.AE Go.TX List
def RB:(∀o:IOp,cu .iop 0 o=o.kind)/\(∀o:IOp,cu .iop 1 o=o.x)/\(∀o:IOp,cu .iop 2 o=o.y)/\(∀o:IOp,cu .iop 3 o=o.k)/\(∀o:IOp,cu .iop 4 o=o.at_)/\
  (∀b:Blk,cu .blk 0 b=b.pc)/\(∀b:Blk,cu .blk 1 b=b.len)/\(∀b:Blk,jy .blk 2 .iop b=b.ops)/\(∀b:Blk,cu .blk 3 b=b.fin)/\(∀b:Blk,cu .blk 4 b=b.x)/\(∀b:Blk,cu .blk 5 b=b.y)/\(∀b:Blk,cu .blk 6 b=b.k)/\
  (∀x,Co.mk .iop x=⟨x.1,x.2.1,x.2.2.1,x.2.2.2.1,x.2.2.2.2.1⟩)/\(∀x,Co.mk .blk x=⟨x.1,x.2.1,x.2.2.1,x.2.2.2.1,x.2.2.2.2.1,x.2.2.2.2.2.1,x.2.2.2.2.2.2.1⟩)/\
  (∀i:Ins,cu .ins 0 i=i.op)/\(∀i:Ins,cu .ins 1 i=i.d)/\(∀i:Ins,cu .ins 2 i=i.a)/\(∀i:Ins,cu .ins 3 i=i.k)/\(∀x,Co.mk .ins x=⟨x.1,x.2.1,x.2.2.1,x.2.2.2.1⟩)/\
  (∀e:Ev,cu .ev 0 e=e.kind)/\(∀e:Ev,cu .ev 1 e=e.at_)/\(∀e:Ev,jy .ev 2 .mono e=e.x)/\(∀e:Ev,jy .ev 3 .mono e=e.y)/\(∀e:Ev,jy .ev 4 .poly e=e.regs)/\(∀x,Co.mk .ev x=⟨x.1,x.2.1,x.2.2.1,x.2.2.2.1,x.2.2.2.2.1⟩)/\
  (∀s:Sym,jy .sym 0 .ev s=s.events)/\(∀s:Sym,jy .sym 1 .poly s=s.regs)/\(∀s:Sym,cu .sym 2 s=s.fin)/\(∀s:Sym,jy .sym 3 .mono s=s.x)/\(∀s:Sym,jy .sym 4 .mono s=s.y)/\(∀s:Sym,cu .sym 5 s=s.k)/\
  (∀x,Co.mk .sym x=⟨x.1,x.2.1,x.2.2.1,x.2.2.2.1,x.2.2.2.2.1,x.2.2.2.2.2.1⟩)/\(∀x,Co.mk .bool x=x.1)/\(∀x:Bool,LH .bool 0 x=x):=
 ⟨λ_=>rfl,λ_=>rfl,λ_=>rfl,λ_=>rfl,λ_=>rfl,λ_=>rfl,λ_=>rfl,λ_=>rfl,λ_=>rfl,λ_=>rfl,λ_=>rfl,λ_=>rfl,λ_=>rfl,λ_=>rfl,λ_=>rfl,λ_=>rfl,λ_=>rfl,λ_=>rfl,λ_=>rfl,λ_=>rfl,λ_=>rfl,λ_=>rfl,λ_=>rfl,λ_=>rfl,λ_=>rfl,λ_=>rfl,λ_=>rfl,λ_=>rfl,λ_=>rfl,λ_=>rfl,λ_=>rfl,λ_=>rfl,λ_=>rfl,λ_=>rfl⟩
abbrev hK(o : IOp) : Prop := o.kind = 1 \/ o.kind = 2 \/ o.kind = 3 \/ o.kind = 8
def asB{p1 f1}(a:Y1 p1 f1)(o:IOp):
  ad4.F (p1,f1,()) (o,()) (λy=>y=(decide (hX o),decide (hY o),decide (hK o),decide (evO o),())):=by
 dsimp only [ad4,gm];simp (disch:=omega) only [RR,RB,a];refine Prod.ext ?_ (Prod.ext ?_ (Prod.ext ?_ (Prod.ext ?_ rfl)))<;>rw [Bool.eq_iff_iff]<;>simp [hX,hY,hK,evO,inB,or_assoc,and_assoc]
def asC{p1 f1}(a:Y1 p1 f1)(o:IOp):
  ad5.F (p1,f1,()) (o,()) (λy=>y=(decide (mkV o),())):=by
 dsimp only [ad5,gm];simp (disch:=omega) only [RR,RB,a];refine Prod.ext ?_ rfl;rw [Bool.eq_iff_iff];simp [mkV,inB]
def asD{p1 f1}(a:Y1 p1 f1)(o:IOp):
  ad1.F (p1,f1,()) (o,()) (λy=>y=(decide (evO o),())):=by
 dsimp only [ad1,gm];simp (disch:=omega) only [RR,RB,a];refine Prod.ext ?_ rfl;rw [Bool.eq_iff_iff];simp [evO,inB]
def asE{p1 f1}{c:IOp×Unit->Bool}{a:IOp×Unit->mQ}(d:∀o,c (o,())=true/\a (o,())=(decide (mkV o),()))(e:Y1 p1 f1)(b:Blk)(x n:Int)(f:0<=n)(h:n<=b.ops.length)(g:b.ops.length<1000000000):
  ad6.F (c,a,p1,f1,()) (b,x,n,()) (λy=>y=(bp (Vl b.ops x n),())):=by
 dsimp only [ad6,gm];simp (disch:=omega) only [RR,RB,e,d,bD,jF];refine⟨ah,ah,?_⟩;refine Prod.ext ?_ rfl;dsimp only;rw [Bool.eq_iff_iff,aH,Bool.and_eq_true,bD,decide_eq_true_eq];unfold Vl;constructor
 .rintro⟨⟨a1,a2⟩,a3⟩;exact⟨a1,ah,a3⟩
 .rintro⟨a1,a2,a3⟩;exact⟨⟨a1,ah⟩,a3⟩
def PZ{b:List IOp}{len i:Int}{o:IOp}:nD b len i o↔(1<=o.kind/\o.kind<=8)/\(hX o/\Vl b o.x i\/¬hX o/\o.x=0)/\(hY o/\Vl b o.y i\/¬hY o/\o.y=0)/\
  (hK o/\(o.kind=1/\(0<=o.k/\o.k<=65535)\/(o.kind=2\/o.kind=8)/\(0<=o.k/\o.k<=3)\/o.kind=3/\(1<=o.k/\o.k<=5))\/¬hK o/\o.k=0)/\(evO o/\(0<=o.at_/\o.at_<len)\/¬evO o/\o.at_=0):=by
 constructor
 .rintro⟨kd,x1,x0,y1,y0,k1,k2,k3,k0,a1,a0⟩;refine⟨kd,?_,?_,?_,?_⟩
  .by_cases h:hX o
   .exact Or.inl ⟨h,x1 h⟩
   .exact Or.inr ⟨h,x0 h⟩
  .by_cases h:hY o
   .exact Or.inl ⟨h,y1 h⟩
   .exact Or.inr ⟨h,y0 h⟩
  .unfold hK;omega
  .by_cases h:evO o
   .exact Or.inl ⟨h,a1 h⟩
   .exact Or.inr ⟨h,a0 h⟩
 .rintro⟨kd,x,y,k,a⟩;refine⟨kd,λh=> ?_,λh=> ?_,λh=> ?_,λh=> ?_,λh=> ?_,λh=> ?_,λh=> ?_,λh c=> ?_,λh=> ?_,λh=> ?_⟩
  .rcases x with x | x
   .exact x.2
   .exact absurd h x.1
  .rcases x with x | x
   .exact absurd x.1 h
   .exact x.2
  .rcases y with y | y
   .exact y.2
   .exact absurd h y.1
  .rcases y with y | y
   .exact absurd y.1 h
   .exact y.2
  .unfold hK at k;omega
  .unfold hK at k;omega
  .unfold hK at k;omega
  .unfold hK at k;omega
  .rcases a with a | a
   .exact a.2
   .exact absurd h a.1
  .rcases a with a | a
   .exact absurd a.1 h
   .exact a.2
abbrev Y52(a : Blk × Int × Int × Unit -> Bool)(c : Blk × Int × Int × Unit -> Bool × Unit) : Prop := ∀ b x n, 0 <= n -> n <= b.ops.length -> b.ops.length < 1000000000 -> a (b, x, n, ()) = true /\ c (b, x, n, ()) = (bp (Vl b.ops x n), ())
abbrev Y53(b : IOp × Unit -> Bool)(a : IOp × Unit -> Bool × Bool × Bool × Bool × Unit) : Prop := ∀ o, b (o, ()) = true /\ a (o, ()) = (decide (hX o), decide (hY o), decide (hK o), decide (evO o), ())
def asF{p3 f3 p2 f2 p4 f4 p1 f1 p5 f5 p6 f6}(j:Y52 p3 f3)(l:Y53 p2 f2)(q:Y9 p4 f4)(m:Y1 p1 f1)(p:Y16 p5 f5)(n:Y17 p6 f6)(b:Blk)(i:Int)(f:0<=i)(s:i<b.ops.length)(d:b.ops.length<1000000000)(r:1<=b.len/\b.len<=8):
  ad7.F (p3,f3,p2,f2,p4,f4,p1,f1,p5,f5,p6,f6,()) (b,i,()) (λy=>y=(bp (nD b.ops b.len i ((b.ops).getD (i).toNat default)),())):=by
 have XG:=λx=>(j b x i f ah d).1
 have XH:=λx=>(j b x i f ah d).2
 dsimp only [ad7,gm];simp (disch:=omega) only [RR,RB,m,l,XG,XH,q,p,n,jF];refine⟨ah,ah,λh=> ?_,λh=> ?_⟩
 .rw [aV (λg=>h g.kd)]
 .have h:=bD.1 h;refine Prod.ext ?_ rfl;dsimp only;rw [Bool.eq_iff_iff,aH,PZ];generalize ((b.ops).getD (i).toNat default)=o at h ⊢;simp only [Bool.and_eq_true,Bool.or_eq_true,Bool.not_eq_true',decide_eq_true_eq,decide_eq_false_iff_not,aH,bD,h,true_and,and_true];have e:∀ {a:Int},(0<=a/\a<=b.len-1)↔(0<=a/\a<b.len):=λ{a}=>by omega
  have k:(bif decide (o.kind=1)then inB o.k 0 65535 else bif decide (o.kind=2)then inB o.k 0 3 else bif decide (o.kind=3)then inB o.k 1 5 else(decide (o.kind=8)&&inB o.k 0 3))=true↔(o.kind=1/\(0<=o.k/\o.k<=65535)\/(o.kind=2\/o.kind=8)/\(0<=o.k/\o.k<=3)\/o.kind=3/\(1<=o.k/\o.k<=5)):=by
   rcases(by omega:o.kind=1\/o.kind=2\/o.kind=3\/o.kind=8\/(o.kind≠1/\o.kind≠2/\o.kind≠3/\o.kind≠8))with c | c | c | c | ⟨c1,c2,c3,c4⟩
   .simp [c,inB]
   .simp [c,inB]
   .simp [c,inB]
   .simp [c,inB]
   .simp [c1,c2,c3,c4]
  rw [k];simp only [e,and_assoc]
def asG(b:Blk):ad8.F () (b,()) (λy=>y=(decide (b.fin≠1),decide (3<=b.fin),decide (b.fin≠2),())):=by
 dsimp only [ad8,gm];simp (disch:=omega) only [RR,RB];refine Prod.ext ?_ (Prod.ext rfl (Prod.ext ?_ rfl))<;>simp
def K7{b:Blk}:Bu b↔(1<=b.fin/\b.fin<=4)/\(b.fin≠1/\Vl b.ops b.x b.ops.length\/¬b.fin≠1/\b.x=0)/\(3<=b.fin/\Vl b.ops b.y b.ops.length\/¬3<=b.fin/\b.y=0)/\(b.fin≠2/\(0<=b.k/\b.k<=65535)\/¬b.fin≠2/\b.k=0):=by
 constructor
 .rintro⟨f,x1,x0,y1,y0,k1,k0⟩;refine⟨f,?_,?_,ah⟩
  .by_cases h:b.fin=1
   .exact Or.inr ⟨λg=>g h,x0 h⟩
   .exact Or.inl ⟨h,x1 h⟩
  .by_cases h:3<=b.fin
   .exact Or.inl ⟨h,y1 h⟩
   .exact Or.inr ⟨h,y0 ah⟩
 .rintro⟨f,x,y,k⟩;refine⟨f,λh=> ?_,λh=> ?_,λh=> ?_,λh=> ?_,λh=>by omega,λh=>by omega⟩
  .rcases x with x | x
   .exact x.2
   .exact absurd h x.1
  .rcases x with x | x
   .exact absurd h x.1
   .exact x.2
  .rcases y with y | y
   .exact y.2
   .exact absurd h y.1
  .rcases y with y | y
   .exact absurd y.1 ah
   .exact y.2
abbrev Y54(c : Blk × Unit -> Bool)(a : Blk × Unit -> Bool × Bool × Bool × Unit) : Prop := ∀ b, c (b, ()) = true /\ a (b, ()) = (decide (b.fin ≠ 1), decide (3 <= b.fin), decide (b.fin ≠ 2), ())
def asH{p2 f2 p3 f3 p4 f4 p1 f1}(d:Y54 p2 f2)(a:Y52 p3 f3)(f:Y9 p4 f4)(e:Y1 p1 f1)(b:Blk)(c:b.ops.length<1000000000):
  ad9.F (p2,f2,p3,f3,p4,f4,p1,f1,()) (b,()) (λy=>y=(bp (Bu b),())):=by
 have XG:=λx=>(a b x b.ops.length ah (Int.le_refl _) c).1
 have XH:=λx=>(a b x b.ops.length ah (Int.le_refl _) c).2
 dsimp only [ad9,gm];simp (disch:=omega) only [RR,RB,e,d,XG,XH,f];refine Prod.ext ?_ rfl;dsimp only;rw [Bool.eq_iff_iff,aH,K7];simp only [Bool.and_eq_true,Bool.or_eq_true,Bool.not_eq_true',decide_eq_true_eq,decide_eq_false_iff_not,aH,bD,and_assoc]
def asI{p1 f1}{m:zx->Bool}{r:zx->mQ}{o:Blk×dY->Bool}{p:Blk×dY->mQ}(t:∀b,b.ops.length<1000000000->m (b,())=true/\r (b,())=(bp (Bu b),()))(q:∀(b:Blk) (i:Int),0<=i->i<b.ops.length->b.ops.length<1000000000->1<=b.len/\b.len<=8->o (b,i,())=true/\p (b,i,())=(bp (nD b.ops b.len i ((b.ops).getD (i).toNat default)),()))(u:Y1 p1 f1)(b:Blk)(f:b.ops.length<1000000000):
  aea.F (m,r,o,p,p1,f1,()) (b,()) (λy=>y=(bp (bR b),())):=by
 dsimp only [aea,gm];simp (disch:=omega) only [RR,RB,u];by_cases a:1<=b.len/\b.len<=8
 .have hl':=bD.2 a;simp (disch:=omega) only [RR,hl',bD,jF];refine⟨λh=> ?_,λh=> ?_⟩
  .rw [aV (λg=> ?_)];have z:=g.pc;have w:=g.sz;omega
  .refine au (λ(y:Int×Int×zx)=>y.1=b.ops.length/\y.2.2.1=b/\0<=y.2.1/\y.2.1<=b.ops.length/\All y.2.1 (λi=>nD b.ops b.len i ((b.ops).getD (i).toNat default))) (λy=>(b.ops.length-y.2.1).toNat) ⟨rfl,rfl,by simp,by simp,All.zero⟩ ?_;rintro⟨(n:Int),(i:Int),(c:Blk),⟨⟩⟩ hI;dsimp only at hI ⊢;obtain⟨rfl,rfl,e,x,l⟩:=hI;simp (disch:=omega) only [RR,t c f];refine⟨λd=>⟨(q c i e d f a).1,?_⟩,λd=> ?_⟩
   .rw [(q c i e d f a).2];dsimp only;refine⟨λk=> ?_,λk=>⟨⟨ah,ah,l.snoc (aH.1 k)⟩,ah⟩⟩;rw [aV (λg=>iE.1 k (g.op i e d))]
   .by_cases he:Bu c
    .rw [aL he,aL (show bR c from⟨a,ah,ah,λj s v=>l j s ah,he⟩)]
    .rw [aV he,aV (λg=>he g.en)]
 .have hl':=jF.2 a;simp (disch:=omega) only [RR,hl'];rw [aV (λg=>a g.ln)];exact⟨rfl,λh=>h.1.1.elim⟩
def anx{p1 f1}(a:Y1 p1 f1)(k:Int):
  Vb.F (p1,f1,()) (k,()) (λy=>y=(decide ((1<=k/\k<=4)\/k=6),())):=by
 dsimp only [Vb,gm];simp (disch:=omega) only [RR,a];refine Prod.ext ?_ rfl;rw [Bool.eq_iff_iff];simp [inB]
def anz{b:dY->Bool}{c:dY->mQ}(d:∀k,b (k,())=true/\c (k,())=(decide ((1<=k/\k<=4)\/k=6),()))(a:List IOp)(x n:Int)(e:n<=a.length):
  Vd.F (b,c,()) (a,x,n,()) (λy=>y=(bp (Vl a x n),())):=by
 dsimp only [Vd,gm];simp (disch:=omega) only [RR,RB,d];refine⟨by simp only [Bool.and_eq_false_iff,decide_eq_false_iff_not];omega,by simp only [Bool.and_eq_false_iff,decide_eq_false_iff_not];omega,?_⟩;refine Prod.ext ?_ rfl;dsimp only;rw [Bool.eq_iff_iff,aH,Bool.and_eq_true,Bool.and_eq_true,decide_eq_true_eq,decide_eq_true_eq,decide_eq_true_eq,and_assoc];rfl
abbrev Y55(b : List IOp × Int × Int × Unit -> Bool)(c : List IOp × Int × Int × Unit -> Bool × Unit) : Prop := ∀ (a : List IOp) (x n : Int), n <= a.length -> b (a, x, n, ()) = true /\ c (a, x, n, ()) = (bp (Vl a x n), ())
def anA{p4 f4 p1 f1 p3 f3}(k:Y9 p4 f4)(j:Y1 p1 f1)(f:Y55 p3 f3)(b:List IOp)(i len:Int)(q:0<=i)(r:i<b.length)(n:1<=len/\len<=8):Ve.F (p4,f4,p1,f1,p3,f3,()) (b,i,len,()) (λy=>y=(bp (nD b len i ((b).getD (i).toNat default)),())):=by
 have XG:=λx=>(f b x i ah).1
 have XH:=λx=>(f b x i ah).2
 have e:∀ {a:Int},(0<=a/\a<=len-1)↔(0<=a/\a<len):=λ{a}=>by omega
 dsimp only [Ve,gm];simp (disch:=omega) only [RR,RB,j,XG,XH,k];refine⟨ah,ah,?_⟩;rw [show bp (nD b len i ((b).getD (i).toNat default))=bp (_)from kQ PZ];generalize ((b).getD (i).toNat default)=o;have d:∀ {c:Bool} {P:Prop},(c=true↔P)->(c,())=(bp P,()):=λ{c P} h=>Prod.ext (by dsimp only;rw [Bool.eq_iff_iff,aH];exact h) rfl
 refine⟨λc=> ?_,λm=>⟨λc=> ?_,λp=>⟨λc=> ?_,λl=> ?_⟩⟩⟩
 .refine d ?_;simp only [Bool.and_eq_true,decide_eq_true_eq,aH,bD,c,hX,hY,hK,evO,e];simp [and_assoc]
 .refine d ?_;simp only [Bool.and_eq_true,decide_eq_true_eq,aH,bD,c,hX,hY,hK,evO,e];simp [and_assoc]
 .refine d ?_;simp only [Bool.and_eq_true,decide_eq_true_eq,aH,bD,c,hX,hY,hK,evO,e];simp [and_assoc]
 .by_cases c4:o.kind=4\/o.kind=7
  .have c5:o.kind≠8:=by omega
   rcases c4 with c | c<;>simp (disch:=omega) only [RR,c,Int.reduceEq]<;>(refine d ?_)<;>simp only [Bool.and_eq_true,decide_eq_true_eq,aH,bD,c,hX,hY,hK,evO,e]<;>simp [and_assoc]
  .by_cases c:o.kind=5
   .simp (disch:=omega) only [RR,c,Int.reduceEq];refine d ?_;simp only [Bool.and_eq_true,decide_eq_true_eq,aH,bD,c,hX,hY,hK,evO,e];simp [and_assoc]
   .by_cases c':o.kind=6
    .simp (disch:=omega) only [RR,c',Int.reduceEq];refine d ?_;simp only [Bool.and_eq_true,decide_eq_true_eq,aH,bD,c',hX,hY,hK,evO,e];simp [and_assoc]
    .by_cases c8:o.kind=8
     .simp (disch:=omega) only [RR,c8,Int.reduceEq];refine d ?_;simp only [Bool.and_eq_true,decide_eq_true_eq,aH,bD,c8,hX,hY,hK,evO,e];simp [and_assoc]
     .have n4:¬o.kind=4:=λh=>c4 (Or.inl h)
      have g:¬o.kind=7:=λh=>c4 (Or.inr h)
      simp (disch:=omega) only [RR,n4,g,c,c',c8];rw [aV (λh=>by have:=h.1;omega)]
def anB{p4 f4 p3 f3}(e:Y9 p4 f4)(d:Y55 p3 f3)(b:Blk):Vf.F (p4,f4,p3,f3,()) (b,()) (λy=>y=(bp (Bu b),())):=by
 have XG:=λx=>(d b.ops x b.ops.length (Int.le_refl _)).1
 have XH:=λx=>(d b.ops x b.ops.length (Int.le_refl _)).2
 dsimp only [Vf,gm];simp (disch:=omega) only [RR,RB,XG,XH,e];rw [show bp (Bu b)=bp (_)from kQ K7];have a:∀ {c:Bool} {P:Prop},(c=true↔P)->(c,())=(bp P,()):=λ{c P} h=>Prod.ext (by dsimp only;rw [Bool.eq_iff_iff,aH];exact h) rfl
 refine⟨λc=> ?_,λg=>⟨λc=> ?_,λf=> ?_⟩⟩
 .refine a ?_;simp only [Bool.and_eq_true,decide_eq_true_eq,aH,bD,c];simp [and_assoc]
 .refine a ?_;simp only [Bool.and_eq_true,decide_eq_true_eq,aH,bD,c];simp [and_assoc]
 .by_cases c:b.fin=3
  .simp (disch:=omega) only [RR,c,Int.reduceEq];refine a ?_;simp only [Bool.and_eq_true,decide_eq_true_eq,aH,bD,c];simp [and_assoc]
  .by_cases c4:b.fin=4
   .simp (disch:=omega) only [RR,c4,Int.reduceEq];refine a ?_;simp only [Bool.and_eq_true,decide_eq_true_eq,aH,bD,c4];simp [and_assoc]
   .simp (disch:=omega) only [RR,c,c4];rw [aV (λh=>by have:=h.1;omega)]
def anC{p1 f1}{m:zx->Bool}{q:zx->mQ}{n:List IOp×ni->Bool}{o:List IOp×ni->mQ}(t:Y1 p1 f1)(s:∀b,m (b,())=true/\q (b,())=(bp (Bu b),()))(p:∀(a:List IOp) (i len:Int),0<=i->i<a.length->1<=len/\len<=8->n (a,i,len,())=true/\o (a,i,len,())=(bp (nD a len i ((a).getD (i).toNat default)),()))(b:Blk)(v:b.ops.length<1000000000):
  Vg.F (p1,f1,m,q,n,o,()) (b,()) (λy=>y=(bp (bR b),())):=by
 dsimp only [Vg,gm];simp (disch:=omega) only [RR,RB,t];by_cases d:1<=b.len/\b.len<=8
 .have hl':=bD.2 d;simp (disch:=omega) only [RR,hl',bD,jF];refine⟨λh=> ?_,λh=> ?_⟩
  .rw [aV (λg=> ?_)];have z:=g.pc;have w:=g.sz;omega
  .refine au (λ(y:Int×zx)=>y.2.1=b/\0<=y.1/\y.1<=b.ops.length/\All y.1 (λi=>nD b.ops b.len i ((b.ops).getD (i).toNat default))) (λy=>(b.ops.length-y.1).toNat) ⟨rfl,by simp,by simp,All.zero⟩ ?_;rintro⟨(i:Int),(c:Blk),⟨⟩⟩ hI;dsimp only at hI ⊢;obtain⟨rfl,f,x,l⟩:=hI;simp (disch:=omega) only [RR,s c];refine⟨λe=>⟨(p c.ops i c.len f e d).1,?_⟩,λe=> ?_⟩
   .rw [(p c.ops i c.len f e d).2];dsimp only;refine⟨λk=> ?_,λk=>⟨⟨ah,ah,l.snoc (aH.1 k)⟩,ah⟩⟩;rw [aV (λg=>iE.1 k (g.op i f e))]
   .by_cases he:Bu c
    .rw [aL he,aL (show bR c from⟨d,ah,ah,λj r u=>l j r ah,he⟩)]
    .rw [aV he,aV (λg=>he g.en)]
 .have hl':=jF.2 d;simp (disch:=omega) only [RR,hl'];rw [aV (λg=>d g.ln)];exact⟨rfl,λh=>h.1.1.elim⟩
def anD{p4 f4}(c:Y9 p4 f4)(r a b:Int):
  Us.F (p4,f4,()) (r,a,b,()) (λy=>y=(inB a 0 65535&&inB b 0 65535&& (decide (r=1/\a=b\/r=2/\a<b)),())):=by
 dsimp only [Us,gm];simp (disch:=omega) only [RR,c];refine Prod.ext ?_ rfl;rw [Bool.eq_iff_iff];simp
def anE{p1 f1}(f:Y13 p1 f1)(a:List (List aj))(d:ShP a):
  Ut.F (p1,f1,()) (a,()) (λy=>y=(a,())):=by
 have b:=d.1;dsimp only [Ut,gm];refine au (λ(y:List (List aj)×Int×Int×fE)=>y.1=a/\y.2.1=a.length/\y.2.2.2.1=a.take y.2.2.1.toNat/\0<=y.2.2.1/\y.2.2.1<=a.length) (λy=>(a.length-y.2.2.1).toNat) ⟨rfl,rfl,by simp,by simp,by simp⟩ ?_;rintro⟨(l:List (List aj)),(m:Int),(i:Int),(o:List (List aj)),⟨⟩⟩ hI;dsimp only at hI ⊢;obtain⟨rfl,rfl,rfl,e,g⟩:=hI;simp (disch:=omega) only [RR,f _ (d.at _)];refine⟨λc=>⟨ah,ah,?_,⟨bq e c rfl,ah,ah⟩,ah⟩,λc=>by rw [take_of_length_le ah]⟩;have:=length_take_le' i.toNat l;simp only [length_cons,length_nil];omega
abbrev Y56(c : List (List aj) × Unit -> Bool)(b : List (List aj) × Unit -> List (List aj) × Unit) : Prop := ∀ a, ShP a -> c (a, ()) = true /\ b (a, ()) = (a, ())
def asJ{p1 f1 p2 f2}(b:Y13 p1 f1)(d:Y56 p2 f2)(s:Sym)(a:ShY s):
  aez.F (p1,f1,p2,f2,()) (s,()) (λy=>y=(s.fin,s.k,s.events,s.regs,s.x,s.y,())):=by
 have e:=a.e.1;dsimp only [aez,gm];simp (disch:=omega) only [RR,RB,b _ a.x,b _ a.y,d _ a.r];refine au (λ(y:List Ev×Int×Int×Int×Int×avN)=>y.1=s.events/\y.2.1=s.events.length/\y.2.2.2.2.2.1=s.fin/\y.2.2.2.2.2.2.1=s.k/\y.2.2.2.2.2.2.2.1=s.events.take y.2.2.1.toNat/\y.2.2.2.2.2.2.2.2.1=s.regs/\y.2.2.2.2.2.2.2.2.2.1=s.x/\y.2.2.2.2.2.2.2.2.2.2.1=s.y/\0<=y.2.2.1/\y.2.2.1<=s.events.length) (λy=>(s.events.length-y.2.2.1).toNat) ⟨rfl,rfl,rfl,rfl,by simp,rfl,rfl,rfl,by simp,by simp⟩ ?_;rintro⟨(l:List Ev),(m:Int),(i:Int),(p:Int),(h:Int),(n:Int),(j:Int),(o:List Ev),(r:List (List aj)),(u:List aj),(v:List aj),⟨⟩⟩ hI;dsimp only at hI ⊢;obtain⟨rfl,rfl,rfl,rfl,rfl,rfl,rfl,rfl,g,k⟩:=hI;have c:=a.e.at i.toNat;simp (disch:=omega) only [RR,RB,b _ c.1,b _ c.2.1,d _ c.2.2];refine⟨λf=>⟨ah,ah,?_,⟨bq g f rfl,ah,ah⟩,ah⟩,λf=>by rw [take_of_length_le ah]⟩;have:=length_take_le' i.toNat s.events;simp only [length_cons,length_nil];omega
def anF{p1 f1}{e:r9->Bool}{c:r9->List Atom×dY}(j:Y28 p1 f1)(i:∀(t:List Atom) a,t.length<1000000000->ShA a->e (t,a,())=true/\c (t,a,())=((bC t a).1,(bC t a).2,()))(b k:Int)(t:List Atom)(d:Bool)(g:t.length<1000000000):
  TT.F (p1,f1,e,c,()) (b,k,t,d,()) (λy=>y=if(bC t ⟨b,k,[],[]⟩).2<0 then([],t,true,())else(gZ (bC t ⟨b,k,[],[]⟩).2,(bC t ⟨b,k,[],[]⟩).1,d,())):=by
 have f:ShA ⟨b,k,[],[]⟩:=⟨pW,pW⟩;dsimp only [TT,gm];simp (disch:=omega) only [RR,j,i _ _ g f];exact⟨λh=>by rw [if_pos h],λh=>by rw [if_neg h]⟩
theorem ER(t:List Atom)(n:Nat):rN t (n+1)=((bC (rN t n).1 ⟨1,n,[],[]⟩).1,(rN t n).2++ [gZ (bC (rN t n).1 ⟨1,n,[],[]⟩).2]):=rfl
abbrev Y57(b : Int × Int × List Atom × Bool × Unit -> Bool)(a : Int × Int × List Atom × Bool × Unit -> List aj × List Atom × Bool × Unit) : Prop := ∀ kd k (t : List Atom) fl, t.length < 1000000000 -> b (kd, k, t, fl, ()) = true /\ a (kd, k, t, fl, ()) = if (bC t ⟨kd, k, [], []⟩).2 < 0 then ([], t, true, ()) else (gZ (bC t ⟨kd, k, [], []⟩).2, (bC t ⟨kd, k, [], []⟩).1, fl, ())
def anG{p1 f1}(h:Y57 p1 f1)(t:List Atom)(a:Bool)(b:aI t)(c:t.length<=196):TU.F (p1,f1,()) (t,a,()) (λy=>y=((rN t 4).1,a,(rN t 4).2,())):=by
 dsimp only [TU,gm];refine au (λ(y:Int×List Atom×Bool×fE)=>0<=y.1/\y.1<=4/\y.2.2.1=a/\y.2.1=(rN t y.1.toNat).1/\y.2.2.2.1=(rN t y.1.toNat).2) (λy=>(4-y.1).toNat) ⟨by simp,by simp,rfl,rfl,rfl⟩ ?_;rintro⟨(i:Int),(u:List Atom),(g:Bool),(r:List (List aj)),⟨⟩⟩ hI;dsimp only at hI ⊢;obtain⟨m,k,rfl,rfl,rfl⟩:=hI;have ok:=Bw b c i.toNat ah;have l:=ok.tl;have j:=ok.r4;simp (disch:=omega) only [RR,h _ _ (rN t i.toNat).1 _ ah,length_cons,length_nil];refine⟨λf=> ?_,λf=> ?_⟩
 .have hp:=MU b c (n:=i.toNat) ah;rw [show((i.toNat:Nat):Int)=i by omega]at hp;rw [if_neg ah];have e:(i+1).toNat=i.toNat+1:=by omega
  have d:((i.toNat:Nat):Int)=i:=by omega
  refine⟨ah,⟨ah,ah,rfl,?_,?_⟩,ah⟩
  .rw [e,ER,d]
  .rw [e,ER,d]
 .rw [show i.toNat=4 by omega]
def anH(a:List (List aj))(b:0<a.length)(c:a.length<1000000000):T9.F () (a,()) (λy=>y=(a,a,())):=by
 dsimp only [T9,gm];simp (disch:=omega) only [RR,length_nil];exact⟨ah,ah,rfl⟩
abbrev Y58(b : List Atom × Bool × Unit -> Bool)(a : List Atom × Bool × Unit -> List Atom × Bool × List (List aj) × Unit) : Prop := ∀ (t : List Atom) fl, aI t -> t.length <= 196 -> b (t, fl, ()) = true /\ a (t, fl, ()) = ((rN t 4).1, fl, (rN t 4).2, ())
def asK{p2 f2 p1 f1}(b:Y31 p2 f2)(c:Y58 p1 f1):
  aep.F (p2,f2,p1,f1,()) () (λy=>y.1=t4):=by
 have a:ShT t4:=ZR.1.sh;unfold t4 at a ⊢;dsimp only [aep,gm];simp (disch:=omega) only [RR,c [] false yH (by simp),b _ a]
abbrev Y59(c : Int × Int × Int × Unit -> Bool)(d : Int × Int × Int × Unit -> Bool × Unit) : Prop := ∀ r a b, c (r, a, b, ()) = true /\ d (r, a, b, ()) = (inB a 0 65535 && inB b 0 65535 && (decide (r = 1 /\ a = b \/ r = 2 /\ a < b)), ())
def asL{p1 f1 p2 f2 p3 f3 p5 f5 p6 f6}{p:Sym×Unit->Bool}{j:Sym×Unit->avN}(o:Y27 p1 f1)(i:Y11 p2 f2)(r:Y8 p3 f3)(z:∀s,ShY s->p (s,())=true/\j (s,())=(s.fin,s.k,s.events,s.regs,s.x,s.y,()))(u:Y14 p5 f5)(t:Y59 p6 f6)(s:Sym)(n:Int)(e:ShY s)(A:0<=s.fin)(B:s.fin<=4):aeA.F (p1,f1,p2,f2,p3,f3,p,j,p5,f5,p6,f6,()) (s,n,()) (λy=>y=(symEnd s n,())):=by
 dsimp only [aeA,gm];simp (disch:=omega) only [RR,RB,o _ e.x,o _ e.y,i _ e.x,i _ e.y,r _ _ e.x,z s e,u _ _ e.x,t];have f:iV s.x s.y=0↔s.x=s.y:=jk;have v:(dw s.x).2=true->inB (dw s.x).1 0 65535=true:=λh=>bD.2 (tX h).2.2
 have x:(dw s.y).2=true->inB (dw s.y).1 0 65535=true:=λh=>bD.2 (tX h).2.2
 unfold symEnd;refine⟨λh=> ?_,λh=>⟨λg=> ?_,λg=>⟨λk=> ?_,λk=>⟨λl=>⟨λm=> ?_,λm=> ?_⟩,λl=>⟨λm=> ?_,λm=> ?_⟩⟩⟩⟩⟩
 .rw [if_pos (by rw [iU,Bool.and_eq_false_iff];exact h)];rfl
 all_goals rw [if_neg (by rw [iU,h.1,h.2];simp)]
 .rw [if_pos g]
 all_goals rw [if_neg (show¬(s.fin=2/\(dw s.x).2=true) by
  rintro⟨a,b⟩;rw [decide_eq_true a,b]at g;cases g)]
 .rw [if_pos k]
 all_goals rw [if_neg (show¬(s.fin≠3/\s.fin≠4) by
  rintro⟨a,b⟩;rw [decide_eq_false a,decide_eq_false b]at k;cases k)]
 .rw [if_pos (by rw [<-f];exact l),if_neg];rintro(⟨c,d⟩ | ⟨⟨c,d⟩,w⟩)
  .have:=m.1;rw [decide_eq_true (f.2 c),decide_eq_true d]at this;cases this
  .have:=m.2;rw [c,d,v c,x d,decide_eq_true ah]at this;cases this
 .rw [if_pos (by rw [<-f];exact l),if_pos];rcases m with⟨c,d⟩ | ⟨c,_,w⟩
  .exact Or.inl ⟨f.1 c,d⟩
  .exact Or.inr ⟨c,ah⟩
 all_goals rw [if_neg (show¬(s.x=s.y\/(dw s.x).2=true/\(dw s.y).2=true) by
  rintro(q | ⟨c,d⟩)
  .exact l.1 (f.2 q)
  .have:=l.2;rw [c,d]at this;cases this)]
 .rw [if_pos m]
 .rw [if_neg];rintro⟨a,b⟩;rw [decide_eq_true a,decide_eq_true b]at m;cases m
variable{t:List Atom}{b:Blk}{i:Nat}{V:List (List aj)}{ev:List Ev}
noncomputable def SW (t:List Atom) (b:Blk) (i:Nat):SS:=(b.ops.take i).foldl stp (s0 t)
structure At(t:List Atom)(b:Blk)(i:Nat)(ld inn:Int)(tb:List Atom)(V:List (List aj))(ev:List Ev)(rg:List (List aj)):Prop where
 ld:ld=(SW t b i).ld
 inn:inn=(SW t b i).inn
 tb:tb=(SW t b i).t
 V:V=(SW t b i).vals++replicate (b.ops.length-i) []
 ev:ev=(SW t b i).evs
 rg:rg=(SW t b i).regs
def At.auN{c a:Int}{f:List Atom}{d:List (List aj)}(h:At t b i c a f V ev d)(e:(SW t b i).vals.length=i)(g:i<=b.ops.length):V.length=b.ops.length:=by
 rw [h.V,length_append,length_replicate,e];omega
def ZW(t:List Atom):∀(l:List IOp) (s:SS),(l.foldl stp s).evs.length<=s.evs.length+l.length
 | [],s=>Nat.le_refl _
 | o::r,s=>by
  rw [foldl_cons,length_cons];have b:=ZW t r (stp s o);have a:(stp s o).evs.length<=s.evs.length+1:=by
   show(nE s o).length<=_;unfold nE;split
   .rw [length_append];exact Nat.le_refl _
   .omega
  omega
theorem afm(i:Nat)(a:i<=b.ops.length):(SW t b i).evs.length<=i:=by
 have:=ZW t (b.ops.take i) (s0 t);rw [length_take,Nat.min_eq_left a]at this;show((b.ops.take i).foldl stp (s0 t)).evs.length<=i;have e:(s0 t).evs.length=0:=rfl;omega
def ZX(a:i<b.ops.length):SW t b (i+1)=stp (SW t b i) (b.ops.getD i default):=by
 unfold SW;rw [nG _ _ a,getD_lt a]
def At.next{c a:Int}{j:List Atom}{n:List (List aj)}(h:At t b i c a j V ev n)(q:(SW t b i).vals.length=i)(d:i<b.ops.length){o:IOp}(m:b.ops.getD i default=o)
  {ld' afn:Int} {tb':List Atom} {V':List (List aj)} {ev':List Ev} {rg':List (List aj)} (r:ld'=if o.kind=4 then c+1 else c) (l:afn=if o.kind=6 then a+1 else a) (g:tb'=nT (SW t b i) o) (p:V'=V.set i (nV (SW t b i) o)) (f:ev'=nE (SW t b i) o) (k:rg'=nR (SW t b i) o):At t b (i+1) ld' afn tb' V' ev' rg':=by
 have e:=ZX (t:=t) d;rw [m]at e;refine⟨?_,?_,?_,?_,?_,?_⟩<;>rw [e]
 .rw [r,h.ld];rfl
 .rw [l,h.inn];rfl
 .exact g
 .rw [p,h.V];show _=((SW t b i).vals++ [nV (SW t b i) o])++_;rw [set_append_right _ _ ah,q,Nat.sub_self,show b.ops.length-i=(b.ops.length- (i+1))+1 by omega,replicate_succ,set_cons_zero,append_assoc];rfl
 .exact f
 .exact k
abbrev Y60(c : Blk × Unit -> Bool)(a : Blk × Unit -> Bool × Unit) : Prop := ∀ b, b.ops.length < 1000000000 -> c (b, ()) = true /\ a (b, ()) = (bp (bR b), ())
abbrev Y61(b : IOp × Unit -> Bool)(a : IOp × Unit -> Bool × Unit) : Prop := ∀ o, b (o, ()) = true /\ a (o, ()) = (decide (evO o), ())
abbrev Y62(b : Sym × Int × Unit -> Bool)(a : Sym × Int × Unit -> Sym × Unit) : Prop := ∀ s n, ShY s -> 0 <= s.fin -> s.fin <= 4 -> b (s, n, ()) = true /\ a (s, n, ()) = (symEnd s n, ())
set_option maxHeartbeats 1000000 in
theorem asM{p1 f1 p2 f2 p3 f3 p4 f4 p5 f5 p6 f6 p7 f7 p8 f8 p9 f9 p10 f10 p11 f11}{a8:fE->Bool}{T:fE->List (List aj)×fE}(U1:Y54 p1 f1)(U2:Y60 p2 f2)(A:Y61 p3 f3)(v:Y53 p4 f4)(U5:Y22 p5 f5)(U6:Y62 p6 f6)(U7:Y29 p7 f7)(U8:Y31 p8 f8)(U9:Y30 p9 f9)(G:Y57 p10 f10)(b0:Y58 p11 f11)(Y:∀a:List (List aj),0<a.length->a.length<1000000000->a8 (a,())=true/\T (a,())=(a,a,()))(t:List Atom)(b:Blk)(ht:ShT t)(hb:b.ops.length<1000000000):aeB.F (p1,f1,p2,f2,p3,f3,p4,f4,p5,f5,p6,f6,p7,f7,p8,f8,p9,f9,p10,f10,p11,f11,a8,T,()) (t,b,()) (λy=>y=((bF t b).1,(bF t b).2,())):=by
 have b3:=ht.1;dsimp only [aeB,gm];simp (disch:=omega) only [RR,RB,U7 t ht,U2 b hb];by_cases c:aI t/\t.length<=100/\bR b
 case neg=>
  refine⟨λ_=> ?_,λh=> ?_⟩
  .unfold bF;rw [aV c];rfl
  .exact absurd ⟨aH.1 h.1.1,ah,aH.1 h.2⟩ c
 obtain⟨R,c2,z⟩:=c;simp (disch:=omega) only [RR,aL R,aL z,b0 t false R ah];have sz:=z.sz;have a9:=z.op;have X:=z.k3;have i0:=zn R ah;have M:∀j:Nat,j<=b.ops.length->SI (t.length+4) j (SW t b j):=λj hj=>by
  have:=(tZ (b.ops.take j) 0 (s0 t) i0 (λo r=>X o (mem_of_mem_take r)) (by rw [length_take];omega) (by rw [length_take];omega)).1;rw [length_take,Nat.min_eq_left hj,Nat.zero_add]at this;exact this
 refine⟨λh=>absurd h ah,λ_=>⟨ah,ah,?_⟩⟩
 refine au (λ(y:Int×Int×List IOp×Int×Int×Blk×Int×Int×List Atom×Bool×Int×Int×List (List aj)×List Ev×fE)=>y.2.2.2.2.2.1=b/\y.2.2.1=b.ops/\y.2.2.2.1=b.ops.length/\y.2.2.2.2.2.2.2.2.2.1=false/\y.2.2.2.2.2.2.2.2.2.2.1=b.fin/\y.2.2.2.2.2.2.2.2.2.2.2.1=b.k/\
   0<=y.2.2.2.2.1/\y.2.2.2.2.1<=b.ops.length/\At t b y.2.2.2.2.1.toNat y.1 y.2.1 y.2.2.2.2.2.2.2.2.1 y.2.2.2.2.2.2.2.2.2.2.2.2.1 y.2.2.2.2.2.2.2.2.2.2.2.2.2.1 y.2.2.2.2.2.2.2.2.2.2.2.2.2.2.1) (λy=>(b.ops.length-y.2.2.2.2.1).toNat)
  ⟨rfl,rfl,rfl,rfl,rfl,rfl,by simp,by simp,⟨rfl,rfl,rfl,rfl,rfl,rfl⟩⟩ ?_
 rintro⟨(ld:Int),(b2:Int),(b6:List IOp),(n:Int),(i:Int),(d:Blk),(z1:Int),(z2:Int),(tb:List Atom),(fl:Bool),(fin:Int),(kk:Int),(V:List (List aj)),(ev:List Ev),(rg:List (List aj)),⟨⟩⟩ hI;dsimp only at hI ⊢;obtain⟨e1,e2,e3,e4,e5,e6,h1,h2,hA⟩:=hI;subst e1 e2 e3 e4 e5 e6;have hl:V.length=d.ops.length:=hA.auN (M i.toNat ah).vl ah;have l:=M i.toNat ah;obtain⟨a1,a2,U,K,S,a6⟩:=hA;have O:tb.length<1000000000:=by rw [U];have:=l.tl;omega
 have r4:rg.length=4:=by rw [a6];exact l.r4
 have b5:ev.length<=i.toNat:=by rw [S];exact afm i.toNat ah
 by_cases q:i<d.ops.length
 case neg=>
  have en:=z.en;have hf:=en.f;have b4:=z.pc;have b1:=z.ln;have a7:i.toNat=d.ops.length:=by omega
  have eS:SW t d i.toNat=dB t d:=by unfold SW dB;rw [a7,take_of_length_le (Nat.le_refl _)]
  rw [eS]at a1 a2 U K S a6 l;have eV:V=(dB t d).vals:=by rw [K,a7,Nat.sub_self];simp
  clear K
  have pk:=EO (b:=d) l;have eR:=kU R c2 z;have sh:ShY (kS d (dB t d)):=by
   have i0:=zn R ah;have hs:=MX d.ops 0 (s0 t) i0 X ah ah ⟨by simp [s0],λe he=>absurd he (by simp [s0])⟩;exact⟨⟨by have:=hs.1;show(d.ops.foldl stp (s0 t)).evs.length<_;omega,hs.2⟩,l.regs,pk.1.sh,pk.2.sh⟩
  have st:=l.tok.sh;obtain⟨w,u⟩:=U6 (kS d (dB t d)) (d.pc+d.len) sh (by show 0<=d.fin;omega) hf.2;subst a1 a2 U S a6 eV;have x1:=en.x1;have y1:=en.y1;have sl:=l.vl;have E:kS d (dB t d)=⟨(dB t d).evs,(dB t d).regs,d.fin,if d.fin=1 then []else(((dB t d).vals).getD (d.x).toNat default),if 3<=d.fin then(((dB t d).vals).getD (d.y).toNat default)else [],d.k⟩:=rfl;rw [E]at w u;rcases(by omega:d.fin=1\/d.fin=2\/3<=d.fin)with c | c | c
  .have F:¬3<=d.fin:=by omega
   rw [if_pos c,if_neg F]at w u;simp (disch:=omega) only [RR,RB,q,U1,decide_eq_false F,c,ne_eq,not_true_eq_false,decide_false,U8 _ st];rw [c]at w u;rw [eR,E,if_pos c,if_neg F,c];exact⟨λh=>absurd h ah,λ_=>⟨w,by rw [u]⟩⟩
  .have n1:d.fin≠1:=by omega
   have F:¬3<=d.fin:=by omega
   obtain⟨g,B,_⟩:=x1 n1;rw [if_neg n1,if_neg F]at w u;simp (disch:=omega) only [RR,RB,q,U1,decide_eq_true n1,decide_eq_false F,U8 _ st];rw [eR,E,if_neg n1,if_neg F];exact⟨g,ah,g,ah,w,by rw [u]⟩
  .have n1:d.fin≠1:=by omega
   obtain⟨g,B,_⟩:=x1 n1;obtain⟨C,w2,_⟩:=y1 c;rw [if_neg n1,if_pos c]at w u;simp (disch:=omega) only [RR,RB,q,U1,decide_eq_true n1,decide_eq_true c,U8 _ st];rw [eR,E,if_neg n1,if_pos c];exact⟨g,ah,g,ah,C,ah,C,ah,w,by rw [u]⟩
 have f:=a9 i h1 q;have nxt:=λ{ld' afn:Int} {tb':List Atom} {V':List (List aj)} {ev':List Ev} {rg':List (List aj)}=>At.next (t:=t) (b:=d) (i:=i.toNat) (o:=((d.ops).getD (i).toNat default)) ⟨a1,a2,U,K,S,a6⟩ l.vl ah rfl (ld':=ld') (afn:=afn) (tb':=tb') (V':=V') (ev':=ev') (rg':=rg')
 have x:(i+1).toNat=i.toNat+1:=by omega
 have vx:∀j:Int,0<=j->j<i->((V).getD (j).toNat default)=(((SW t d i.toNat).vals).getD (j).toNat default):=λj j1 j2=>by
  have:=l.vl;rw [K,getD_lt (by rw [length_append];omega),getD_lt ah,getElem_append_left]
 have Z:hX ((d.ops).getD (i).toNat default)->((V).getD ((((d.ops).getD (i).toNat default)).x).toNat default)=xOf (SW t d i.toNat) ((d.ops).getD (i).toNat default):=λh=>by
  unfold xOf;rw [if_pos h];exact vx _ (f.x1 h).1 (f.x1 h).2.1
 have ey:hY ((d.ops).getD (i).toNat default)->((V).getD ((((d.ops).getD (i).toNat default)).y).toNat default)=yOf (SW t d i.toNat) ((d.ops).getD (i).toNat default):=λh=>by
  unfold yOf;rw [if_pos h];exact vx _ (f.y1 h).1 (f.y1 h).2.1
 have v0:V.set i.toNat []=V:=by
  have:=l.vl;rw [K,set_append_right _ _ ah,this,Nat.sub_self,show d.ops.length-i.toNat=(d.ops.length- (i.toNat+1))+1 by omega,replicate_succ,set_cons_zero]
 obtain⟨sn,so⟩:=Ho (o:=((d.ops).getD (i).toNat default)) l f.k3 ah ah;have gl:=l.ld;have gi:=l.inn;have a0:=(l.x ((d.ops).getD (i).toNat default)).1.sh;have P:=(l.y ((d.ops).getD (i).toNat default)).1.sh;generalize hs:SW t d i.toNat=s at*;generalize r:((d.ops).getD (i).toNat default)=o at*;have L:=f.kd;subst a1 a2 U S a6;have H:o.kind≠4->s.ld=if o.kind=4 then s.ld+1 else s.ld:=λh=>by rw [if_neg h]
 have D:o.kind≠6->s.inn=if o.kind=6 then s.inn+1 else s.inn:=λh=>by rw [if_neg h]
 have Q:o.kind≠3->o.kind≠4->o.kind≠6->s.t=nT s o:=λh3 h4 h6=>by unfold nT;rw [if_neg h3,if_neg ah]
 have J:o.kind≠8->s.regs=nR s o:=λh=>by unfold nR;rw [if_neg h]
 have E0:¬evO o->s.evs=nE s o:=λh=>by unfold nE;rw [if_neg h]
 have V0:o.kind=5\/o.kind=7\/o.kind=8->V=V.set i.toNat (nV s o):=λh=>by
  rw [show nV s o=[] by unfold nV;rw [if_neg ah,if_neg ah,if_neg ah,if_neg ah],v0]
 have P0:∀L k,0<=(bC s.t ⟨L,k,[],[]⟩).2->f10 (L,k,s.t,false,())=(gZ (bC s.t ⟨L,k,[],[]⟩).2,(bC s.t ⟨L,k,[],[]⟩).1,false,()):=λL k h=>by
  rw [(G _ _ _ _ O).2,if_neg ah]
 have y0:¬hY o->yOf s o=[]:=λh=>by unfold yOf;rw [if_neg h]
 have x0:¬hX o->xOf s o=[]:=λh=>by unfold xOf;rw [if_neg h]
 rcases(by omega:o.kind=1\/o.kind=2\/o.kind=3\/o.kind=4\/o.kind=5\/o.kind=6\/o.kind=7\/o.kind=8)with c | c | c | c | c | c | c | c
 .have dX:decide (hX o)=false:=decide_eq_false (by unfold hX;omega);have p:decide (hY o)=false:=decide_eq_false (by unfold hY;omega);have m:decide (evO o)=false:=decide_eq_false (by unfold evO;omega);have N:At t d (i.toNat+1) s.ld s.inn s.t (V.set i.toNat (aW o.k)) s.evs s.regs:=nxt (H ah) (D ah) (Q ah ah ah) (by unfold nV;rw [if_pos c]) (E0 (by unfold evO;omega)) (J ah);simp (disch:=omega) only [RR,RB,r,q,v,A,dX,p,m,c,Int.reduceEq,length_cons,length_nil,U5]
  repeat' apply And.intro
  all_goals first | omega | (rw [x];exact N)
 .have dX:decide (hX o)=false:=decide_eq_false (by unfold hX;omega);have p:decide (hY o)=false:=decide_eq_false (by unfold hY;omega);have m:decide (evO o)=false:=decide_eq_false (by unfold evO;omega);have k2:=f.k2 (Or.inl c);have N:At t d (i.toNat+1) s.ld s.inn s.t (V.set i.toNat ((s.regs).getD (o.k).toNat default)) s.evs s.regs:=nxt (H ah) (D ah) (Q ah ah ah) (by unfold nV;rw [if_neg ah,if_pos c]) (E0 (by unfold evO;omega)) (J ah);simp (disch:=omega) only [RR,RB,r,q,v,A,dX,p,m,c,Int.reduceEq,length_cons,length_nil,r4]
  repeat' apply And.intro
  all_goals first | omega | (rw [x];exact N)
 .have dX:decide (hX o)=true:=decide_eq_true (by unfold hX;omega);have p:decide (hY o)=true:=decide_eq_true (by unfold hY;omega);have m:decide (evO o)=false:=decide_eq_false (by unfold evO;omega);have g:=f.x1 (by unfold hX;omega);have B:=f.y1 (by unfold hY;omega);have u1:=g.2.1;have u2:=B.2.1;have C:=g.1;have w2:=B.1;obtain⟨d1,d2,d3⟩:=(U9 s.t o.k _ _ O a0 P).2;have d4:=(so.d c).ok;have N:At t d (i.toNat+1) s.ld s.inn (tDo s.t o.k (xOf s o) (yOf s o)).1 (V.set i.toNat (tDo s.t o.k (xOf s o) (yOf s o)).2) s.evs s.regs:=nxt (H ah) (D ah) (by unfold nT;rw [if_pos c]) (by unfold nV;rw [if_neg ah,if_neg ah,if_pos c]) (E0 (by unfold evO;omega)) (J ah);simp (disch:=omega) only [RR,RB,r,q,v,A,dX,p,m,c,Int.reduceEq,length_cons,length_nil,Z (by unfold hX;omega),ey (by unfold hY;omega),(U9 s.t o.k _ _ O a0 P).1,d1,d2,d3,d4]
  repeat' apply And.intro
  all_goals first | omega | (rw [x];exact N)
 .have dX:decide (hX o)=true:=decide_eq_true (by unfold hX;omega);have p:decide (hY o)=false:=decide_eq_false (by unfold hY;omega);have m:decide (evO o)=true:=decide_eq_true (by unfold evO;omega);have g:=f.x1 (by unfold hX;omega);have u1:=g.2.1;have C:=g.1;have I:aOf s o=⟨2,s.ld,[],[]⟩:=by unfold aOf;rw [if_pos c]
  have W:=so.p (Or.inl c);rw [I]at W;have N:At t d (i.toNat+1) (s.ld+1) s.inn (bC s.t ⟨2,s.ld,[],[]⟩).1 (V.set i.toNat (gZ (bC s.t ⟨2,s.ld,[],[]⟩).2)) (s.evs++ [⟨4,o.at_,xOf s o,[],s.regs⟩]) s.regs:=nxt (by rw [if_pos c]) (D ah) (by unfold nT;rw [if_neg ah,if_pos (Or.inl c),I]) (by unfold nV;rw [if_neg ah,if_neg ah,if_neg ah,if_pos (Or.inl c),I]) (by unfold nE;rw [if_pos (by unfold evO;omega),if_pos (Or.inl c),c,y0 (by unfold hY;omega)]) (J ah);simp (disch:=omega) only [RR,RB,r,q,v,A,dX,p,m,c,Int.reduceEq,length_cons,length_nil,Z (by unfold hX;omega),Y s.regs ah ah,(G 2 s.ld s.t false O).1,P0 2 s.ld W]
  repeat' apply And.intro
  all_goals first | omega | (rw [x];exact N)
 .have dX:decide (hX o)=true:=decide_eq_true (by unfold hX;omega);have p:decide (hY o)=true:=decide_eq_true (by unfold hY;omega);have m:decide (evO o)=true:=decide_eq_true (by unfold evO;omega);have g:=f.x1 (by unfold hX;omega);have B:=f.y1 (by unfold hY;omega);have u1:=g.2.1;have u2:=B.2.1;have C:=g.1;have w2:=B.1;have N:At t d (i.toNat+1) s.ld s.inn s.t V (s.evs++ [⟨5,o.at_,xOf s o,yOf s o,s.regs⟩]) s.regs:=nxt (H ah) (D ah) (Q ah ah ah) (V0 ah) (by unfold nE;rw [if_pos (by unfold evO;omega),if_pos (Or.inr c),c]) (J ah);simp (disch:=omega) only [RR,RB,r,q,v,A,dX,p,m,c,Int.reduceEq,length_cons,length_nil,Z (by unfold hX;omega),ey (by unfold hY;omega),Y s.regs ah ah]
  repeat' apply And.intro
  all_goals first | omega | (rw [x];exact N)
 .have dX:decide (hX o)=false:=decide_eq_false (by unfold hX;omega);have p:decide (hY o)=false:=decide_eq_false (by unfold hY;omega);have m:decide (evO o)=true:=decide_eq_true (by unfold evO;omega);have I:aOf s o=⟨3,s.inn,[],[]⟩:=by unfold aOf;rw [if_neg ah]
  have W:=so.p (Or.inr c);rw [I]at W;have N:At t d (i.toNat+1) s.ld (s.inn+1) (bC s.t ⟨3,s.inn,[],[]⟩).1 (V.set i.toNat (gZ (bC s.t ⟨3,s.inn,[],[]⟩).2)) (s.evs++ [⟨6,o.at_,[],[],[]⟩]) s.regs:=nxt (H ah) (by rw [if_pos c]) (by unfold nT;rw [if_neg ah,if_pos (Or.inr c),I]) (by unfold nV;rw [if_neg ah,if_neg ah,if_neg ah,if_pos (Or.inr c),I]) (by unfold nE;rw [if_pos (by unfold evO;omega),if_neg ah,c,x0 (by unfold hX;omega),y0 (by unfold hY;omega)]) (J ah);simp (disch:=omega) only [RR,RB,r,q,v,A,dX,p,m,c,Int.reduceEq,length_cons,length_nil,(G 3 s.inn s.t false O).1,P0 3 s.inn W]
  repeat' apply And.intro
  all_goals first | omega | (rw [x];exact N)
 .have dX:decide (hX o)=true:=decide_eq_true (by unfold hX;omega);have p:decide (hY o)=false:=decide_eq_false (by unfold hY;omega);have m:decide (evO o)=true:=decide_eq_true (by unfold evO;omega);have g:=f.x1 (by unfold hX;omega);have u1:=g.2.1;have C:=g.1;have N:At t d (i.toNat+1) s.ld s.inn s.t V (s.evs++ [⟨7,o.at_,xOf s o,[],[]⟩]) s.regs:=nxt (H ah) (D ah) (Q ah ah ah) (V0 ah) (by unfold nE;rw [if_pos (by unfold evO;omega),if_neg ah,c,y0 (by unfold hY;omega)]) (J ah);simp (disch:=omega) only [RR,RB,r,q,v,A,dX,p,m,c,Int.reduceEq,length_cons,length_nil,Z (by unfold hX;omega)]
  repeat' apply And.intro
  all_goals first | omega | (rw [x];exact N)
 .have dX:decide (hX o)=true:=decide_eq_true (by unfold hX;omega);have p:decide (hY o)=false:=decide_eq_false (by unfold hY;omega);have m:decide (evO o)=false:=decide_eq_false (by unfold evO;omega);have g:=f.x1 (by unfold hX;omega);have u1:=g.2.1;have C:=g.1;have k2:=f.k2 (Or.inr c);have N:At t d (i.toNat+1) s.ld s.inn s.t V s.evs (s.regs.set o.k.toNat (xOf s o)):=nxt (H ah) (D ah) (Q ah ah ah) (V0 ah) (E0 (by unfold evO;omega)) (by unfold nR;rw [if_pos c]);simp (disch:=omega) only [RR,RB,r,q,v,A,dX,p,m,c,Int.reduceEq,length_cons,length_nil,Z (by unfold hX;omega),r4]
  repeat' apply And.intro
  all_goals first | omega | (rw [x];exact N)
end Go.TX.F
namespace Go.TX.F
open Go Go.AE Go.TX List
abbrev Y63(a : Ins × Unit -> Bool)(b : Ins × Unit -> Bool × Unit) : Prop := ∀ i, a (i, ()) = true
def KB(l:List Ins):Prop:=∀i∈l,i.k<1000
variable{e:Int×l7->Int×l7}{b:List Int}
structure InD(m:Int)(b:List Int)(p:Int)(y:Int×Int×Int×Int×l7):Prop where
 b:y.2.2.2.2.1=b
 lo:p<=y.2.2.2.2.2.1
 hi:y.2.2.2.2.2.1<=p+m
 k:0<=y.2.2.2.1/\y.2.2.2.1<=255
abbrev anI : List Int -> Prop
 | []=>True
 | x::l=>(0<=x/\x<=255)/\anI l
def P9:∀(l:List Int) (n:Nat),anI l->0<=l.getD n default/\l.getD n default<=255
 | [],n,_=>by simp only [getD_nil];decide
 | x::l,0,h=>h.1
 | x::l,n+1,h=>P9 l n h.2
def pkR(f:Bt b)(a:∀n b p,Bt b->0<=p->p<1000000000->Pk n b p (e (n,b,p,()))):
  (∀n p,0<=p->p<1000000000->(e (n,b,p,())).2.1=b)/\(∀n p,0<=p->p<1000000000->(e (n,b,p,())).2.2.1=p+1)/\
  (∀n p,0<=p->p<1000000000->(0<=(e (n,b,p,())).1)=True)/\(∀n p k,0<=p->p<1000000000->n<=k->0<k->((e (n,b,p,())).1<k)=True)/\
  (∀n p k,0<=p->p<1000000000->n<=k+1->0<=k->((e (n,b,p,())).1<=k)=True):=
 ⟨λn p d c=>(a n b p f d c).1,λn p d c=>(a n b p f d c).2.1,λn p d c=>eq_true (a n b p f d c).2.2.1,
  λn p k d c h g=>eq_true (by have:=(a n b p f d c).2.2;omega),λn p k d c h g=>eq_true (by have:=(a n b p f d c).2.2;omega)⟩
def pkS{a:Int×l7->Bool}(c:Bt b)(U:∀n b p,Bt b->0<=p->p<1000000000->a (n,b,p,())=true/\Pk n b p (e (n,b,p,()))):=pkR c λn b p f d g=>(U n b p f d g).2
def anJ{p1 f1}(e:Y38 p1 f1)(b:List Int)(p:Int)(a:Bt b)(d:0<=p)(c:p<900000000):SA.F (p1,f1,()) (b,p,()) (λy=>InD 20 b p y):=by
 have R:=pkS a e;have P:=λn p d c=>(e n b p a d c).1
 dsimp only [SA,gm];simp (disch:=omega) only [RR,R,P,length_cons,length_nil]
 repeat' (first | (refine⟨?_,?_⟩) | intro _)
 all_goals try omega
 all_goals refine⟨rfl,by dsimp only;omega,by dsimp only;omega,?_⟩
 all_goals dsimp only
 all_goals first | omega | (refine P9 _ _ ?_;simp (disch:=omega) only [anI,R,Int.reduceLE,and_self,true_and,and_true]) | (simp (disch:=omega) only [R,Int.reduceLE,and_self,true_and,and_true])
abbrev Y70(c : List Int × Int × Unit -> Bool)(a : List Int × Int × Unit -> Int × Int × Int × Int × List Int × Int × Unit) : Prop := ∀ b p, Bt b -> 0 <= p -> p < 900000000 -> c (b, p, ()) = true /\ InD 20 b p (a (b, p, ()))
def anK{p1 f1 p2 f2 p3 f3}(f:Y70 p1 f1)(e:Y38 p2 f2)(j:Y63 p3 f3)(b:List Int)(p:Int)(a:Bt b)(c:0<=p)(d:p<800000000):SB.F (p1,f1,p2,f2,p3,f3,()) (b,p,()) (λy=>InD 30 b p y):=by
 obtain⟨h,i,k,g⟩:=(f b p a c ah).2;have R:=pkS a e;have P:=λn p c d=>(e n b p a c d).1
 dsimp only [SB,gm];simp (disch:=omega) only [RR,(f b p a c ah).1,j,h,R,P];refine⟨λ_=>⟨rfl,by dsimp only;omega,by dsimp only;omega,?_⟩,λ_=>⟨rfl,i,by dsimp only;omega,g⟩⟩;dsimp only;simp (disch:=omega) only [R,Int.reduceLE,and_self]
structure LiD(b:List Int)(p:Int)(y:lX):Prop where
 b:y.1=b
 lo:p<=y.2.1
 hi:y.2.1<=p+1000
 len:(y.2.2.1.length:Int)<=20
 k:KB y.2.2.1
 l1:1<=y.2.2.1.length
def KB.app{l:List Ins}{i:Ins}(h:KB l)(b:i.k<=255):KB (l++ [i]):=λx a=>by
 rw [mem_append,mem_singleton]at a;rcases a with a | rfl
 .exact h x a
 .omega
abbrev Y71(c : List Int × Int × Unit -> Bool)(a : List Int × Int × Unit -> Int × Int × Int × Int × List Int × Int × Unit) : Prop := ∀ b p, Bt b -> 0 <= p -> p < 800000000 -> c (b, p, ()) = true /\ InD 30 b p (a (b, p, ()))
def anL{p1 f1 p2 f2}(g:Y71 p1 f1)(e:Y38 p2 f2)(b:List Int)(p:Int)(a:Bt b)(h:0<=p)(i:p<700000000):Xe.F (p1,f1,p2,f2,()) (b,p,()) (λy=>LiD b p y):=by
 obtain⟨r,v,s,w⟩:=(e 8 b p a h ah).2;dsimp only [Xe,gm];simp (disch:=omega) only [RR,(e 8 b p a h ah).1,r,v]
 refine au (λ(y:Int×lX)=>0<=y.1/\y.1<=8/\y.2.1=b/\p<=y.2.2.1/\y.2.2.1+40*y.1<=p+400/\(y.2.2.2.1.length:Int)+y.1<=8/\KB y.2.2.2.1) (λy=>y.1.toNat)
  ⟨s,by dsimp only;omega,rfl,by dsimp only;omega,by dsimp only;omega,by dsimp only [length_nil];omega,λx u=>by cases u⟩ ?_
 rintro⟨(k:Int),(d:List Int),(q:Int),(l:List Ins),⟨⟩⟩ hI;dsimp only at hI ⊢;obtain⟨F,E,rfl,k3,B,C,f⟩:=hI;have R:=pkS a e;have P:=λn p h i=>(e n d p a h i).1
 obtain⟨t,D,A,m⟩:=(g d q a ah ah).2;obtain⟨j,z,G,o⟩:=(g d (q+1) a ah ah).2;simp (disch:=omega) only [RR,RB,(g d q a ah ah).1,(g d (q+1) a ah ah).1,t,j,R,P,length_cons,length_nil,length_append];refine⟨λc=>⟨ah,⟨ah,ah,ah,ah,ah,f.app m.2⟩,ah⟩,λc=>⟨λ_=>⟨ah,rfl,by dsimp only;omega,by dsimp only;omega,?_,?_,?_⟩,λ_=>⟨λ_=>⟨ah,rfl,by dsimp only;omega,by dsimp only;omega,?_,?_,?_⟩,λ_=>⟨ah,rfl,by dsimp only;omega,by dsimp only;omega,?_,?_,?_⟩⟩⟩⟩
 .dsimp only;rw [length_append];simp only [length_cons,length_nil];omega
 .refine f.app ?_;dsimp only;simp (disch:=omega) only [R]
 .dsimp only;rw [length_append];simp only [length_cons,length_nil];omega
 .dsimp only;rw [length_append];simp only [length_cons,length_nil];omega
 .exact f.app (by dsimp only;omega)
 .dsimp only;rw [length_append];simp only [length_cons,length_nil];omega
 .dsimp only;rw [length_append];simp only [length_cons,length_nil];omega
 .exact f.app o.2
 .dsimp only;rw [length_append];simp only [length_cons,length_nil];omega
end Go.TX.F
namespace Go.TX.F
open Go Go.AE Go.TX List
variable{α:Type}{k:Nat}
def anM(b:Blk)(a:b.ops.length<1000000):Wj.F () (b,()) (λy=>y=(b.pc,b.len,b.fin,b.x,b.y,b.k,b.ops,())):=by
 dsimp only [Wj,gm];simp (disch:=omega) only [RR,RB,nil_append,length_nil];omega
def kn(a:List IOp)(k:Int):Int×Bool:=if 0<=k/\k<a.length/\(((a).getD (k).toNat default)).kind=1 then((((a).getD (k).toNat default)).k,true)else(0,false)
abbrev bk7(b : Blk) : Int × Int × Int × Int × Int × Int × List IOp × Unit := (b.pc, b.len, b.fin, b.x, b.y, b.k, b.ops, ())
structure FE(b:Blk):Prop where
 f:1<=b.fin/\b.fin<=4
 x:b.fin≠1->0<=b.x/\b.x<b.ops.length
 y:3<=b.fin->0<=b.y/\b.y<b.ops.length
 y0:b.fin<=2->b.y=0
 p:0<=b.pc/\b.pc<=100/\0<=b.len/\b.len<=100
def anN(a:List IOp)(k:Int):WE.F () (a,k,()) (λy=>y=((kn a k).1,(kn a k).2,())):=by
 dsimp only [WE,gm];simp (disch:=omega) only [RR,RB];unfold kn;refine⟨ah,ah,λh=> ?_,λh=>⟨ah,ah,?_⟩⟩
 .rw [if_neg ah]
 .rw [if_pos ah]
def anO(b:Blk)(k:Int):WG.F () (b,k,()) (λy=>y=(b.pc,b.len,b.ops,1,0,0,k,())):=by
 dsimp only [WG,gm];simp (disch:=omega) only [RR,RB]
abbrev Y72(c : List IOp × Int × Unit -> Bool)(b : List IOp × Int × Unit -> Int × Bool × Unit) : Prop := ∀ a k, c (a, k, ()) = true /\ b (a, k, ()) = ((kn a k).1, (kn a k).2, ())
theorem anP{p2 f2}{j:Blk×dY->Bool}{r:Blk×dY->Int×Int×List IOp×Int×Int×ni}(v:∀b k,j (b,k,())=true/\r (b,k,())=(b.pc,b.len,b.ops,1,0,0,k,()))(u:Y72 p2 f2)(b:Blk)(h:FE b):WH.F (j,r,p2,f2,()) (b,()) (λy=>y=(fcB b b.ops,())):=by
 have B:=h.p;have C:=h.f;have A:b.fin≠1->kn b.ops b.x=if(((b.ops).getD (b.x).toNat default)).kind=1 then((((b.ops).getD (b.x).toNat default)).k,true)else(0,false):=λc=>by
  have:=h.x c;unfold kn;simp only [this,true_and]
 have z:3<=b.fin->kn b.ops b.y=if(((b.ops).getD (b.y).toNat default)).kind=1 then((((b.ops).getD (b.y).toNat default)).k,true)else(0,false):=λc=>by
  have:=h.y c;unfold kn;simp only [this,true_and]
 have w:=h.y0;have a:∀p l o f x y k,Co.mk .blk (p,l,o,f,x,y,k,())=Blk.mk p l o f x y k:=λ_ _ _ _ _ _ _=>rfl
 dsimp only [WH,gm];simp (disch:=omega) only [RR,RB,v,u,a,Bool.and_eq_false_iff];by_cases t:b.fin=1
 .have e:fcB b b.ops=b:=by unfold fcB;rw [if_neg ah,if_neg ah]
  rw [e];refine⟨λh=>absurd h.1 ah,λ_=>⟨λh=>absurd h.1.1.1 ah,λ_=>⟨λh=>absurd h.1.1.1 ah,λ_=>⟨λh=>absurd h.1.1 ah,λ_=>rfl⟩⟩⟩⟩
 .rw [A t];by_cases i:b.fin=2
  .by_cases d:(((b.ops).getD (b.x).toNat default)).kind=1
   .have e:fcB b b.ops=⟨b.pc,b.len,b.ops,1,0,0,(((b.ops).getD (b.x).toNat default)).k⟩:=by unfold fcB;rw [if_pos ⟨i,d⟩,w ah]
    rw [if_pos d,e];refine⟨λ_=>rfl,λh=> ?_⟩;rcases h with h | h
    .exact absurd i h
    .cases h
   .have e:fcB b b.ops=b:=by unfold fcB;rw [if_neg (λg=>d g.2),if_neg ah]
    rw [if_neg d,e];refine⟨λh=>absurd h.2 (by decide),λ_=>⟨λh=>absurd h.1.1.1 ah,λ_=>⟨λh=>absurd h.1.1.1 ah,λ_=>⟨λh=>absurd h.1.1 ah,λ_=>rfl⟩⟩⟩⟩
  .rw [z ah];refine⟨λh=>absurd h.1 i,λ_=> ?_⟩;by_cases d:(((b.ops).getD (b.x).toNat default)).kind=1/\(((b.ops).getD (b.y).toNat default)).kind=1
   .have e:fcB b b.ops=⟨b.pc,b.len,b.ops,1,0,0,if b.fin=3/\(((b.ops).getD (b.x).toNat default)).k=(((b.ops).getD (b.y).toNat default)).k\/b.fin=4/\(((b.ops).getD (b.x).toNat default)).k< (((b.ops).getD (b.y).toNat default)).k then b.k else b.pc+b.len⟩:=by
     unfold fcB;rw [if_neg ah,if_pos ⟨ah,d⟩]
    rw [if_pos d.1,if_pos d.2,e];dsimp only;simp only [and_true,Bool.true_eq_false,or_false,Prod.mk.injEq,Blk.mk.injEq,true_and];refine⟨λh=>⟨λ_=>by rw [if_pos (Or.inl h)],λg=>by omega⟩,λh=>⟨λg=>by rw [if_pos (Or.inr g)],λg=>⟨λ_=>by rw [if_neg ah],λq=>by omega⟩⟩⟩
   .have e:fcB b b.ops=b:=by unfold fcB;rw [if_neg ah,if_neg (λg=>d g.2)]
    rw [e];have n:¬((if(((b.ops).getD (b.x).toNat default)).kind=1 then((((b.ops).getD (b.x).toNat default)).k,true)else((0:Int),false)).2=true/\(if(((b.ops).getD (b.y).toNat default)).kind=1 then((((b.ops).getD (b.y).toNat default)).k,true)else((0:Int),false)).2=true):=λ⟨s,m⟩=>by
     split at s
     .split at m
      .exact d ⟨by assumption,by assumption⟩
      .cases m
     .cases s
    exact⟨λh=>absurd ⟨h.1.1.2,h.1.2⟩ n,λ_=>⟨λh=>absurd ⟨h.1.1.2,h.1.2⟩ n,λ_=>⟨λh=>absurd ⟨h.1.2,h.2⟩ n,λ_=>rfl⟩⟩⟩
def anQ{p1 f1}(f:Y1 p1 f1)(o:IOp)(al:List Int)(hk:1<=o.kind/\o.kind<=8)(b:hX o->0<=o.x/\o.x< (al.length:Int))(a:hY o->0<=o.y/\o.y< (al.length:Int)):Wv.F (p1,f1,()) (o,al,()) (λy=>y=(ren al o,())):=by
 dsimp only [Wv,gm];simp (disch:=omega) only [RR,RB,f,bD,jF];have X:((3<=o.kind/\o.kind<=5)\/o.kind=7)\/o.kind=8->hX o:=λc=>by unfold hX;omega
 have e:(¬(3<=o.kind/\o.kind<=5)/\¬o.kind=7)/\¬o.kind=8->¬hX o:=λc g=>by unfold hX at g;omega
 unfold ren;refine⟨λc=>⟨(b (X c)).1,(b (X c)).2,λd=>⟨(a d).1,(a d).2,?_⟩,λd=> ?_⟩,λc=>⟨λd=>⟨(a d).1,(a d).2,?_⟩,λd=> ?_⟩⟩
 .rw [if_pos (X c),if_pos (show hY o from d)]
 .rw [if_pos (X c),if_neg (show¬hY o from λg=>g.elim d.1 d.2)]
 .rw [if_neg (e c),if_pos (show hY o from d)]
 .rw [if_neg (e c),if_neg (show¬hY o from λg=>g.elim d.1 d.2)]
def anR(a:List IOp)(k:Int)(i:0<=k)(o:k<a.length)(m:(a.length:Int)<1000000):WA.F () (a,k,()) (λy=>y=(jI (a.drop (k.toNat+1)) (((a).getD (k).toNat default)).k,())):=by
 dsimp only [WA,gm];simp (disch:=omega) only [RR,RB];refine au (λ(y:List IOp×ni)=>y.1=a/\y.2.1=k/\0<=y.2.2.1/\y.2.2.1<=a.length/\jI (a.drop (k.toNat+1)) (((a).getD (k).toNat default)).k=jI (a.drop y.2.2.1.toNat) (((a).getD (k).toNat default)).k) (λy=>((a.length:Int)-y.2.2.1).toNat) ⟨rfl,rfl,by dsimp only;omega,by dsimp only;omega,by dsimp only;rw [show(k+1).toNat=k.toNat+1 by omega]⟩ ?_;rintro⟨(l:List IOp),(b:Int),(j:Int),⟨⟩⟩ hI;dsimp only at hI ⊢;obtain⟨rfl,rfl,f,n,g⟩:=hI;rw [g];simp (disch:=omega) only [RR,RB,Bool.and_eq_false_iff];have e:j<l.length->jI (l.drop j.toNat) (((l).getD (b).toNat default)).k=if(((l).getD (j).toNat default)).kind=4\/(((l).getD (j).toNat default)).kind=5\/(((l).getD (j).toNat default)).kind=2/\(((l).getD (j).toNat default)).k=(((l).getD (b).toNat default)).k then false else if(((l).getD (j).toNat default)).kind=8/\(((l).getD (j).toNat default)).k=(((l).getD (b).toNat default)).k then true else jI (l.drop (j+1).toNat) (((l).getD (b).toNat default)).k:=λh=>by
  rw [drop_eq_getElem_cons (show j.toNat<l.length by omega),Hu,<-getD_lt (d:=default) (show j.toNat<l.length by omega),show(j+1).toNat=j.toNat+1 by omega]
 refine⟨λh=>⟨f,h,ah,ah,ah,ah,ah,ah,ah,ah,λc=> ?_,λc=>⟨f,h,ah,ah,ah,ah,λd=> ?_,λd=>⟨⟨ah,ah,?_⟩,ah⟩⟩⟩,λh=> ?_⟩
 .rw [e h,if_pos ah]
 .rw [e h,if_neg ah,if_pos ah]
 .rw [e h,if_neg ah,if_neg ah]
 .rw [drop_of_length_le ah];rfl
abbrev Y73(c : Blk × Unit -> Bool)(a : Blk × Unit -> Blk × Unit) : Prop := ∀ b, b.ops.length < 1000000 -> c (b, ()) = true /\ a (b, ()) = (dJ b, ())
abbrev Y74(c : Blk × Unit -> Bool)(a : Blk × Unit -> Int × Int × Int × Int × Int × Int × List IOp × Unit) : Prop := ∀ b, b.ops.length < 1000000 -> c (b, ()) = true /\ a (b, ()) = bk7 (bO b)
abbrev Y75(c : Blk × Unit -> Bool)(a : Blk × Unit -> Int × Int × Int × Int × Int × Int × List IOp × Unit) : Prop := ∀ b, b.ops.length < 1000000 -> c (b, ()) = true /\ a (b, ()) = bk7 (iA b)
abbrev Y76(c : Blk × Unit -> Bool)(a : Blk × Unit -> Int × Int × Int × Int × Int × Int × List IOp × Unit) : Prop := ∀ b, b.ops.length < 1000000 -> c (b, ()) = true /\ a (b, ()) = bk7 (jR b)
theorem anS{p1 f1 p2 f2 p3 f3 p4 f4}(l:Y73 p1 f1)(j:Y74 p2 f2)(f:Y75 p3 f3)(k:Y76 p4 f4)(b:Blk)(e:b.ops.length<1000000):WJ.F (p1,f1,p2,f2,p3,f3,p4,f4,()) (b,()) (λy=>y=bk7 (kV b)):=by
 have h:(bO b).ops.length<1000000:=Nat.lt_of_le_of_lt (uj b) e;have d:=Nat.lt_of_le_of_lt (wZ (bO b)) h;have g:=Nat.lt_of_le_of_lt (uh (dJ (bO b))) d;have i:=Nat.lt_of_le_of_lt (Ah (iA (dJ (bO b)))) g;have a:∀c:Blk,Co.mk .blk (c.pc,c.len,c.ops,c.fin,c.x,c.y,c.k,())=c:=λ_=>rfl
 dsimp only [WJ,gm];simp (disch:=omega) only [RR,j b e,a,l _ h,f _ d,k _ g,f _ i];rfl
def M5{d:α}{f l:List α}(a:f.length=k)(h:k<l.length):(f++l.drop k).getD k d=l.getD k d:=by
 rw [getD_lt (by rw [length_append,length_drop];omega),getD_lt h,getElem_append_right ah,getElem_drop];simp only [a,Nat.sub_self,Nat.add_zero]
def afo{d:α}{f l:List α}{k j:Nat}(a:f.length=k)(h:j<k):(f++l.drop k).getD j d=f.getD j d:=by
 rw [getD_lt (by rw [length_append];omega),getD_lt ah,getElem_append_left]
def yM{x:α}{f l:List α}(a:f.length=k)(h:k<l.length):(f++l.drop k).set k x=(f++ [x])++l.drop (k+1):=by
 rw [set_append_right _ _ ah,a,Nat.sub_self,drop_eq_getElem_cons h,set_cons_zero,append_assoc];rfl
def Hw{d:α}{f l:List α}(h:k<l.length):f++l.drop k=(f++ [l.getD k d])++l.drop (k+1):=by
 rw [drop_eq_getElem_cons h,getD_lt h,append_assoc];rfl
def yN{f l:List α}(a:f.length=k)(h:k<=l.length):(f++l.drop k).length=l.length:=by
 rw [length_append,a,length_drop];omega
def bR.fe{b:Blk}(ok:bR b){f:List IOp}(h:f.length=b.ops.length):FE ⟨b.pc,b.len,f,b.fin,b.x,b.y,b.k⟩:=by
 have a:=ok.en;have e:=ok.pc;have d:=ok.ln;exact⟨a.f,λc=>⟨(a.x1 c).1,by dsimp only;rw [h];exact(a.x1 c).2.1⟩,λc=>⟨(a.y1 c).1,by dsimp only;rw [h];exact(a.y1 c).2.1⟩,a.y0,by dsimp only;omega⟩
abbrev Y77(c : Blk × Unit -> Bool)(a : Blk × Unit -> Int × Int × Int × Int × Int × Int × List IOp × Unit) : Prop := ∀ b, b.ops.length < 1000000 -> c (b, ()) = true /\ a (b, ()) = (b.pc, b.len, b.fin, b.x, b.y, b.k, b.ops, ())
theorem anT{p1 f1 p2 f2 p4 f4 p5 f5}{s:zx->Bool}{t:zx->zx}(D:Y60 p1 f1)(z:Y24 p2 f2)(u:∀b,FE b->s (b,())=true/\t (b,())=(fcB b b.ops,()))(J:Y72 p4 f4)(E:Y77 p5 f5)(b:Blk)(C:b.ops.length<1000000):WI.F (p1,f1,p2,f2,s,t,p4,f4,p5,f5,()) (b,()) (λy=>y=(dJ b,())):=by
 have i:∀p l o f x y k,Co.mk .blk (p,l,o,f,x,y,k,())=Blk.mk p l o f x y k:=λ_ _ _ _ _ _ _=>rfl
 dsimp only [WI,gm];simp (disch:=omega) only [RR,RB,D b ah,E b C,i];refine⟨λh=>by unfold dJ;rw [h,if_neg (by decide)];rfl,λh=> ?_⟩;have ok:=aH.1 h;rw [BA ok];refine au (λ(y:Int×oz)=>0<=y.1/\y.1<=b.ops.length/\y.2.2.2.2.2.2.2=(b.pc,b.len,b.fin,b.x,b.y,b.k,fc b.ops y.1.toNat++b.ops.drop y.1.toNat,())) (λy=>((b.ops.length:Int)-y.1).toNat) ⟨by dsimp only;omega,by dsimp only;omega,rfl⟩ ?_;rintro⟨(k:Int),u1,u2,u3,u4,u5,u6,b1,b2,b3,b4,b5,b6,(w:List IOp),⟨⟩⟩ hI;dsimp only at hI ⊢;simp only [Prod.mk.injEq,and_true]at hI;obtain⟨j,L,rfl,rfl,rfl,rfl,rfl,rfl,rfl⟩:=hI;have n:=mg b.ops k.toNat;have B:=yN (l:=b.ops) n ah;simp (disch:=omega) only [RR,RB,J,z,B,i];refine⟨λh=> ?_,λh=> ?_⟩
 .have o:=ok.op k j h;have F:=M5 (d:=default) (l:=b.ops) n ah;have m:∀x:Int,Vl b.ops x k->kn (fc b.ops k.toNat++b.ops.drop k.toNat) x=if((((fc b.ops k.toNat)).getD (x).toNat default)).kind=1 then(((((fc b.ops k.toNat)).getD (x).toNat default)).k,true)else(0,false):=λx v=>by
   have H:=v.1;have K:=v.2.1;unfold kn;rw [afo n ah];simp only [show 0<=x/\x< ((fc b.ops k.toNat++b.ops.drop k.toNat).length:Int)from⟨H,ah⟩,true_and]
  have G:fc b.ops (k+1).toNat=fc b.ops k.toNat++ [fcO (fc b.ops k.toNat) ((b.ops).getD (k).toNat default)]:=by rw [show(k+1).toNat=k.toNat+1 by omega];rfl
  rw [F];have hk:=Hw (d:=default) (f:=fc b.ops k.toNat) (l:=b.ops) (k:=k.toNat) ah;have A:=λx=>yM (x:=x) (l:=b.ops) n ah
  rw [G,show(k+1).toNat=k.toNat+1 by omega];generalize ((b.ops).getD (k).toNat default)=q at o hk ⊢;have vx:=λc=>o.x1 c
  have vy:=λc=>o.y1 c
  refine⟨j,h,j,h,λc=>⟨j,h,j,h,⟨ah,ah,?_⟩,ah⟩,λc=>⟨⟨ah,ah,?_⟩,ah⟩⟩
  .have k1:=m _ (o.x1 (by unfold hX;omega));have I:=m _ (o.y1 (Or.inl c.1.1));rw [k1,I]at c ⊢;by_cases g:((((fc b.ops k.toNat)).getD (q.x).toNat default)).kind=1
   .by_cases a:((((fc b.ops k.toNat)).getD (q.y).toNat default)).kind=1
    .rw [if_pos g,if_pos a,A];have e:fcO (fc b.ops k.toNat) q=⟨1,0,0,wdo q.k ((((fc b.ops k.toNat)).getD (q.x).toNat default)).k ((((fc b.ops k.toNat)).getD (q.y).toNat default)).k,0⟩:=by unfold fcO;rw [if_pos ⟨c.1.1,g,a⟩]
     rw [e]
    .rw [if_neg a]at c;exact absurd c.2 (by decide)
   .rw [if_neg g]at c;exact absurd c.1.2 (by decide)
  .have e:fcO (fc b.ops k.toNat) q=q:=by
    unfold fcO;refine if_neg ?_;rintro⟨r,g,a⟩;rw [m _ (o.x1 (by unfold hX;omega)),m _ (o.y1 (Or.inl r)),if_pos g,if_pos a,decide_eq_true r]at c;cases c
   rw [e,hk]
 .have e:fc b.ops k.toNat++b.ops.drop k.toNat=fc b.ops b.ops.length:=by rw [drop_of_length_le ah,append_nil,show k.toNat=b.ops.length by omega]
  rw [e];have fe:=ok.fe (mg b.ops b.ops.length);rw [(u _ fe).2];exact⟨(u _ fe).1,rfl⟩
def afp{a b:List Bool}(h:a.length=b.length)(g:∀t:Nat,t<a.length->(a.getD t default=true↔b.getD t default=true)):a=b:=by
 refine ext_getElem h λi c d=> ?_
 have:=g i c;rw [getD_lt c,getD_lt d]at this;exact Bool.eq_iff_iff.2 this
theorem anU{p1 f1 p2 f2}(J:Y60 p1 f1)(F:Y1 p2 f2)(b:Blk)(T:b.ops.length<1000000):Wy.F (p1,f1,p2,f2,()) (b,()) (λy=>y=(EP b,())):=by
 dsimp only [Wy,gm];simp (disch:=omega) only [RR,RB,J b ah];unfold EP;refine⟨λh=>by rw [h,if_neg (by decide)],λh=> ?_⟩;rw [if_pos h];have ok:=aH.1 h;have E:=ok.sz;have H:=ok.en;refine au (λ(y:Int×Blk×Q5)=>0<=y.1/\y.1<=b.ops.length/\y.2.1=b/\(y.2.2.1.length:Int)=y.1/\∀t:Nat,t<y.2.2.1.length->(y.2.2.1.getD t default=true↔4<=(b.ops.getD t default).kind)) (λy=>((b.ops.length:Int)-y.1).toNat) ⟨by dsimp only;omega,by dsimp only;omega,rfl,rfl,λt h=>absurd h (by simp)⟩ ?_;rintro⟨(k:Int),(f:Blk),(v:List Bool),⟨⟩⟩ hI;dsimp only at hI ⊢;obtain⟨N,W,rfl,Q,A⟩:=hI;simp (disch:=omega) only [RR,RB,length_append,length_cons,length_nil];refine⟨λh=>⟨N,h,ah,⟨ah,ah,ah,λt l=> ?_⟩,ah⟩,λh=> ?_⟩
 .rw [fJ];rcases(by omega:t<v.length\/t=v.length)with c | c
  .rw [if_pos c];exact A t c
  .rw [if_neg ah,if_pos c,decide_eq_true_eq,c,show k.toNat=v.length by omega]
 have u:¬f.fin=1->0<=f.x/\f.x<v.length:=λc=>by have:=ok.en.x1 c;exact⟨this.1,by have:=this.2.1;omega⟩
 have w:f.fin=3\/f.fin=4->0<=f.y/\f.y<v.length:=λc=>by have:=ok.en.y1 ah;exact⟨this.1,by have:=this.2.1;omega⟩
 have R:=H.f;have K:=ZV ok;have I:v.length=f.ops.length:=by omega
 rw [I]at A;refine⟨λc=>⟨(u c).1,(u c).2,(u c).1,(u c).2,λn=>⟨(w n).1,by rw [length_set];exact(w n).2,(w n).1,by rw [length_set];exact(w n).2,?_⟩,λn=> ?_⟩,λc=>⟨λn=>absurd n ah,λn=> ?_⟩⟩
 all_goals
  refine au (λ(y:Int×Blk×Q5)=> -1<=y.1/\y.1<f.ops.length/\y.2.1=f/\y.2.2.1.length=f.ops.length/\∀t:Nat,t<f.ops.length->(y.2.2.1.getD t default=true↔(us f (f.ops.length-1-y.1).toNat).getD t default=true\/4<=(f.ops.getD t default).kind)) (λy=>(y.1+1).toNat) ⟨by dsimp only;omega,by dsimp only;omega,rfl,by simp only [length_set];omega,λt l=> ?_⟩ ?_
  .dsimp only;rw [show(f.ops.length-1- ((f.ops.length:Int)-1)).toNat=0 by omega];show _↔(us0 f).getD t default=true\/_;have q:=A t l;have r:=K t
   first
    | (rw [XF (by rw [length_set];have:=w n;omega),XF (by have:=u c;omega),q,r];grind)
    | (rw [XF (by have:=u c;omega),q,r];grind)
    | (rw [q,r];grind)
  rintro⟨(j:Int),(a:Blk),(C:List Bool),⟨⟩⟩ hI;dsimp only at hI ⊢;obtain⟨V,x,rfl,s,p⟩:=hI;simp (disch:=omega) only [RR,RB,F,bD,jF,length_set];have ul:=wY a (a.ops.length-1-j).toNat;have i:0<=j->∀t:Nat,((us a (a.ops.length-1- (j-1)).toNat).getD t default=true↔(us a (a.ops.length-1-j).toNat).getD t default=true\/((us a (a.ops.length-1-j).toNat).getD j.toNat default=true\/4<=(((a.ops).getD (j).toNat default)).kind)/\(t=j.toNat\/hX (((a.ops).getD (j).toNat default))/\t=(((a.ops).getD (j).toNat default)).x.toNat\/hY (((a.ops).getD (j).toNat default))/\t=(((a.ops).getD (j).toNat default)).y.toNat)):=λg t=>by
   have o:=ok.op j g x;rw [show(a.ops.length-1- (j-1)).toNat=(a.ops.length-1-j).toNat+1 by omega];show(usO (a.ops.getD (a.ops.length-1- (a.ops.length-1-j).toNat) default) (a.ops.length-1- (a.ops.length-1-j).toNat) _).getD t default=true↔_;rw [show a.ops.length-1- (a.ops.length-1-j).toNat=j.toNat by omega];exact ZU ah (λc=>by have:=o.x1 c;have z:=this.1;have B:=this.2.1;omega) (λc=>by have:=o.y1 c;have z:=this.1;have B:=this.2.1;omega)
  have D:¬0<=j->(us a (a.ops.length-1-j).toNat)=us a a.ops.length:=λg=>by rw [show(a.ops.length-1-j).toNat=a.ops.length by omega]
  generalize us a (a.ops.length-1-j).toNat=U at i p D;refine⟨λg=> ?_,λg=>congrArg (λm:List Bool=>(m,())) (afp (b:=us a a.ops.length) (by rw [wY];exact s) λt l=> ?_)⟩
  .have o:=ok.op j g x;have X:hX (((a.ops).getD (j).toNat default))->0<=(((a.ops).getD (j).toNat default)).x/\(((a.ops).getD (j).toNat default)).x<C.length:=λc=>by have:=o.x1 c;have z:=this.1;have B:=this.2.1;omega
   have Y:hY (((a.ops).getD (j).toNat default))->0<=(((a.ops).getD (j).toNat default)).y/\(((a.ops).getD (j).toNat default)).y<C.length:=λc=>by have:=o.y1 c;have z:=this.1;have B:=this.2.1;omega
   have i:=i g;have O:=p j.toNat ah;have Z:=o.kd;generalize ((a.ops).getD (j).toNat default)=q at*;have G:((3<=q.kind/\q.kind<=5)\/q.kind=7)\/q.kind=8↔hX q:=by unfold hX;omega
   have cn:(¬(3<=q.kind/\q.kind<=5)/\¬q.kind=7)/\¬q.kind=8↔¬hX q:=by unfold hX;omega
   have M:q.kind=3\/q.kind=5↔hY q:=Iff.rfl;have L:¬q.kind=3/\¬q.kind=5↔¬hY q:=by unfold hY;omega
   rw [G,cn,M,L];generalize hX q=S at*;generalize hY q=P at*;refine⟨g,x,g,ah,g,ah,λc=>⟨⟨ah,ah,s,λt l=> ?_⟩,ah⟩,λc=>⟨λd=>⟨(X d).1,(X d).2,(X d).1,(X d).2,λe=>⟨(Y e).1,(Y e).2,(Y e).1,(Y e).2,⟨ah,ah,s,λt l=> ?_⟩,ah⟩,λe=>⟨⟨ah,ah,s,λt l=> ?_⟩,ah⟩⟩,λd=>⟨λe=>⟨(Y e).1,(Y e).2,(Y e).1,(Y e).2,⟨ah,ah,s,λt l=> ?_⟩,ah⟩,λe=>⟨⟨ah,ah,s,λt l=> ?_⟩,ah⟩⟩⟩⟩
   .rw [i,p t l];rw [c]at O;grind
   .rw [XF (by rw [length_set];have:=Y e;omega),XF (by have:=X d;omega),i,p t l];grind
   .rw [XF (by have:=X d;omega),i,p t l];grind
   .rw [XF (by have:=Y e;omega),i,p t l];grind
   .rw [i,p t l];grind
  .rw [p t ah,D g];exact⟨λh=>h.elim id ((ako ok).k t (Nat.zero_le _) ah),Or.inl⟩
end Go.TX.F
namespace Go.TX.F
open Go Go.AE Go.TX List
def ajm{a:List IOp}{b:List Bool}{len:Int}{k n:Nat}{o:IOp}(d:nD a len k o)(h:k<n):ren (kpS a b (k+1)).1 o=ren (kpS a b n).1 o:=by
 have p:=(M4 a b (show k+1<=n by omega)).2;have l:=(nM a b (k+1)).1;have e:∀x:Int,Vl a x k->(((kpS a b (k+1)).1).getD (x).toNat default)=(((kpS a b n).1).getD (x).toNat default):=λx v=>by
  have j:=v.1;have i:=v.2.1;exact(MR p ah).symm
 have g:=d.x1;have f:=d.y1;unfold ren
 congr 1
 .split
  .rename_i c;exact e _ (g c)
  .rfl
 .split
  .rename_i c;exact e _ (f c)
  .rfl
abbrev Y78(b : IOp × List Int × Unit -> Bool)(a : IOp × List Int × Unit -> IOp × Unit) : Prop := ∀ o al, (1 <= o.kind /\ o.kind <= 8) -> (hX o -> 0 <= o.x /\ o.x < (al.length : Int)) -> (hY o -> 0 <= o.y /\ o.y < (al.length : Int)) -> b (o, al, ()) = true /\ a (o, al, ()) = (ren al o, ())
theorem anV{p1 f1}(n:Y78 p1 f1)(b:Blk)(i:List Bool)(ok:bR b)(hk:i.length=b.ops.length):Wx.F (p1,f1,()) (b,i,()) (λy=>y=bk7 (jH b i)):=by
 have v:=ok.sz;dsimp only [Wx,gm];simp (disch:=omega) only [RR,RB];refine au (λ(y:List Bool×Int×Blk×Int×Int×Int×Int×Int×Int×List IOp×bf)=>y.1=i/\0<=y.2.1/\y.2.1<=b.ops.length/\y.2.2.1=b/\y.2.2.2.2.2.2.2.2.2.1=(kpS b.ops i y.2.1.toNat).2.map (ren (kpS b.ops i b.ops.length).1)/\y.2.2.2.2.2.2.2.2.2.2.1=(kpS b.ops i y.2.1.toNat).1) (λy=>((b.ops.length:Int)-y.2.1).toNat) ⟨rfl,by dsimp only;omega,by dsimp only;omega,rfl,rfl,rfl⟩ ?_;rintro⟨(d:List Bool),(k:Int),(a:Blk),u1,u2,u3,u4,u5,u6,(out:List IOp),(A:List Int),⟨⟩⟩ hI;dsimp only at hI ⊢;obtain⟨rfl,j,z,rfl,rfl,rfl⟩:=hI;obtain⟨w,q⟩:=nM a.ops d k.toNat;have x:=(nM a.ops d (k+1).toNat).1;have m:(kpS a.ops d (k+1).toNat).1=(kpS a.ops d k.toNat).1++ [((kpS a.ops d k.toNat).2.length:Int)]:=by rw [show(k+1).toNat=k.toNat+1 by omega];rfl
 have r:k<a.ops.length->ren (kpS a.ops d (k+1).toNat).1 ((a.ops).getD (k).toNat default)=ren (kpS a.ops d a.ops.length).1 ((a.ops).getD (k).toNat default):=λh=>by
  rw [show(k+1).toNat=k.toNat+1 by omega];exact ajm (by rw [show((k.toNat:Nat):Int)=k by omega];exact ok.op k j h) ah
 have s:(kpS a.ops d (k+1).toNat).2=if d.getD k.toNat default=true then(kpS a.ops d k.toNat).2++ [((a.ops).getD (k).toNat default)]else(kpS a.ops d k.toNat).2:=by rw [show(k+1).toNat=k.toNat+1 by omega];rfl
 have fin:¬k<a.ops.length->kpS a.ops d k.toNat=kpS a.ops d a.ops.length:=λh=>by rw [show k.toNat=a.ops.length by omega]
 have u:jH a d=M0 (kpS a.ops d a.ops.length).1 a (kpS a.ops d a.ops.length).2:=rfl;rw [u];generalize kpS a.ops d a.ops.length=N at r fin ⊢;generalize t:kpS a.ops d (k+1).toNat=T at x m r s ⊢;generalize kpS a.ops d k.toNat=S at w q m s fin ⊢;have l:=ok.en;have g:¬k<a.ops.length->¬a.fin=1->0<=a.x/\a.x< (S.1.length:Int):=λh c=>by have:=l.x1 c;exact⟨this.1,by have:=this.2.1;omega⟩
 have f:¬k<a.ops.length->a.fin=3\/a.fin=4->0<=a.y/\a.y< (S.1.length:Int):=λh c=>by have:=l.y1 ah;exact⟨this.1,by have:=this.2.1;omega⟩
 simp (disch:=omega) only [RR,RB,length_append,length_cons,length_nil,length_map,nX,<-m];refine⟨λh=> ?_,λh=> ?_⟩
 .have op:=ok.op k j h;have p:hX (((a.ops).getD (k).toNat default))->0<=(((a.ops).getD (k).toNat default)).x/\(((a.ops).getD (k).toNat default)).x< (T.1.length:Int):=λc=>⟨(op.x1 c).1,by have:=(op.x1 c).2.1;omega⟩
  have o:hY (((a.ops).getD (k).toNat default))->0<=(((a.ops).getD (k).toNat default)).y/\(((a.ops).getD (k).toNat default)).y< (T.1.length:Int):=λc=>⟨(op.y1 c).1,by have:=(op.y1 c).2.1;omega⟩
  have P:=(n _ T.1 op.kd p o).1;rw [(n _ T.1 op.kd p o).2,t,s,r h];refine⟨ah,j,ah,λc=>⟨j,h,P,ah,⟨ah,ah,?_⟩,ah⟩,λc=>⟨⟨ah,ah,?_⟩,ah⟩⟩
  .rw [if_pos c,map_append];exact⟨rfl,rfl⟩
  .rw [c,if_neg (by decide)];exact⟨rfl,rfl⟩
 .have g:=g h;have f:=f h;rw [fin h]at g f ⊢;unfold bk7 M0;refine⟨λc=>⟨(g c).1,(g c).2,(g c).1,(g c).2,λe=>⟨(f e).1,(f e).2,(f e).1,(f e).2,?_⟩,λe=> ?_⟩,λc=>⟨λe=>⟨(f e).1,(f e).2,(f e).1,(f e).2,?_⟩,λe=> ?_⟩⟩
  .rw [if_neg c,if_pos ah]
  .rw [if_neg c,if_neg (by have:=l.f;omega)]
  .exact absurd e ah
  .rw [if_pos c,if_neg ah]
abbrev Y79(c : Blk × Unit -> Bool)(a : Blk × Unit -> List Bool × Unit) : Prop := ∀ b, b.ops.length < 1000000 -> c (b, ()) = true /\ a (b, ()) = (EP b, ())
abbrev Y80(d : Blk × List Bool × Unit -> Bool)(c : Blk × List Bool × Unit -> Int × Int × Int × Int × Int × Int × List IOp × Unit) : Prop := ∀ b a, bR b -> a.length = b.ops.length -> d (b, a, ()) = true /\ c (b, a, ()) = bk7 (jH b a)
def anW{p1 f1 p2 f2 p3 f3}(e:Y60 p1 f1)(d:Y79 p2 f2)(a:Y80 p3 f3)(b:Blk)(c:b.ops.length<1000000):Wz.F (p1,f1,p2,f2,p3,f3,()) (b,()) (λy=>y=bk7 (iA b)):=by
 dsimp only [Wz,gm];simp (disch:=omega) only [RR,RB,e b ah,d b c];unfold iA EP;refine⟨λh=>by rw [h,if_neg (by decide)];rfl,λh=> ?_⟩;have ok:=aH.1 h;rw [if_pos h,if_pos h,(a _ _ ok (wY b _)).2];exact⟨(a _ _ ok (wY b _)).1,rfl⟩
def anX{p1 f1 p2 f2}{i:List IOp×dY->Bool}{j:List IOp×dY->mQ}(m:Y60 p1 f1)(f:Y80 p2 f2)(l:∀a k,0<=k->k<a.length->(a.length:Int)<1000000->i (a,k,())=true/\j (a,k,())=(jI (a.drop (k.toNat+1)) (((a).getD (k).toNat default)).k,()))(b:Blk)(o:b.ops.length<1000000):WB.F (p1,f1,p2,f2,i,j,()) (b,()) (λy=>y=bk7 (jR b)):=by
 dsimp only [WB,gm];simp (disch:=omega) only [RR,RB,m b ah];unfold jR;refine⟨λh=>by rw [h,if_neg (by decide)];rfl,λh=> ?_⟩;have ok:=aH.1 h;rw [if_pos h];have g:(eF b.ops).length=b.ops.length:=by unfold eF;rw [length_map,length_range]
 refine au (λ(y:Int×Blk×Int×Int×Int×Int×Int×Int×Q5)=>0<=y.1/\y.1<=b.ops.length/\y.2.1=b/\y.2.2.2.2.2.2.2.2.1=(eF b.ops).take y.1.toNat) (λy=>((b.ops.length:Int)-y.1).toNat) ⟨by dsimp only;omega,by dsimp only;omega,rfl,rfl⟩ ?_;rintro⟨(k:Int),(e:Blk),u1,u2,u3,u4,u5,u6,(q:List Bool),⟨⟩⟩ hI;dsimp only at hI ⊢;obtain⟨c,p,rfl,rfl⟩:=hI;have n:((eF e.ops).take k.toNat).length=k.toNat:=by rw [length_take];omega
 simp (disch:=omega) only [RR,RB,length_append,length_cons,length_nil,n];refine⟨λh=>⟨c,h,Or.inr ((l _ _ c h ah).1),ah,⟨ah,ah,?_⟩,ah⟩,λh=> ?_⟩
 .rw [(l _ _ c h ah).2,show(k+1).toNat=k.toNat+1 by omega,take_succ_eq_append_getElem ah,<-getD_lt (d:=default) (show k.toNat< (eF e.ops).length by omega),yK ah];refine congrArg (λx=>(eF e.ops).take k.toNat++ [x]) ?_;rw [Bool.not_and]
 .rw [take_of_length_le ah,(f _ _ ok g).2];exact⟨(f _ _ ok g).1,rfl⟩
def anY{ops:List IOp}{len:Int}{k n:Nat}{o:IOp}(a:nD ops len k o)(h:k<=n):ren (cpS ops k).1 o=ren (cpS ops n).1 o:=by
 have l:=(uf ops k).1;have e:∀x:Int,Vl ops x k->(((cpS ops k).1).getD (x).toNat default)=(((cpS ops n).1).getD (x).toNat default):=λx v=>by
  have g:=v.1;have f:=v.2.1;exact(Xx ops ah h).symm
 have d:=a.x1;have b:=a.y1;unfold ren
 congr 1
 .split
  .rename_i c;exact e _ (d c)
  .rfl
 .split
  .rename_i c;exact e _ (b c)
  .rfl
theorem anZ{p1 f1 p2 f2 p3 f3}(V:Y60 p1 f1)(M:Y78 p2 f2)(X:Y77 p3 f3)(b:Blk)(Q:b.ops.length<1000000):Ww.F (p1,f1,p2,f2,p3,f3,()) (b,()) (λy=>y=bk7 (bO b)):=by
 dsimp only [Ww,gm];simp (disch:=omega) only [RR,RB,V b ah,X b Q,nX];unfold bO;refine⟨λh=>by rw [h,if_neg (by decide)];rfl,λh=> ?_⟩;have ok:=aH.1 h;rw [if_pos h];have L:=ok.sz;refine au (λ(y:Int×Int×Int×Int×Int×Int×Int×Int×Int×Int×Int×Int×Int×List Int×List Int×F5)=>0<=y.1/\y.1<=b.ops.length/\y.2.2.2.2.2.2.2=(b.pc,b.len,b.fin,b.x,b.y,b.k,(cpS b.ops y.1.toNat).1,(cpS b.ops y.1.toNat).2,(b.ops.take y.1.toNat).map (ren (cpS b.ops b.ops.length).1)++b.ops.drop y.1.toNat,())) (λy=>((b.ops.length:Int)-y.1).toNat) ⟨by dsimp only;omega,by dsimp only;omega,rfl⟩ ?_;rintro⟨(k:Int),u1,u2,u3,u4,u5,u6,b1,b2,b3,b4,b5,b6,(al:List Int),(la:List Int),(ops:List IOp),⟨⟩⟩ hI;dsimp only at hI ⊢;simp only [Prod.mk.injEq,and_true]at hI;obtain⟨I,h2,rfl,rfl,rfl,rfl,rfl,rfl,rfl,rfl,rfl⟩:=hI;obtain⟨l1,l2⟩:=uf b.ops k.toNat;have r:=λh:k<b.ops.length=>anY (ops:=b.ops) (k:=k.toNat) (n:=b.ops.length) (by rw [show((k.toNat:Nat):Int)=k by omega];exact ok.op k I h) ah
 have E:((b.ops.take k.toNat).map (ren (cpS b.ops b.ops.length).1)).length=k.toNat:=by rw [length_map,length_take];omega
 have D:=yN (l:=b.ops) E ah;have H:=λh:k<b.ops.length=>M5 (d:=default) (l:=b.ops) E ah
 have B:=λx (h:k<b.ops.length)=>yM (x:=x) (l:=b.ops) E ah
 have A:=λh:k<b.ops.length=>(bq (d:=default) (l:=b.ops) I h rfl)
 have u:k<b.ops.length->cpS b.ops (k+1).toNat=((cpS b.ops k.toNat).1++ [cpN (cpS b.ops k.toNat) k ((b.ops).getD (k).toNat default)],cpL (cpS b.ops k.toNat) k ((b.ops).getD (k).toNat default)):=λh=>by
  rw [show(k+1).toNat=k.toNat+1 by omega,show k=((k.toNat:Nat):Int) by omega];rfl
 have fin:¬k<b.ops.length->cpS b.ops k.toNat=cpS b.ops b.ops.length:=λh=>by rw [show k.toNat=b.ops.length by omega]
 have C:=ok.en;by_cases h:k<b.ops.length
 .have o:=ok.op k I h;have r:=r h;have H:=H h;have u:=u h;have B:=λx=>B x h
  have A:=A h;have Z:hX (((b.ops).getD (k).toNat default))->0<=(((b.ops).getD (k).toNat default)).x/\(((b.ops).getD (k).toNat default)).x< ((cpS b.ops k.toNat).1.length:Int):=λc=>⟨(o.x1 c).1,by have:=(o.x1 c).2.1;omega⟩
  have W:hY (((b.ops).getD (k).toNat default))->0<=(((b.ops).getD (k).toNat default)).y/\(((b.ops).getD (k).toNat default)).y< ((cpS b.ops k.toNat).1.length:Int):=λc=>⟨(o.y1 c).1,by have:=(o.y1 c).2.1;omega⟩
  obtain⟨P,F⟩:=M _ _ o.kd Z W;have J:=o.k2;have Y:(((b.ops).getD (k).toNat default)).kind=8->(ren (cpS b.ops b.ops.length).1 ((b.ops).getD (k).toNat default)).x=(((cpS b.ops k.toNat).1).getD ((((b.ops).getD (k).toNat default)).x).toNat default):=λc=>by rw [<-r];exact if_pos (by unfold hX;omega)
  rw [r]at F;generalize hN:(cpS b.ops b.ops.length).1=N at*;generalize t:cpS b.ops (k+1).toNat=T at u ⊢;generalize cpS b.ops k.toNat=S at*;simp (disch:=omega) only [RR,RB,D,H,P,F,B,length_append,length_cons,length_nil,length_set,nX,h];generalize hq:((b.ops).getD (k).toNat default)=q at*;have j:(ren N q).kind=q.kind:=rfl;have f:(ren N q).k=q.k:=rfl;generalize K:ren N q=R at*;have G:∀v w,v=cpN S k q->w=cpL S k q->(b.pc,b.len,b.fin,b.x,b.y,b.k,S.1++ [v],w,((b.ops.take k.toNat).map (ren N)++ [R])++b.ops.drop (k.toNat+1),())=(b.pc,b.len,b.fin,b.x,b.y,b.k,T.1,T.2,(b.ops.take (k+1).toNat).map (ren N)++b.ops.drop (k+1).toNat,()):=λv w U e2=>by
   rw [u,U,e2,<-A,map_append,show(k+1).toNat=k.toNat+1 by omega,<-K];rfl
  have O:∀i:Int,0<=i->i<S.2.length->S.2.set i.toNat ((S.2).getD (i).toNat default)=S.2:=λi i0 i1=>by rw [getD_lt (show i.toNat<S.2.length by omega),set_getElem_self]
  by_cases a:R.kind=2
  .have kk:=J (Or.inl (j▸a));by_cases m:0<=((S.2).getD (R.k).toNat default)
   .have g:=G (((S.2).getD (R.k).toNat default)) (S.2.set R.k.toNat ((S.2).getD (R.k).toNat default)) (by unfold cpN;rw [<-j,<-f];rw [if_pos ⟨a,m⟩]) (by unfold cpL;rw [<-j,<-f];rw [if_pos a,if_pos m,O _ ah ah]);simp only [a,m,show¬((2:Int)=8) by decide,true_and,and_true,true_implies,false_implies,not_true_eq_false,not_false_eq_true,false_or,decide_true,Bool.and_self,Bool.true_eq_false,t,g];omega
   .have g:=G k (S.2.set R.k.toNat k) (by unfold cpN;rw [<-j,<-f];rw [if_neg (λq=>m q.2)]) (by unfold cpL;rw [<-j,<-f];rw [if_pos a,if_neg m]);simp only [a,m,show¬((2:Int)=8) by decide,true_and,and_true,and_false,true_implies,false_implies,not_true_eq_false,not_false_eq_true,false_or,decide_true,decide_false,Bool.and_false,t,g];omega
  .by_cases c8:R.kind=8
   .have kk:=J (Or.inr (j▸c8));have g:=G k (S.2.set R.k.toNat ((S.1).getD (q.x).toNat default)) (by unfold cpN;rw [<-j,<-f];rw [if_neg (λq=>a q.1)]) (by unfold cpL;rw [<-j,<-f];rw [if_neg a,if_pos c8]);rw [<-Y (j▸c8)]at g;simp only [c8,show¬((8:Int)=2) by decide,false_and,true_and,and_true,and_false,true_implies,false_implies,not_true_eq_false,not_false_eq_true,true_or,decide_false,Bool.false_and,t,g];omega
   .have g:=G k S.2 (by unfold cpN;rw [<-j,<-f];rw [if_neg (λq=>a q.1)]) (by unfold cpL;rw [<-j,<-f];rw [if_neg a,if_neg c8]);simp only [a,c8,false_and,true_and,and_true,and_false,true_implies,false_implies,not_true_eq_false,not_false_eq_true,true_or,decide_false,Bool.false_and,t,g];omega
 .have e:=fin h;have s:¬b.fin=1->0<=b.x/\b.x< ((cpS b.ops k.toNat).1.length:Int):=λc=>by have:=C.x1 c;exact⟨this.1,by have:=this.2.1;omega⟩
  have p:b.fin=3\/b.fin=4->0<=b.y/\b.y< ((cpS b.ops k.toNat).1.length:Int):=λc=>by have:=C.y1 ah;exact⟨this.1,by have:=this.2.1;omega⟩
  have ff:=C.f;have z:(b.ops.take k.toNat).map (ren (cpS b.ops b.ops.length).1)++b.ops.drop k.toNat=b.ops.map (ren (cpS b.ops b.ops.length).1):=by rw [take_of_length_le ah,drop_of_length_le ah,append_nil]
  have D:(b.ops.map (ren (cpS b.ops b.ops.length).1)).length=b.ops.length:=length_map _;rw [z];rw [e]at s p ⊢;unfold bk7 M0;generalize (cpS b.ops b.ops.length).1=N at*;simp (disch:=omega) only [RR,RB,D,h];refine⟨λc=>⟨(s c).1,(s c).2,(s c).1,(s c).2,λa=>⟨(p a).1,(p a).2,(p a).1,(p a).2,?_⟩,λa=> ?_⟩,λc=>⟨λa=>absurd a ah,λa=> ?_⟩⟩
  .rw [if_neg c,if_pos ah]
  .rw [if_neg c,if_neg ah]
  .rw [if_pos c,if_neg ah]
structure BkD(m:Int)(n:Nat)(b:List Int)(p:Int)(y:avM):Prop where
 b:y.2.2.2.2.2.2.1=b
 lo:p<=y.2.2.2.2.2.2.2.1
 hi:y.2.2.2.2.2.2.2.1<=p+m
 len:y.2.2.2.2.2.2.2.2.1.length<=n
abbrev Y81(c : Blk × Unit -> Bool)(a : Blk × Unit -> Int × Int × Int × Int × Int × Int × List IOp × Unit) : Prop := ∀ b, b.ops.length < 1000000 -> c (b, ()) = true /\ a (b, ()) = bk7 (kV b)
abbrev Y82(c : List Int × Int × Unit -> Bool)(a : List Int × Int × Unit -> List Int × Int × List Ins × Unit) : Prop := ∀ b p, Bt b -> 0 <= p -> p < 700000000 -> c (b, p, ()) = true /\ LiD b p (a (b, p, ()))
def an0{p2 f2 p3 f3 p4 f4 p5 f5}{C:Int×avL->Bool}{x:Int×avL->ak}(F:∀g l,(l.length:Int)<1000->KB l->C (g,l,())=true/\((x (g,l,())).2.2.2.2.2.2.1.length:Int)<=5000)(D:Y81 p2 f2)(H:Y74 p3 f3)(J:Y38 p4 f4)(I:Y82 p5 f5)(b:List Int)(p:Int)(o:Bt b)(q:0<=p)(E:p<600000000):Xf.F (C,x,p2,f2,p3,f3,p4,f4,p5,f5,()) (b,p,()) (λy=>BkD 2000 5000 b p y):=by
 have t:=λa d f e=>(F a d f e).1
 have B:=λa d f e=>(F a d f e).2
 have r:=λa d=>(D a d).1
 have k:=λa d=>(D a d).2
 have v:=λa d=>(H a d).1
 have i:=λa d=>(H a d).2
 have w:=λa d f e m u=>(J a d f e m u).1
 have s:=λa d f e m u=>(J a d f e m u).2
 have A:=λa d f e m=>(I a d f e m).1
 have z:=λa d f e m=>(I a d f e m).2
 replace k:=λc h=>show(f2 (c,())).2.2.2.2.2.2.1.length<=c.ops.length by rw [k c h];exact Dc c
 replace i:=λc h=>show(f3 (c,())).2.2.2.2.2.2.1.length<=c.ops.length by rw [i c h];exact uj c
 obtain⟨Q,U,T,S,G⟩:=z b p o q ah;have R:=pkR o s;have P:=λn p q E=>w n b p o q E
 have L:=λg=>B g _ (show((f5 (b,p,())).2.2.1.length:Int)<1000 by omega) G
 have K:=λc (h:c.ops.length<=5000)=>r c ah
 have N:=λc (h:c.ops.length<=5000)=>k c ah
 have M:=λc (h:c.ops.length<=5000)=>v c ah
 have O:=λc (h:c.ops.length<=5000)=>i c ah
 dsimp only [Xf,gm];simp (disch:=omega) only [RR,A b p o q ah,Q,R,P,t _ _ (show((f5 (b,p,())).2.2.1.length:Int)<1000 by omega) G,length_cons,length_nil];have j:∀g,(x (g,(f5 (b,p,())).2.2.1,())).2.2.2.2.2.2.1.length<=5000:=λg=>by have:=L g;omega
 refine⟨λ_=>⟨K _ (j _),rfl,by dsimp only;omega,by dsimp only;omega,Nat.le_trans (N _ (j _)) (j _)⟩,λ_=>⟨λ_=>⟨M _ (j _),rfl,by dsimp only;omega,by dsimp only;omega,Nat.le_trans (O _ (j _)) (j _)⟩,λ_=>⟨rfl,by dsimp only;omega,by dsimp only;omega,j _⟩⟩⟩
def an1{p1 f1 p2 f2}(g:Y38 p1 f1)(o:Y77 p2 f2)(c:Blk)(b:List Int)(p:Int)(ok:bR c)(hc:c.ops.length<1000000)(d:Bt b)(i:0<=p)(f:p<600000000):Xi.F (p1,f1,p2,f2,()) (c,b,p,()) (λy=>BkD 1000000 c.ops.length b p y):=by
 dsimp only [Xi,gm];simp (disch:=omega) only [RR,RB,o c hc];refine au (λ(y:Int×List Int×Int×oz)=>0<=y.1/\y.1<=c.ops.length/\y.2.1=b/\p<=y.2.2.1/\y.2.2.1<=p+y.1/\y.2.2.2.2.2.2.2.2.2.2.2.2.2.2.2.1.length=c.ops.length/\∀j:Int,y.1<=j->((y.2.2.2.2.2.2.2.2.2.2.2.2.2.2.2.1).getD (j).toNat default)=((c.ops).getD (j).toNat default)) (λy=>((c.ops.length:Int)-y.1).toNat) ⟨by dsimp only;omega,by dsimp only;omega,rfl,by dsimp only;omega,by dsimp only;omega,rfl,λ_ _=>rfl⟩ ?_;rintro⟨(k:Int),(t:List Int),(q:Int),u1,u2,u3,u4,u5,u6,b1,b2,b3,b4,b5,b6,(m:List IOp),⟨⟩⟩ hI;dsimp only at hI ⊢;obtain⟨s,z,rfl,k3,w,r,a⟩:=hI;have e:=a k (Int.le_refl _);have R:=pkS d g;have P:=λn p i f=>(g n t p d i f).1
 simp (disch:=omega) only [RR,RB,e,R,P,length_set,Bool.and_eq_false_iff];refine⟨λh=> ?_,λh=>⟨rfl,k3,by dsimp only;omega,Nat.le_of_eq r⟩⟩;have x:((c.ops).getD (k).toNat default).kind=3->0<=((c.ops).getD (k).toNat default).y/\((c.ops).getD (k).toNat default).y<k:=λl=>by have:=(ok.op k s ah).y1 (Or.inl l);exact⟨this.1,this.2.1⟩
 have S:∀(X:List IOp) v (j:Int),k+1<=j->(X.set k.toNat v).getD j.toNat default=X.getD j.toNat default:=λX v j u=>by
  simp only [getD,getElem?_set_ne (show k.toNat≠j.toNat by omega)]
 repeat' (first | (refine⟨?_,?_⟩) | intro _)
 all_goals first | omega | rfl | exact a _ ah | (simp (disch:=omega) only [S];exact a _ ah)
def an2{p1 f1 p2 f2}(e:Y38 p1 f1)(g:Y77 p2 f2)(c:Blk)(b:List Int)(p:Int)(hc:c.ops.length<1000000)(a:Bt b)(d:0<=p)(f:p<900000000):MC.F (p1,f1,p2,f2,()) (c,b,p,()) (λy=>BkD 20 c.ops.length b p y/\y.1=c.pc):=by
 have R:=pkS a e;have P:=λn p d f=>(e n b p a d f).1
 by_cases z:(c.ops.length:Int)=0
 .dsimp only [MC,gm];simp (disch:=omega) only [RR,RB,g c hc,z];exact⟨rfl,by dsimp only;omega,by dsimp only;omega,Nat.le_refl _⟩
 have B:=((e c.ops.length b p a d ah).2).2.2;have W:IntKind.i64.wrap ((f1 (c.ops.length,b,p,())).1-1)=(f1 (c.ops.length,b,p,())).1-1:=w64 ah ah;dsimp only [MC,gm];simp (disch:=omega) only [RR,RB,g c hc,R,P,z,length_set,W]
 repeat' (first | (refine And.intro ?_ ?_) | intro _)
 all_goals first | omega | exact⟨rfl,by dsimp only;omega,by dsimp only;omega,by dsimp only [ae0];simp only [length_set,length_take,length_drop];omega⟩ | exact⟨rfl,by dsimp only;omega,by dsimp only;omega,by simp only [length_drop,length_take];omega⟩ | exact⟨rfl,by dsimp only;omega,by dsimp only;omega,Nat.le_refl _⟩ | rfl
structure BoD(b:List Int)(p:Int)(y:Blk×l7):Prop where
 len:y.1.ops.length<100000
 b:y.2.1=b
 lo:p<=y.2.2.1
 hi:y.2.2.1<=p+5000
abbrev Y83(d : Blk × List Int × Int × Unit -> Bool)(a : Blk × List Int × Int × Unit -> Int × Int × Int × Int × Int × Int × List Int × Int × List IOp × Unit) : Prop := ∀ c b p, c.ops.length < 1000000 -> Bt b -> 0 <= p -> p < 900000000 -> d (c, b, p, ()) = true /\ BkD 20 c.ops.length b p (a (c, b, p, ())) /\ (a (c, b, p, ())).1 = c.pc
abbrev Y84(c : List Int × Int × Unit -> Bool)(a : List Int × Int × Unit -> Int × Int × Int × Int × Int × Int × List Int × Int × List IOp × Unit) : Prop := ∀ b p, Bt b -> 0 <= p -> p < 600000000 -> c (b, p, ()) = true /\ BkD 2000 5000 b p (a (b, p, ()))
abbrev Y86(a : Blk × List Int × Int × Unit -> Bool)(d : Blk × List Int × Int × Unit -> Int × Int × Int × Int × Int × Int × List Int × Int × List IOp × Unit) : Prop := ∀ c b p, bR c -> c.ops.length < 1000000 -> Bt b -> 0 <= p -> p < 600000000 -> a (c, b, p, ()) = true /\ BkD 1000000 c.ops.length b p (d (c, b, p, ()))
abbrev Y88(d : List (List aj) × List (List aj) × Unit -> Bool)(c : List (List aj) × List (List aj) × Unit -> Bool × Unit) : Prop := ∀ a b, ShP a -> d (a, b, ()) = true /\ c (a, b, ()) = (bp (a = b), ())
abbrev Y89(c : List Atom × Blk × Unit -> Bool)(a : List Atom × Blk × Unit -> List Atom × Sym × Unit) : Prop := ∀ t b, ShT t -> b.ops.length < 1000000000 -> c (t, b, ()) = true /\ a (t, b, ()) = ((bF t b).1, (bF t b).2, ())
theorem akp(x y:IOp):aqQ .iop x y=decide (x=y):=rfl
def w9{P:Prop}[Decidable P]:decide P=bp P:=by unfold bp;congr
def an3(a b:List IOp)(o:a.length<1000000000):TG.F () (a,b,()) (λy=>y=(bp (a=b),())):=by
 dsimp only [TG,gm];simp (disch:=omega) only [RR];refine⟨λh=> ?_,λh=> ?_⟩
 .rw [aV (λe=>h (by rw [e]))]
 have g:a.length=b.length:=by omega
 refine au (λ(y:List IOp×List IOp×ni)=>y.1=a/\y.2.1=b/\y.2.2.1=a.length/\0<=y.2.2.2.1/\y.2.2.2.1<=a.length/\All y.2.2.2.1 (λi=>a.getD i.toNat default=b.getD i.toNat default)) (λy=>(a.length-y.2.2.2.1).toNat) ⟨rfl,rfl,rfl,by simp,by simp,All.zero⟩ ?_;rintro⟨(l:List IOp),(j:List IOp),(n:Int),(i:Int),⟨⟩⟩ hI;dsimp only at hI ⊢;obtain⟨rfl,rfl,rfl,m,k,d⟩:=hI;simp (disch:=omega) only [RR,akp];refine⟨λf=>⟨ah,ah,ah,ah,λc=> ?_,λc=>⟨⟨ah,ah,d.snoc c⟩,ah⟩⟩,λf=> ?_⟩
 .rw [aV];intro e;rw [e]at c;exact c rfl
 .rw [aL (oL g (d.le ah))]
abbrev Y92(d : List IOp × List IOp × Unit -> Bool)(c : List IOp × List IOp × Unit -> Bool × Unit) : Prop := ∀ a b, a.length < 1000000000 -> d (a, b, ()) = true /\ c (a, b, ()) = (bp (a = b), ())
def asN{p1 f1}(d:Y92 p1 f1)(a b:Blk)(c:a.ops.length<1000000000):aeb.F (p1,f1,()) (a,b,()) (λy=>y=(bp (a=b),())):=by
 dsimp only [aeb,gm];simp (disch:=omega) only [RR,RB,d _ _ c];simp only [w9,<-iU];refine Prod.ext (kQ ?_) rfl;cases a;cases b;simp only [Blk.mk.injEq];constructor<;>(intro h;simp only [h,and_self])
def an4{p1 f1}(d:Y14 p1 f1)(a b:List aj)(c:Sh a):Uu.F (p1,f1,()) (a,b,()) (λy=>y=(decide (iV a b=0),())):=by
 dsimp only [Uu,gm];simp (disch:=omega) only [RR,d _ _ c]
def an5{p1 f1}(j:Y14 p1 f1)(a b:List (List aj))(g:ShP a):Uv.F (p1,f1,()) (a,b,()) (λy=>y=(bp (a=b),())):=by
 have f:=g.1;dsimp only [Uv,gm];simp (disch:=omega) only [RR];refine⟨λh=> ?_,λh=> ?_⟩
 .rw [aV (λe=>h (by rw [e]))]
 have l:a.length=b.length:=by omega
 refine au (λ(y:List (List aj)×List (List aj)×ni)=>y.1=b/\y.2.1=a/\y.2.2.1=a.length/\0<=y.2.2.2.1/\y.2.2.2.1<=a.length/\All y.2.2.2.1 (λi=>a.getD i.toNat default=b.getD i.toNat default)) (λy=>(a.length-y.2.2.2.1).toNat) ⟨rfl,rfl,rfl,by simp,by simp,All.zero⟩ ?_;rintro⟨(p:List (List aj)),(m:List (List aj)),(n:Int),(i:Int),⟨⟩⟩ hI;dsimp only at hI ⊢;obtain⟨rfl,rfl,rfl,q,o,d⟩:=hI;simp (disch:=omega) only [RR,j _ _ (g.at _),jk];refine⟨λk=>⟨ah,ah,ah,ah,λc=> ?_,λc=>⟨⟨ah,ah,d.snoc c⟩,ah⟩⟩,λk=> ?_⟩
 .rw [aV];intro e;rw [e]at c;exact c rfl
 .rw [aL (oL l (d.le ah))]
def an6{p1 f1}(d:Y88 p1 f1)(a b:List (List aj))(c:ShP a):Uw.F (p1,f1,()) (a,b,()) (λy=>y=(bp (a=b),())):=by
 dsimp only [Uw,gm];simp (disch:=omega) only [RR,d _ _ c]
def asO{p1 f1 p2 f2}(d:Y14 p1 f1)(e:Y88 p2 f2)(a b:Ev)(c:ShE a):aeC.F (p1,f1,p2,f2,()) (a,b,()) (λy=>y=(bp (a=b),())):=by
 dsimp only [aeC,gm];simp (disch:=omega) only [RR,RB,d _ _ c.1,d _ _ c.2.1,e _ _ c.2.2,jk];simp only [w9,<-iU];refine Prod.ext (kQ ?_) rfl;cases a;cases b;simp only [Ev.mk.injEq];constructor<;>(intro h;simp only [h,and_self])
abbrev Y93(d : Ev × Ev × Unit -> Bool)(c : Ev × Ev × Unit -> Bool × Unit) : Prop := ∀ a b, ShE a -> d (a, b, ()) = true /\ c (a, b, ()) = (bp (a = b), ())
def an7{p1 f1}(l:Y93 p1 f1)(a b:List Ev)(d:afi a):Ux.F (p1,f1,()) (a,b,()) (λy=>y=(bp (a=b),())):=by
 have f:=d.1;dsimp only [Ux,gm];simp (disch:=omega) only [RR];refine⟨λh=> ?_,λh=> ?_⟩
 .rw [aV (λe=>h (by rw [e]))]
 have k:a.length=b.length:=by omega
 refine au (λ(y:List Ev×List Ev×ni)=>y.1=b/\y.2.1=a/\y.2.2.1=a.length/\0<=y.2.2.2.1/\y.2.2.2.1<=a.length/\All y.2.2.2.1 (λi=>a.getD i.toNat default=b.getD i.toNat default)) (λy=>(a.length-y.2.2.2.1).toNat) ⟨rfl,rfl,rfl,by simp,by simp,All.zero⟩ ?_;rintro⟨(p:List Ev),(m:List Ev),(n:Int),(i:Int),⟨⟩⟩ hI;dsimp only at hI ⊢;obtain⟨rfl,rfl,rfl,q,o,g⟩:=hI;simp (disch:=omega) only [RR,l _ _ (d.at _),aH,iE];refine⟨λj=>⟨ah,ah,ah,ah,λc=> ?_,λc=>⟨⟨ah,ah,g.snoc c⟩,ah⟩⟩,λj=> ?_⟩
 .rw [aV];intro e;rw [e]at c;exact c rfl
 .rw [aL (oL k (g.le ah))]
def asP{p1 f1 p2 f2}{e:List Ev×List Ev×Unit->Bool}{d:List Ev×List Ev×Unit->mQ}(f:Y14 p1 f1)(i:Y88 p2 f2)(g:∀b a,afi b->e (b,a,())=true/\d (b,a,())=(bp (b=a),()))(a b:Sym)(c:ShY a):aeD.F (p1,f1,p2,f2,e,d,()) (a,b,()) (λy=>y=(bp (a=b),())):=by
 dsimp only [aeD,gm];simp (disch:=omega) only [RR,RB,f _ _ c.x,f _ _ c.y,i _ _ c.r,g _ _ c.e,jk];simp only [w9,<-iU];refine Prod.ext (kQ ?_) rfl;cases a;cases b;simp only [Sym.mk.injEq];constructor<;>(intro h;simp only [h,and_self])
abbrev Y94(d : Blk × Blk × Unit -> Bool)(c : Blk × Blk × Unit -> Bool × Unit) : Prop := ∀ a b, a.ops.length < 1000000000 -> d (a, b, ()) = true /\ c (a, b, ()) = (bp (a = b), ())
abbrev Y95(d : Sym × Sym × Unit -> Bool)(c : Sym × Sym × Unit -> Bool × Unit) : Prop := ∀ a b, ShY a -> d (a, b, ()) = true /\ c (a, b, ()) = (bp (a = b), ())
def asQ{p1 f1 p2 f2 p4 f4 p5 f5}{f:Unit->Bool}{j:Unit->List Atom×fE}(i:Y60 p1 f1)(k:Y94 p2 f2)(m:f ()=true/\(j ()).1=t4)(d:Y89 p4 f4)(n:Y95 p5 f5)(b c:Blk)(a:b.ops.length<1000000000)(hc:c.ops.length<1000000000):aeE.F (p1,f1,p2,f2,f,j,p4,f4,p5,f5,()) (b,c,()) (λy=>y=(chk b c,())):=by
 have l:ShT t4:=ZR.1.sh;have y1:=Bz t4 b;dsimp only [aeE,gm];simp (disch:=omega) only [RR,RB,i b a,i c hc,k b c a,m,d t4 b l a,d _ c y1.2 hc,n _ _ y1.1,aH,iE];unfold chk;refine⟨λh=> ?_,λh=>⟨λe=> ?_,λe=> ?_⟩⟩
 .rw [aV];rintro⟨r,p,o,q,_⟩;simp_all
 .rw [aL];exact⟨h.1.1.1,h.1.1.2,h.1.2,h.2,Or.inl e⟩
 .refine Prod.ext (kQ ?_) rfl;exact⟨λg=>⟨h.1.1.1,h.1.1.2,h.1.2,h.2,Or.inr g⟩,λg=>g.2.2.2.2.resolve_left e⟩
abbrev Y96(d : Blk × Blk × Unit -> Bool)(a : Blk × Blk × Unit -> Bool × Unit) : Prop := ∀ b c, b.ops.length < 1000000000 -> c.ops.length < 1000000000 -> d (b, c, ()) = true /\ a (b, c, ()) = (chk b c, ())
theorem mkB(p l o f x y k):Co.mk .blk (p,l,o,f,x,y,k,())=Blk.mk p l o f x y k:=rfl
structure ajn(nm:List Int)(fin x y:Int)(ops:List IOp):Prop where
 op:∀i:Int,0<=i->i<ops.length->(hX ((ops).getD (i).toNat default)->0<=(((ops).getD (i).toNat default)).x/\(((ops).getD (i).toNat default)).x<nm.length)/\(hY ((ops).getD (i).toNat default)->0<=(((ops).getD (i).toNat default)).y/\(((ops).getD (i).toNat default)).y<nm.length)
 x:fin≠1->0<=x/\x<nm.length
 y:3<=fin->0<=y/\y<nm.length
 l:ops.length<1000000000
def asR(b:Blk)(a:b.ops.length<1000000000):ad2.F () (b,()) (λy=>y=bk7 b):=by
 dsimp only [ad2,gm];simp (disch:=omega) only [RR,RB];omega
def asS(i d e b c f g:Int)(a:List IOp)(h:0<=i/\i<a.length):aeV.F () (i,d,e,b,c,f,g,a,()) (λy=>y=(decide ((((a).getD (i).toNat default)).kind=1),d,e,b,c,f,g,a,())):=by
 dsimp only [aeV,gm];simp (disch:=omega) only [RR,RB];omega
def asT{p1 f1 p2 f2}(J:Y54 p1 f1)(C:Y53 p2 f2)(nm:List Int)(u len fin x y k:Int)(a:List IOp)(h:ajn nm fin x y a):aeQ.F (p1,f1,p2,f2,()) (nm,u,len,fin,x,y,k,a,()) (λz=>z=(u,len,fin,(if fin=1 then x else((nm).getD (x).toNat default)),(if 3<=fin then((nm).getD (y).toNat default)else y),k,a.map (ren nm),())):=by
 have N:=h.l;dsimp only [aeQ,gm];simp (disch:=omega) only [RR,RB];refine au (λ(z:List Int×El)=>z.1=nm/\z.2.1=a.length/\0<=z.2.2.1/\z.2.2.1<=a.length/\z.2.2.2=(u,len,fin,x,y,k,(a.take z.2.2.1.toNat).map (ren nm)++a.drop z.2.2.1.toNat,())) (λz=>((a.length:Int)-z.2.2.1).toNat) ⟨rfl,rfl,by dsimp only;omega,by dsimp only;omega,rfl⟩ ?_;rintro⟨(g:List Int),(n:Int),(i:Int),(s:Int),(p:Int),(b:Int),(v:Int),(B:Int),(w:Int),(A:List IOp),⟨⟩⟩ hI;dsimp only at hI ⊢;simp only [Prod.mk.injEq,and_true]at hI;obtain⟨rfl,rfl,j,M,rfl,rfl,rfl,rfl,rfl,rfl,rfl⟩:=hI;have m:((a.take i.toNat).map (ren g)).length=i.toNat:=by rw [length_map,length_take];omega
 have F:=yN (l:=a) m ah;by_cases c:i<a.length
 .obtain⟨ox,oy⟩:=h.op i j c;have K:=M5 (d:=default) (l:=a) m ah;have E:=λq=>yM (x:=q) (l:=a) m ah
  have mk:=Hw (d:=default) (f:=(a.take i.toNat).map (ren g)) (l:=a) (k:=i.toNat) ah;have D:=bq (d:=default) (l:=a) j c rfl;have L:∀q:IOp,(((a.take i.toNat).map (ren g)++ [q])++a.drop (i.toNat+1)).getD i.toNat default=q:=λq=>by
   rw [getD_lt (by rw [length_append,length_append,m];simp only [length_cons,length_nil];omega),getElem_append_left (by rw [length_append,m];simp),getElem_append_right ah];simp only [m,Nat.sub_self,getElem_cons_zero]
  have I:∀q r:IOp,(((a.take i.toNat).map (ren g)++ [q])++a.drop (i.toNat+1)).set i.toNat r=((a.take i.toNat).map (ren g)++ [r])++a.drop (i.toNat+1):=λq r=>by
   rw [set_append_left _ _ (by rw [length_append,m];simp),set_append_right _ _ ah,m,Nat.sub_self];rfl
  have H:∀q:IOp,(((a.take i.toNat).map (ren g)++ [q])++a.drop (i.toNat+1)).length=a.length:=λq=>by
   rw [length_append,length_append,m,length_drop];simp only [length_cons,length_nil];omega
  rw [mk]at K F E ⊢;generalize ((a).getD (i).toNat default)=o at*;simp (disch:=omega) only [RR,RB,C,L,I,H,c];have G:∀q:IOp,q=ren g o->(s,p,b,v,B,w,(a.take i.toNat).map (ren g)++ [q]++a.drop (i.toNat+1),())=(s,p,b,v,B,w,(a.take (i+1).toNat).map (ren g)++a.drop (i+1).toNat,()):=λq e=>by
   rw [e,<-D,map_append,show(i+1).toNat=i.toNat+1 by omega];rfl
  refine⟨j,j,λd=>⟨(ox d).1,(ox d).2,j,j,λe=>⟨(oy e).1,(oy e).2,j,j,⟨ah,ah,G _ ?_⟩,ah⟩,λe=>⟨⟨ah,ah,G _ ?_⟩,ah⟩⟩,λd=>⟨λe=>⟨(oy e).1,(oy e).2,j,j,⟨ah,ah,G _ ?_⟩,ah⟩,λe=>⟨⟨ah,ah,G _ ?_⟩,ah⟩⟩⟩
  all_goals unfold ren
  .rw [if_pos d,if_pos e]
  .rw [if_pos d,if_neg e]
  .rw [if_neg d,if_pos e]
  .rw [if_neg d,if_neg e]
 .have hx:=h.x;have t:=h.y;have z:(a.take i.toNat).map (ren g)++a.drop i.toNat=a.map (ren g):=by rw [take_of_length_le ah,drop_of_length_le ah,append_nil]
  rw [z];simp (disch:=omega) only [RR,RB,J,c,mkB];refine⟨λd=>⟨(hx d).1,(hx d).2,λe=>⟨(t e).1,(t e).2,?_⟩,λe=> ?_⟩,λd=>⟨λe=>⟨(t e).1,(t e).2,?_⟩,λe=> ?_⟩⟩
  .rw [if_neg (show¬b=1 from d),if_pos (show 3<=b from e)]
  .rw [if_neg (show¬b=1 from d),if_neg (show¬3<=b from e)]
  .rw [if_pos (show b=1 from Classical.byContradiction d),if_pos (show 3<=b from e)]
  .rw [if_pos (show b=1 from Classical.byContradiction d),if_neg (show¬3<=b from e)]
abbrev Y98(b : List Int × Int × Int × Int × Int × Int × Int × List IOp × Unit -> Bool)(a : List Int × Int × Int × Int × Int × Int × Int × List IOp × Unit -> Int × Int × Int × Int × Int × Int × List IOp × Unit) : Prop := ∀ (nm : List Int) pc len fin x y k ops, ajn nm fin x y ops -> b (nm, pc, len, fin, x, y, k, ops, ()) = true /\ a (nm, pc, len, fin, x, y, k, ops, ()) = (pc, len, fin, (if fin = 1 then x else ((nm).getD (x).toNat default)), (if 3 <= fin then ((nm).getD (y).toNat default) else y), k, ops.map (ren nm), ())
theorem asU{p1 f1}(E:Y98 p1 f1)(b:Blk)(g:List Bool)(ok:bR b)(hk:g.length=b.ops.length):aeR.F (p1,f1,()) (b,g,()) (λy=>y=bk7 (jH b g)):=by
 have C:=ok.sz;dsimp only [aeR,gm];simp (disch:=omega) only [RR,RB];refine⟨ah,ah,au (λ(y:List Bool×List IOp×Int×Int×Int×Int×Int×Int×Int×Int×List Int×ak)=>y.1=g/\y.2.1=b.ops/\y.2.2.1=b.ops.length/\0<=y.2.2.2.1/\y.2.2.2.1<=b.ops.length/\y.2.2.2.2.2.2.2.2.2.2=((kpS b.ops g y.2.2.2.1.toNat).1++(replicate b.ops.length (0:Int)).drop y.2.2.2.1.toNat,b.pc,b.len,b.fin,b.x,b.y,b.k,(kpS b.ops g y.2.2.2.1.toNat).2,())) (λy=>((b.ops.length:Int)-y.2.2.2.1).toNat) ⟨rfl,rfl,rfl,by dsimp only;omega,by dsimp only;omega,?_⟩ ?_⟩
 .rfl
 rintro⟨(f:List Bool),(B:List IOp),(n:Int),(i:Int),u1,u2,u3,u4,u5,u6,(nm:List Int),(K:Int),(len:Int),(fin:Int),(x:Int),(y:Int),(k:Int),(out:List IOp),⟨⟩⟩ hI;dsimp only at hI ⊢;simp only [Prod.mk.injEq,and_true]at hI;obtain⟨rfl,rfl,rfl,r,L,rfl,rfl,rfl,rfl,rfl,rfl,rfl,rfl⟩:=hI;obtain⟨v,G⟩:=nM b.ops f i.toNat;have u:(replicate b.ops.length (0:Int)).length=b.ops.length:=length_replicate;have D:=yN (l:=replicate b.ops.length (0:Int)) v ah;have s:=λ(q:Int) (h:i<b.ops.length)=>yM (x:=q) (l:=replicate b.ops.length (0:Int)) v ah
 have fin:¬i<b.ops.length->kpS b.ops f i.toNat=kpS b.ops f b.ops.length:=λh=>by rw [show i.toNat=b.ops.length by omega]
 have F:kpS b.ops f (i+1).toNat=((kpS b.ops f i.toNat).1++ [((kpS b.ops f i.toNat).2.length:Int)],if f.getD i.toNat default=true then(kpS b.ops f i.toNat).2++ [((b.ops).getD (i).toNat default)]else(kpS b.ops f i.toNat).2):=by rw [show(i+1).toNat=i.toNat+1 by omega];rfl
 have A:jH b f=M0 (kpS b.ops f b.ops.length).1 b (kpS b.ops f b.ops.length).2:=rfl;have p:=ok.en;by_cases c:i<b.ops.length
 .have s:=λq=>s q c
  generalize w:kpS b.ops f (i+1).toNat=T at*;generalize kpS b.ops f i.toNat=S at*;simp (disch:=omega) only [RR,RB,D,s,c,length_append,length_cons,length_nil,nX];rw [w,F,u,show(i+1).toNat=i.toNat+1 by omega];refine⟨r,r,c,r,c,r,ah,λd=>⟨ah,⟨ah,ah,?_⟩,ah⟩,λd=>⟨⟨ah,ah,?_⟩,ah⟩⟩
  .rw [if_pos d]
  .rw [d,if_neg (by decide)]
 .have e:=fin c;have z:(kpS b.ops f i.toNat).1++(replicate b.ops.length (0:Int)).drop i.toNat=(kpS b.ops f b.ops.length).1:=by
   rw [drop_of_length_le (by rw [u];omega),append_nil,e]
  have R:ajn (kpS b.ops f b.ops.length).1 b.fin b.x b.y (kpS b.ops f b.ops.length).2:=by
   obtain⟨t,H⟩:=nM b.ops f b.ops.length;refine⟨λm I J=> ?_,λd=> ?_,λd=> ?_,ah⟩
   .obtain⟨j,j1,j2,j3⟩:=XC b.ops f (n:=b.ops.length) (m:=m.toNat) ah;have a:=(Hr b.ops f j1 j2).2;rw [j3]at a;rw [a,t];have o:=ok.op j ah ah;rw [show(j:Int).toNat=j from rfl]at o;exact⟨λd=>⟨(o.x1 d).1,by have:=(o.x1 d).2.1;omega⟩,λd=>⟨(o.y1 d).1,by have:=(o.y1 d).2.1;omega⟩⟩
   .rw [t];exact⟨(p.x1 d).1,(p.x1 d).2.1⟩
   .rw [t];exact⟨(p.y1 d).1,(p.y1 d).2.1⟩
  rw [z,e,A];generalize kpS b.ops f b.ops.length=N at*;simp (disch:=omega) only [RR,RB,c,E N.1 b.pc b.len b.fin b.x b.y b.k N.2 R];rfl
abbrev Y99(c : Blk × Unit -> Bool)(a : Blk × Unit -> Int × Int × Int × Int × Int × Int × List IOp × Unit) : Prop := ∀ b, b.ops.length < 1000000000 -> c (b, ()) = true /\ a (b, ()) = bk7 b
theorem asV{p1 f1 p2 f2 p4 f4 p5 f5}{W:Int×ak->Bool}{Y:Int×ak->Bool×ak}(U1:Y99 p1 f1)(U2:Y60 p2 f2)(Z:∀(i Q R L K N O:Int) (p:List IOp),0<=i/\i<p.length->W (i,Q,R,L,K,N,O,p,())=true/\Y (i,Q,R,L,K,N,O,p,())=(decide ((((p).getD (i).toNat default)).kind=1),Q,R,L,K,N,O,p,()))(U4:Y24 p4 f4)(U5:Y59 p5 f5)(b:Blk)(hb:b.ops.length<1000000):aeW.F (p1,f1,p2,f2,W,Y,p4,f4,p5,f5,()) (b,()) (λy=>y=(dJ b,())):=by
 dsimp only [aeW,gm];simp (disch:=omega) only [RR,RB,U1 b ah,U2 b ah,mkB];refine⟨λh=>by unfold dJ;rw [h,if_neg (by decide)];rfl,λh=> ?_⟩;have ok:=aH.1 h;rw [BA ok];have a0:=ok.sz;refine au (λ(y:Int×Int×Blk×oz)=>y.1=b.ops.length/\0<=y.2.1/\y.2.1<=b.ops.length/\y.2.2.1=b/\y.2.2.2.2.2.2.2.2.2=(b.pc,b.len,b.fin,b.x,b.y,b.k,fc b.ops y.2.1.toNat++b.ops.drop y.2.1.toNat,())) (λy=>((b.ops.length:Int)-y.2.1).toNat) ⟨rfl,by dsimp only;omega,by dsimp only;omega,rfl,rfl⟩ ?_;rintro⟨(n:Int),(k:Int),(a:Blk),u1,u2,u3,u4,u5,u6,b1,b2,b3,b4,b5,b6,(p:List IOp),⟨⟩⟩ hI;dsimp only at hI ⊢;simp only [Prod.mk.injEq,and_true]at hI;obtain⟨rfl,B,V,rfl,rfl,rfl,rfl,rfl,rfl,rfl,rfl⟩:=hI;have G:=mg a.ops k.toNat;have u:=yN (l:=a.ops) G ah;have C:=λj J=>(Z j a.pc a.len a.fin a.x a.y a.k (fc a.ops k.toNat++a.ops.drop k.toNat) J).2
 have t:=λj J=>(Z j a.pc a.len a.fin a.x a.y a.k (fc a.ops k.toNat++a.ops.drop k.toNat) J).1
 by_cases c:k<a.ops.length
 .have o:=ok.op k B c;have ek:=M5 (d:=default) (l:=a.ops) G ah;have T:=λ(j:Int) (j0:0<=j) (j1:j<k)=>afo (d:=default) (l:=a.ops) (j:=j.toNat) G ah
  have nx:fc a.ops (k+1).toNat=fc a.ops k.toNat++ [fcO (fc a.ops k.toNat) ((a.ops).getD (k).toNat default)]:=by rw [show(k+1).toNat=k.toNat+1 by omega];rfl
  have hk:=Hw (d:=default) (f:=fc a.ops k.toNat) (l:=a.ops) (k:=k.toNat) ah;have hs:=λx=>yM (x:=x) (l:=a.ops) G ah
  have X:∀x:Int,Vl a.ops x k->0<=x/\x<k:=λx v=>⟨v.1,v.2.1⟩
  have A:fcO (fc a.ops k.toNat) ((a.ops).getD (k).toNat default)=if(((a.ops).getD (k).toNat default)).kind=3/\((((fc a.ops k.toNat)).getD ((((a.ops).getD (k).toNat default)).x).toNat default)).kind=1/\((((fc a.ops k.toNat)).getD ((((a.ops).getD (k).toNat default)).y).toNat default)).kind=1 then⟨1,0,0,wdo (((a.ops).getD (k).toNat default)).k ((((fc a.ops k.toNat)).getD ((((a.ops).getD (k).toNat default)).x).toNat default)).k ((((fc a.ops k.toNat)).getD ((((a.ops).getD (k).toNat default)).y).toNat default)).k,0⟩else((a.ops).getD (k).toNat default):=rfl
  generalize U:((a.ops).getD (k).toNat default)=q at*;generalize hM:fc a.ops k.toNat++a.ops.drop k.toNat=M at*;by_cases D:q.kind=3
  .have vx:=X _ (o.x1 (by unfold hX;omega));have vy:=X _ (o.y1 (Or.inl D));have m:0<=q.x/\q.x<M.length:=⟨vx.1,ah⟩;have s:0<=q.y/\q.y<M.length:=⟨vy.1,ah⟩;rw [<-T _ vx.1 vx.2,<-T _ vy.1 vy.2]at A;simp (disch:=omega) only [RR,RB,u,ek,U,C _ m,t _ m,C _ s,t _ s,U4,c,D,m,s,decide_true,Bool.true_and];rw [nx,show(k+1).toNat=k.toNat+1 by omega];refine⟨B,B,λd=>⟨λe=>⟨ah,ah,ah,ah,B,B,⟨ah,ah,?_⟩,ah⟩,λe=>⟨⟨ah,ah,?_⟩,ah⟩⟩,λd=>⟨d,⟨ah,ah,?_⟩,ah⟩⟩
   .rw [if_pos ⟨D,e⟩]at A;rw [A,hs]
   .rw [if_neg (by rintro⟨_,F,H⟩;rw [F,H]at e;cases e)]at A;rw [A,hk]
   .rw [if_neg (by rintro⟨_,F,H⟩;exact d F)]at A;rw [A,hk]
  .simp (disch:=omega) only [RR,RB,u,ek,U,c,D];rw [nx,show(k+1).toNat=k.toNat+1 by omega];refine⟨B,B,⟨ah,ah,?_⟩,ah⟩;rw [if_neg (λg=>D g.1)]at A;rw [A,hk]
 .have z:fc a.ops k.toNat++a.ops.drop k.toNat=fc a.ops a.ops.length:=by rw [drop_of_length_le ah,append_nil,show k.toNat=a.ops.length by omega]
  have fe:=ok.fe (mg a.ops a.ops.length);have S:=fe.x;have fy:=fe.y;have hf:=fe.f;have y0:=fe.y0;have hp:=fe.p;dsimp only at S fy hf y0 hp;rw [z]at C t ⊢;have u:=mg a.ops a.ops.length;have fi:=λ(j:Int) B V h3=>((yJ ok [] a.ops.length (Nat.le_refl _)).2.c j B V h3).1
  generalize fc a.ops a.ops.length=M at*;have I:¬(a.fin=2/\(((M).getD (a.x).toNat default)).kind=1)->¬(3<=a.fin/\(((M).getD (a.x).toNat default)).kind=1/\(((M).getD (a.y).toNat default)).kind=1)->fcB a M=⟨a.pc,a.len,M,a.fin,a.x,a.y,a.k⟩:=λF H=>by unfold fcB;rw [if_neg F,if_neg H]
  by_cases P:a.fin=1
  .rw [I ah ah];simp (disch:=omega) only [RR,RB,u,c,show¬a.fin=2 by omega,show¬3<=a.fin by omega,mkB,decide_false];rfl
  .have m:=S P;by_cases r:a.fin=2
   .by_cases d:(((M).getD (a.x).toNat default)).kind=1
    .have e:fcB a M=⟨a.pc,a.len,M,1,0,a.y,(((M).getD (a.x).toNat default)).k⟩:=by unfold fcB;rw [if_pos ⟨r,d⟩]
     rw [e];simp (disch:=omega) only [RR,RB,u,c,eq_true r,eq_true d,mkB,C _ m,t _ m,decide_true,Bool.true_and,Bool.and_true,Bool.and_false];exact⟨m.1,ah,m.1,ah,rfl⟩
    .rw [I ah ah];simp (disch:=omega) only [RR,RB,u,c,eq_true r,d,show¬3<=a.fin by omega,mkB,C _ m,t _ m,decide_true,decide_false,Bool.true_and,Bool.and_true,Bool.and_false];rfl
   .have s:=fy ah;have w:3<=a.fin:=by omega
    by_cases E:(((M).getD (a.x).toNat default)).kind=1
    .by_cases d2:(((M).getD (a.y).toNat default)).kind=1
     .have e:fcB a M=⟨a.pc,a.len,M,1,0,0,if a.fin=3/\(((M).getD (a.x).toNat default)).k=(((M).getD (a.y).toNat default)).k\/a.fin=4/\(((M).getD (a.x).toNat default)).k< (((M).getD (a.y).toNat default)).k then a.k else a.pc+a.len⟩:=by unfold fcB;rw [if_neg ah,if_pos ⟨w,E,d2⟩]
      have r1:=bD.2 (fi a.x m.1 ah E);have r2:=bD.2 (fi a.y s.1 ah d2);rw [e];simp (disch:=omega) only [RR,RB,u,c,r,w,E,d2,mkB,C _ m,t _ m,C _ s,t _ s,U5,r1,r2,decide_true,decide_false,Bool.true_and,Bool.and_true,Bool.and_false];refine⟨m.1,ah,m.1,ah,s.1,ah,s.1,ah,λg=> ?_,λg=> ?_⟩
      .rw [if_neg ah];rfl
      .rw [if_pos ah];rfl
     .rw [I ah ah];simp (disch:=omega) only [RR,RB,u,c,r,w,E,d2,mkB,C _ m,t _ m,C _ s,t _ s,decide_true,decide_false,Bool.true_and,Bool.and_true,Bool.and_false];rfl
    .rw [I ah ah];simp (disch:=omega) only [RR,RB,u,c,r,w,E,mkB,C _ m,t _ m,decide_true,decide_false,Bool.true_and,Bool.and_true,Bool.and_false];rfl
def asW{p1 f1 p2 f2 p3 f3}(H:Y99 p1 f1)(O:Y98 p2 f2)(U:Y60 p3 f3)(b:Blk)(hb:b.ops.length<1000000):aeX.F (p1,f1,p2,f2,p3,f3,()) (b,()) (λy=>y=(bO b,())):=by
 dsimp only [aeX,gm];simp (disch:=omega) only [RR,RB,H b ah,U b ah,nX];refine⟨λh=>by unfold bO;rw [h,if_neg (by decide)];rfl,λh=> ?_⟩;have ok:=aH.1 h;rw [PX ok];have M:=ok.sz;refine⟨ah,ah,au (λ(y:List IOp×Int×Int×Blk×Int×Int×Int×Int×Int×Int×Ms)=>y.1=b.ops/\y.2.1=b.ops.length/\0<=y.2.2.1/\y.2.2.1<=b.ops.length/\y.2.2.2.1=b/\y.2.2.2.2.2.2.2.2.2.2=((cpS b.ops y.2.2.1.toNat).1++(replicate b.ops.length (0:Int)).drop y.2.2.1.toNat,(cpS b.ops y.2.2.1.toNat).2,())) (λy=>((b.ops.length:Int)-y.2.2.1).toNat) ⟨rfl,rfl,by dsimp only;omega,by dsimp only;omega,rfl,rfl⟩ ?_⟩;rintro⟨(J:List IOp),(n:Int),(k:Int),(a:Blk),u1,u2,u3,u4,u5,u6,(nm:List Int),(la:List Int),⟨⟩⟩ hI;dsimp only at hI ⊢;simp only [Prod.mk.injEq,and_true]at hI;obtain⟨rfl,rfl,X,h2,rfl,rfl,rfl⟩:=hI;obtain⟨s,Z⟩:=uf a.ops k.toNat;have p:(replicate a.ops.length (0:Int)).length=a.ops.length:=length_replicate;have C:=yN (l:=replicate a.ops.length (0:Int)) s ah;by_cases c:k<a.ops.length
 .have o:=ok.op k X c;have W:cpS a.ops (k+1).toNat=((cpS a.ops k.toNat).1++ [cpN (cpS a.ops k.toNat) k ((a.ops).getD (k).toNat default)],cpL (cpS a.ops k.toNat) k ((a.ops).getD (k).toNat default)):=by
   rw [show(k+1).toNat=k.toNat+1 by omega,show k=((k.toNat:Nat):Int) by omega];rfl
  have A:=λ(q:Int)=>yM (x:=q) (l:=replicate a.ops.length (0:Int)) s ah
  have E:∀q r:Int,(((cpS a.ops k.toNat).1++ [q])++(replicate a.ops.length (0:Int)).drop (k.toNat+1)).set k.toNat r=((cpS a.ops k.toNat).1++ [r])++(replicate a.ops.length (0:Int)).drop (k.toNat+1):=λq r=>by
   rw [set_append_left _ _ (by rw [length_append,s];simp),set_append_right _ _ ah,s,Nat.sub_self];rfl
  have D:∀q:Int,(((cpS a.ops k.toNat).1++ [q])++(replicate a.ops.length (0:Int)).drop (k.toNat+1)).length=a.ops.length:=λq=>by
   rw [length_append,length_append,s,length_drop,p];simp only [length_cons,length_nil];omega
  have Q:∀(q x:Int),0<=x->x<k->(((((cpS a.ops k.toNat).1++ [q])++(replicate a.ops.length (0:Int)).drop (k.toNat+1))).getD (x).toNat default)=(((cpS a.ops k.toNat).1).getD (x).toNat default):=λq x x0 x1=>by
   rw [append_assoc,getD_lt (by rw [length_append];omega),getD_lt ah,getElem_append_left]
  have I:=o.k2;have V:=λf:(((a.ops).getD (k).toNat default)).kind=8=>o.x1 (by unfold hX;omega)
  generalize u:((a.ops).getD (k).toNat default)=q at*;generalize t:cpS a.ops (k+1).toNat=T at*;generalize cpS a.ops k.toNat=S at*;have ss:∀i:Int,0<=i->i<S.2.length->S.2.set i.toNat ((S.2).getD (i).toNat default)=S.2:=λi i0 i1=>by rw [getD_lt (show i.toNat<S.2.length by omega),set_getElem_self]
  have G:∀v w,v=cpN S k q->w=cpL S k q->((S.1++ [v])++(replicate a.ops.length (0:Int)).drop (k.toNat+1),w,())=(T.1++(replicate a.ops.length (0:Int)).drop (k+1).toNat,T.2,()):=λv w P Y=>by
   rw [W,P,Y,show(k+1).toNat=k.toNat+1 by omega]
  by_cases e:q.kind=2
  .have kk:=I (Or.inl e);by_cases j:0<=((S.2).getD (q.k).toNat default)
   .have g:=G (((S.2).getD (q.k).toNat default)) S.2 (by unfold cpN;rw [if_pos ⟨e,j⟩]) (by unfold cpL;rw [if_pos e,if_pos j]);simp (disch:=omega) only [RR,RB,C,A,E,D,p,c,u,eq_true e,eq_true j,t,g,decide_true,decide_false,Bool.true_and,Bool.and_true,Bool.and_false,Bool.false_and,false_and];omega
   .have g:=G k (S.2.set q.k.toNat k) (by unfold cpN;rw [if_neg (λq=>j q.2)]) (by unfold cpL;rw [if_pos e,if_neg j]);simp (disch:=omega) only [RR,RB,C,A,E,D,p,c,u,eq_true e,j,t,g,decide_true,decide_false,Bool.true_and,Bool.and_true,Bool.and_false,Bool.false_and,false_and];omega
  .by_cases f:q.kind=8
   .have kk:=I (Or.inr f);have v:=V f;have v0:=v.1;have v1:=v.2.1;have g:=G k (S.2.set q.k.toNat ((S.1).getD (q.x).toNat default)) (by unfold cpN;rw [if_neg (λq=>e q.1)]) (by unfold cpL;rw [if_neg e,if_pos f]);simp (disch:=omega) only [RR,RB,C,A,E,D,Q,p,c,u,e,eq_true f,t,g,decide_true,decide_false,Bool.true_and,Bool.and_true,Bool.and_false,Bool.false_and,false_and];omega
   .have g:=G k S.2 (by unfold cpN;rw [if_neg (λq=>e q.1)]) (by unfold cpL;rw [if_neg e,if_neg f]);simp (disch:=omega) only [RR,RB,C,A,E,D,p,c,u,e,f,t,g,decide_true,decide_false,Bool.true_and,Bool.and_true,Bool.and_false,Bool.false_and,false_and];omega
 .have z:(cpS a.ops k.toNat).1++(replicate a.ops.length (0:Int)).drop k.toNat=(cpS a.ops a.ops.length).1:=by
   rw [drop_of_length_le (by rw [p];omega),append_nil,show k.toNat=a.ops.length by omega]
  have B:=ok.en;have R:ajn (cpS a.ops a.ops.length).1 a.fin a.x a.y a.ops:=by
   obtain⟨F,q2⟩:=uf a.ops a.ops.length;refine⟨λm K L=> ?_,λd=> ?_,λd=> ?_,ah⟩
   .have o:=ok.op m K L;rw [F];exact⟨λd=>⟨(o.x1 d).1,by have:=(o.x1 d).2.1;omega⟩,λd=>⟨(o.y1 d).1,by have:=(o.y1 d).2.1;omega⟩⟩
   .rw [F];exact⟨(B.x1 d).1,(B.x1 d).2.1⟩
   .rw [F];exact⟨(B.y1 d).1,(B.y1 d).2.1⟩
  rw [z];generalize (cpS a.ops a.ops.length).1=N at*;simp (disch:=omega) only [RR,RB,c,H a ah,O N a.pc a.len a.fin a.x a.y a.k a.ops R];rfl
def asX{p1 f1 p2 f2}(B:Y54 p1 f1)(z:Y53 p2 f2)(b:Blk)(ok:bR b):aeS.F (p1,f1,p2,f2,()) (b,()) (λy=>y=(us b b.ops.length,())):=by
 have v:=ok.sz;have r:=ok.en;have m:¬b.fin=1->0<=b.x/\b.x<b.ops.length:=λc=>by have:=r.x1 c;exact⟨this.1,this.2.1⟩
 have k:3<=b.fin->0<=b.y/\b.y<b.ops.length:=λc=>by have:=r.y1 c;exact⟨this.1,this.2.1⟩
 dsimp only [aeS,gm];simp (disch:=omega) only [RR,RB,B,length_replicate,length_set,Int.toNat_natCast];refine⟨ah,ah,λc=>⟨(m c).1,(m c).2,(m c).1,(m c).2,λd=>⟨(k d).1,(k d).2,(k d).1,(k d).2,?_⟩,λd=> ?_⟩,λc=>⟨λd=>⟨(k d).1,(k d).2,(k d).1,(k d).2,?_⟩,λd=> ?_⟩⟩
 all_goals
  refine au (λ(y:Int×Blk×Q5)=> -1<=y.1/\y.1<b.ops.length/\y.2.1=b/\y.2.2.1=us b (b.ops.length-1-y.1).toNat) (λy=>(y.1+1).toNat) ⟨by dsimp only;omega,by dsimp only;omega,rfl,?_⟩ ?_
  .dsimp only;rw [show(b.ops.length-1- ((b.ops.length:Int)-1)).toNat=0 by omega];show _=us0 b;unfold us0;dsimp only
   first
    | rw [if_neg (show¬b.fin=1 from c),if_pos (show 3<=b.fin from d)]
    | rw [if_neg (show¬b.fin=1 from c),if_neg (show¬3<=b.fin from d)]
    | (rw [if_pos (show b.fin=1 from Classical.byContradiction c),if_pos (show 3<=b.fin from d)])
    | (rw [if_pos (show b.fin=1 from Classical.byContradiction c),if_neg (show¬3<=b.fin from d)])
  rintro⟨(j:Int),(a:Blk),(D:List Bool),⟨⟩⟩ hI;dsimp only at hI ⊢;obtain⟨E,f,rfl,rfl⟩:=hI;have t:=wY a (a.ops.length-1-j).toNat;have i:0<=j->us a (a.ops.length-1- (j-1)).toNat=usO ((a.ops).getD (j).toNat default) j.toNat (us a (a.ops.length-1-j).toNat):=λg=>by
   rw [show(a.ops.length-1- (j-1)).toNat=(a.ops.length-1-j).toNat+1 by omega];show usO (a.ops.getD (a.ops.length-1- (a.ops.length-1-j).toNat) default) (a.ops.length-1- (a.ops.length-1-j).toNat) _=_;rw [show a.ops.length-1- (a.ops.length-1-j).toNat=j.toNat by omega]
  have s:¬0<=j->us a (a.ops.length-1-j).toNat=us a a.ops.length:=λg=>by rw [show(a.ops.length-1-j).toNat=a.ops.length by omega]
  generalize us a (a.ops.length-1-j).toNat=U at i s t ⊢;by_cases g:0<=j
  .have o:=ok.op j g f;have i:=i g;have n:=λc:hX ((a.ops).getD (j).toNat default)=>(o.x1 c)
   have l:=λc:hY ((a.ops).getD (j).toNat default)=>(o.y1 c)
   unfold usO at i;generalize u:((a.ops).getD (j).toNat default)=q at*;have C:∀x:Bool,(U.set j.toNat x).getD j.toNat default=x:=λx=>by rw [getD_lt (by rw [length_set];omega),getElem_set_self]
   simp (disch:=omega) only [RR,RB,z,t,length_set,C,u,g,eq_true g];rw [i];by_cases w:(U.getD j.toNat default || decide (4<=q.kind))=true
   .have w2:U.getD j.toNat default=true\/4<=q.kind:=by rw [Bool.or_eq_true,decide_eq_true_eq]at w;exact w
    rw [if_pos w,w];refine⟨f,f,f,f,f,f,f,λe=> ?_,λ_=>⟨λe=>⟨(n e).1,by have:=(n e).2.1;omega,(n e).1,by have:=(n e).2.1;omega,λh=>⟨(l h).1,by have:=(l h).2.1;omega,(l h).1,by have:=(l h).2.1;omega,⟨ah,ah,?_⟩,ah⟩,λh=>⟨⟨ah,ah,?_⟩,ah⟩⟩,λe=>⟨λh=>⟨(l h).1,by have:=(l h).2.1;omega,(l h).1,by have:=(l h).2.1;omega,⟨ah,ah,?_⟩,ah⟩,λh=>⟨⟨ah,ah,?_⟩,ah⟩⟩⟩⟩
    .rcases w2 with w2 | w2
     .rw [e.1]at w2;cases w2
     .exact absurd w2 e.2
    all_goals dsimp only
    .rw [if_pos e,if_pos h]
    .rw [if_pos e,if_neg h]
    .rw [if_neg e,if_pos h]
    .rw [if_neg e,if_neg h]
   .have w1:(U.getD j.toNat default || decide (4<=q.kind))=false:=by simpa using w
    rw [if_neg w,w1];have p:U.getD j.toNat default=false:=by rw [Bool.or_eq_false_iff]at w1;exact w1.1
    have A:U.set j.toNat false=U:=by rw [<-p,getD_lt (show j.toNat<U.length by omega),set_getElem_self]
    refine⟨f,f,f,f,f,f,f,λ_=>⟨⟨ah,ah,A⟩,ah⟩,λe=> ?_⟩;exfalso;rcases e with e | e
    .rw [p]at e;cases e
    .rw [decide_eq_true e,Bool.or_true]at w;exact w rfl
  .simp (disch:=omega) only [RR,RB,g,eq_false g,s g]
def ajo(j:Nat)(D:List Bool)(v:Bool):(replicate (j+1) false++D).set j v=replicate j false++v::D:=by
 rw [replicate_succ',append_assoc,set_append_right _ _ (by rw [length_replicate];exact Nat.le_refl _),length_replicate,Nat.sub_self];rfl
def afq(j:Nat)(D:List Bool)(u v:Bool):(replicate j false++u::D).set j v=replicate j false++v::D:=by
 rw [set_append_right _ _ (by rw [length_replicate];exact Nat.le_refl _),length_replicate,Nat.sub_self];rfl
theorem asY{p1 f1 p2 f2}(L:Y80 p1 f1)(F:Y60 p2 f2)(b:Blk)(O:b.ops.length<1000000):aeU.F (p1,f1,p2,f2,()) (b,()) (λy=>y=(jR b,())):=by
 dsimp only [aeU,gm];simp (disch:=omega) only [RR,RB,F b ah,Int.toNat_natCast];refine⟨λh=>by unfold jR;rw [h,if_neg (by decide)];rfl,λh=> ?_⟩;have ok:=aH.1 h;rw [PO ok];have E:=ok.sz;have J:(eF b.ops).length=b.ops.length:=by unfold eF;rw [length_map,length_range]
 refine⟨ah,ah,ah,ah,au (λ(y:Int×Blk×Int×Int×Int×Int×Int×Int×List Bool×Q5)=> -1<=y.1/\y.1<b.ops.length/\y.2.1=b/\y.2.2.2.2.2.2.2.2.1=replicate (y.1+1).toNat false++(eF b.ops).drop (y.1+1).toNat/\y.2.2.2.2.2.2.2.2.2.1.length=4/\∀r:Int,0<=r->r<=3->((y.2.2.2.2.2.2.2.2.2.1).getD (r).toNat default)=jI (b.ops.drop (y.1+1).toNat) r) (λy=>(y.1+1).toNat) ⟨by dsimp only;omega,by dsimp only;omega,rfl,?_,rfl,λr i k=> ?_⟩ ?_⟩
 .dsimp only;rw [show((b.ops.length:Int)-1+1).toNat=b.ops.length by omega,drop_of_length_le ah,append_nil]
 .dsimp only;rw [show((b.ops.length:Int)-1+1).toNat=b.ops.length by omega,drop_of_length_le ah];rcases(by omega:r=0\/r=1\/r=2\/r=3)with h | h | h | h<;>subst h<;>rfl
 rintro⟨(j:Int),(a:Blk),u1,u2,u3,u4,u5,u6,(U:List Bool),(I:List Bool),⟨⟩⟩ hI;dsimp only at hI ⊢;obtain⟨S,m,rfl,rfl,N,n⟩:=hI;by_cases c:0<=j
 .have o:=ok.op j c m;have H:(j+1).toNat=j.toNat+1:=by omega
  have P:eF a.ops=eF a.ops:=rfl;have M:(eF a.ops).drop j.toNat=(!(decide ((((a.ops).getD (j).toNat default)).kind=8)&&jI (a.ops.drop (j.toNat+1)) (((a.ops).getD (j).toNat default)).k))::(eF a.ops).drop (j.toNat+1):=by
   rw [drop_eq_getElem_cons (show j.toNat< (eF a.ops).length by omega),<-getD_lt (d:=default) (show j.toNat< (eF a.ops).length by omega),yK ah]
  have t:∀r,jI (a.ops.drop j.toNat) r=if(((a.ops).getD (j).toNat default)).kind=4\/(((a.ops).getD (j).toNat default)).kind=5\/(((a.ops).getD (j).toNat default)).kind=2/\(((a.ops).getD (j).toNat default)).k=r then false else if(((a.ops).getD (j).toNat default)).kind=8/\(((a.ops).getD (j).toNat default)).k=r then true else jI (a.ops.drop (j.toNat+1)) r:=λr=>by
   rw [drop_eq_getElem_cons (show j.toNat<a.ops.length by omega),Hu,<-getD_lt (d:=default) (show j.toNat<a.ops.length by omega)]
  rw [H]at n ⊢;have x:=o.k2;have w:∀v:Bool,(replicate j.toNat false++v::(eF a.ops).drop (j.toNat+1)).length=a.ops.length:=λv=>by rw [length_append,length_replicate,length_cons,length_drop];omega
  have u:(replicate (j.toNat+1) false++(eF a.ops).drop (j.toNat+1)).length=a.ops.length:=by rw [length_append,length_replicate,length_drop];omega
  generalize D:((a.ops).getD (j).toNat default)=q at*;simp (disch:=omega) only [RR,RB,u,w,ajo,afq,N,D,c,eq_true c,length_set];simp only [Int.sub_add_cancel];have K:∀v,v=(!(decide (q.kind=8)&&jI (a.ops.drop (j.toNat+1)) q.k))->replicate j.toNat false++v::(eF a.ops).drop (j.toNat+1)=replicate j.toNat false++(eF a.ops).drop j.toNat:=λv e=>by rw [M,e]
  have G:∀r:Int,0<=r->r<=3->(((replicate 4 false)).getD (r).toNat default)=false:=λr i k=>by
   rcases(by omega:r=0\/r=1\/r=2\/r=3)with h | h | h | h<;>subst h<;>rfl
  have f:=λg=>x g
  refine⟨m,m,m,λl=> ?_,λl=>⟨λB=> ?_,λB=> ?_⟩⟩
  .have f:=x (Or.inr l);refine⟨f.1,ah,f.1,ah,m,m,f.1,ah,f.1,ah,⟨ah,ah,K _ ?_,λr i k=> ?_⟩,ah⟩
   .rw [n _ f.1 f.2,decide_eq_true l,Bool.true_and]
   .rw [t,ug i f.1 ah];by_cases g:r=q.k
    .rw [if_pos g,if_neg ah,if_pos ⟨l,g.symm⟩]
    .rw [if_neg g,n r i k,if_neg ah,if_neg (λq=>g q.2.symm)]
  .have f:=x (Or.inl B);refine⟨f.1,ah,f.1,ah,⟨ah,ah,K _ ?_,λr i k=> ?_⟩,ah⟩
   .rw [decide_eq_false l,Bool.false_and];rfl
   .rw [t,ug i f.1 ah];by_cases g:r=q.k
    .rw [if_pos g,if_pos ah]
    .rw [if_neg g,n r i k,if_neg ah,if_neg (λq=>l q.1)]
  .have kv:=K true (by rw [decide_eq_false l,Bool.false_and];rfl);have p:q.kind=4\/q.kind=5->∀r:Int,0<=r->r<=3->(((replicate 4 false)).getD (r).toNat default)=jI (a.ops.drop j.toNat) r:=λg r i k=>by rw [G r i k,t,if_pos ah]
   have C:¬q.kind=4->¬q.kind=5->∀r:Int,0<=r->r<=3->((I).getD (r).toNat default)=jI (a.ops.drop j.toNat) r:=λT Q r i k=>by rw [n r i k,t,if_neg ah,if_neg (λq=>l q.1)]
   refine⟨λs=>⟨λ_=>⟨⟨ah,ah,kv,rfl,p (Or.inl s)⟩,ah⟩,λg=>absurd s g⟩,λs=>⟨λA=>⟨⟨ah,ah,kv,rfl,p (Or.inr A)⟩,ah⟩,λA=>⟨⟨ah,ah,kv,C s A⟩,ah⟩⟩⟩
 .have z:(j+1).toNat=0:=by omega
  rw [z];have R:replicate 0 false++(eF a.ops).drop 0=eF a.ops:=rfl;rw [R];simp (disch:=omega) only [RR,RB,c,eq_false c,L _ _ ok J];rfl
abbrev auO(c : Blk × Unit -> Bool)(a : Blk × Unit -> List Bool × Unit) : Prop := ∀ b, bR b -> c (b, ()) = true /\ a (b, ()) = (us b b.ops.length, ())
def asZ{p1 f1 p2 f2 p3 f3}(d:Y80 p1 f1)(c:auO p2 f2)(e:Y60 p3 f3)(b:Blk)(f:b.ops.length<1000000):aeT.F (p1,f1,p2,f2,p3,f3,()) (b,()) (λy=>y=(iA b,())):=by
 dsimp only [aeT,gm];simp (disch:=omega) only [RR,RB,e b ah];refine⟨λh=>by unfold iA;rw [h,if_neg (by decide)];rfl,λh=> ?_⟩;have ok:=aH.1 h;have a:=wY b b.ops.length;rw [PU ok,(c b ok).2,(d _ _ ok a).2];exact⟨(c b ok).1,(d _ _ ok a).1,rfl⟩
abbrev auP(c : Blk × Unit -> Bool)(a : Blk × Unit -> Blk × Unit) : Prop := ∀ b, b.ops.length < 1000000 -> c (b, ()) = true /\ a (b, ()) = (bO b, ())
abbrev auQ(c : Blk × Unit -> Bool)(a : Blk × Unit -> Blk × Unit) : Prop := ∀ b, b.ops.length < 1000000 -> c (b, ()) = true /\ a (b, ()) = (iA b, ())
abbrev auR(c : Blk × Unit -> Bool)(a : Blk × Unit -> Blk × Unit) : Prop := ∀ b, b.ops.length < 1000000 -> c (b, ()) = true /\ a (b, ()) = (jR b, ())
def as0{p1 f1 p2 f2 p3 f3 p4 f4}(j:Y73 p1 f1)(h:auP p2 f2)(d:auQ p3 f3)(i:auR p4 f4)(b:Blk)(c:b.ops.length<1000000):aeY.F (p1,f1,p2,f2,p3,f3,p4,f4,()) (b,()) (λy=>y=(kV b,())):=by
 have f:(bO b).ops.length<1000000:=Nat.lt_of_le_of_lt (uj b) c;have a:=Nat.lt_of_le_of_lt (wZ (bO b)) f;have e:=Nat.lt_of_le_of_lt (uh (dJ (bO b))) a;have g:=Nat.lt_of_le_of_lt (Ah (iA (dJ (bO b)))) e;dsimp only [aeY,gm];simp (disch:=omega) only [RR,h b c,j _ f,d _ a,i _ e,d _ g];rfl
abbrev auS(c : Blk × Unit -> Bool)(a : Blk × Unit -> Blk × Unit) : Prop := ∀ b, b.ops.length < 1000000 -> c (b, ()) = true /\ a (b, ()) = (kV b, ())
variable{l:List Cer}
def ShC(l:List Cer):Prop:=l.length<1000/\∀q∈l,q.base.ops.length<1000000/\q.made.ops.length<1000000
def afr(l:List Cer)(b c:Blk):Prop:=∃q∈l,q.base=b/\q.made=c
def uS(l:List Cer):Prop:=l.length<=3/\∀q∈l,chk q.base q.made=true
def ShC.at(h:ShC l)(i:Nat):(l.getD i default).base.ops.length<1000000/\(l.getD i default).made.ops.length<1000000:=by
 by_cases c:i<l.length
 .rw [getD_lt c];exact h.2 _ (getElem_mem _)
 .rw [getD_eq_getElem?_getD,getElem?_eq_none ah];exact⟨by decide,by decide⟩
def ShC.add(h:ShC l)(n:l.length<999){q:Cer}(b:q.base.ops.length<1000000)(a:q.made.ops.length<1000000):ShC (l++ [q]):=by
 refine⟨by rw [length_append,length_singleton];omega,λc g=> ?_⟩;rw [mem_append,mem_singleton]at g;rcases g with g | rfl
 .exact h.2 c g
 .exact⟨b,a⟩
def ShD(l:List Cer):Prop:=l.length<1000000000/\∀q∈l,q.base.ops.length<1000000000/\q.made.ops.length<1000000000
def ShC.d(h:ShC l):ShD l:=⟨by have:=h.1;omega,λq g=>by have:=h.2 q g;omega⟩
def ShD.at(h:ShD l)(i:Nat):(l.getD i default).base.ops.length<1000000000/\(l.getD i default).made.ops.length<1000000000:=by
 by_cases c:i<l.length
 .rw [getD_lt c];exact h.2 _ (getElem_mem _)
 .rw [getD_eq_getElem?_getD,getElem?_eq_none ah];exact⟨by decide,by decide⟩
def CRB:(∀q:Cer,cu .cer 0 q=q.base.pc)/\(∀q:Cer,cu .cer 1 q=q.base.len)/\(∀q:Cer,jy .cer 2 .iop q=q.base.ops)/\(∀q:Cer,cu .cer 3 q=q.base.fin)/\(∀q:Cer,cu .cer 4 q=q.base.x)/\(∀q:Cer,cu .cer 5 q=q.base.y)/\(∀q:Cer,cu .cer 6 q=q.base.k)/\
  (∀q:Cer,cu .cer 7 q=q.made.pc)/\(∀q:Cer,cu .cer 8 q=q.made.len)/\(∀q:Cer,jy .cer 9 .iop q=q.made.ops)/\(∀q:Cer,cu .cer 10 q=q.made.fin)/\(∀q:Cer,cu .cer 11 q=q.made.x)/\(∀q:Cer,cu .cer 12 q=q.made.y)/\(∀q:Cer,cu .cer 13 q=q.made.k)/\
  (∀x,Co.mk .blk x=⟨x.1,x.2.1,x.2.2.1,x.2.2.2.1,x.2.2.2.2.1,x.2.2.2.2.2.1,x.2.2.2.2.2.2.1⟩):=
 ⟨λ_=>rfl,λ_=>rfl,λ_=>rfl,λ_=>rfl,λ_=>rfl,λ_=>rfl,λ_=>rfl,λ_=>rfl,λ_=>rfl,λ_=>rfl,λ_=>rfl,λ_=>rfl,λ_=>rfl,λ_=>rfl,λ_=>rfl⟩
def ZY{α:Type}{d:α}{l:List α}{i:Nat}{G:α->Prop}(h:i<l.length):(∃q∈l.take (i+1),G q)↔(∃q∈l.take i,G q)\/G (l.getD i d):=by
 rw [take_succ_eq_append_getElem h,getD_lt h];constructor
 .rintro⟨q,a,h2⟩;rw [mem_append,mem_singleton]at a;rcases a with a | rfl
  .exact Or.inl ⟨q,a,h2⟩
  .exact Or.inr h2
 .rintro(⟨q,a,h2⟩ | h)
  .exact⟨q,mem_append_left _ a,h2⟩
  .exact⟨_,mem_append_right _ (mem_singleton.2 rfl),h⟩
def an8(a b:Blk)(n:a.ops.length<1000000000):Vh.F () (a,b,()) (λy=>y=(bp (a=b),())):=by
 dsimp only [Vh,gm];simp (disch:=omega) only [RR,RB];refine⟨λh=> ?_,λh=> ?_⟩
 .rw [aV];rintro rfl;simp at h
 have j:a.ops.length=b.ops.length:=by omega
 refine au (λ(y:Int×Blk×zx)=>y.2.1=a/\y.2.2.1=b/\0<=y.1/\y.1<=a.ops.length/\All y.1 (λi=>a.ops.getD i.toNat default=b.ops.getD i.toNat default)) (λy=>(a.ops.length-y.1).toNat) ⟨rfl,rfl,by simp,by simp,All.zero⟩ ?_;rintro⟨(i:Int),(f:Blk),(k:Blk),⟨⟩⟩ hI;dsimp only at hI ⊢;obtain⟨rfl,rfl,m,l,d⟩:=hI;simp (disch:=omega) only [RR,RB,akp];refine⟨λg=>⟨ah,ah,ah,ah,λc=> ?_,λc=>⟨⟨ah,ah,d.snoc c⟩,ah⟩⟩,λg=> ?_⟩
 .rw [aV];rintro rfl;exact c rfl
 .have e:=oL j (d.le ah);rw [aL];cases f;cases k;simp_all
theorem an9{p1 f1}(n:Y94 p1 f1)(l:List Cer)(b c:Blk)(h:ShC l):WO.F (p1,f1,()) (l,b,c,()) (λy=>y=(bp (afr l b c),())):=by
 have p:=h.1;have mE:∀c:Blk,Co.mk .blk (c.pc,c.len,c.ops,c.fin,c.x,c.y,c.k,())=c:=λ_=>rfl
 dsimp only [WO,gm,mJ];simp (disch:=omega) only [RR];refine au (λ(y:List Cer×Int×Blk×zx)=>y.1=l/\0<=y.2.1/\y.2.1<=l.length/\y.2.2.1=b/\y.2.2.2.1=c/\¬afr (l.take y.2.1.toNat) b c) (λy=>(l.length-y.2.1).toNat) ⟨rfl,by simp,by simp,rfl,rfl,by rintro⟨q,h,_⟩;cases h⟩ ?_;rintro⟨(f:List Cer),(i:Int),(m:Blk),(j:Blk),⟨⟩⟩ hI;dsimp only at hI ⊢;obtain⟨rfl,k,o,rfl,rfl,d⟩:=hI;have a:=h.at i.toNat;simp (disch:=omega) only [RR,CRB,mE,n (((f).getD (i).toNat default)).base m ah,n (((f).getD (i).toNat default)).made j ah,aH,iE];refine⟨λg=>⟨k,g,Or.inr k,Or.inr g,λe=> ?_,λe=>⟨⟨ah,ah,?_⟩,ah⟩⟩,λg=> ?_⟩
 .rw [aL (show afr f m j from⟨_,dh k g,e⟩)]
 .rw [show(i+1).toNat=i.toNat+1 by omega];rw [<-iU]at e;exact λx=>((ZY (G:=λq:Cer=>q.base=m/\q.made=j) ah).1 x).elim d (iE.1 e)
 .rw [take_of_length_le ah]at d;rw [aV d]
abbrev auT(a : List Cer × Blk × Blk × Unit -> Bool)(d : List Cer × Blk × Blk × Unit -> Bool × Unit) : Prop := ∀ l b c, ShC l -> a (l, b, c, ()) = true /\ d (l, b, c, ()) = (bp (afr l b c), ())
abbrev auU(b : List Cer × Unit -> Bool)(a : List Cer × Unit -> Bool × Unit) : Prop := ∀ l, ShD l -> b (l, ()) = true /\ a (l, ()) = (bp (uS l), ())
end Go.TX.F
namespace Go.TX.F
open Go Go.AE Go.TX List
structure Ren(s:Int->Int)(t:Int->Int)(n:Int):Prop where
 rng:∀k,0<=k->k<n->0<=s k/\s k<=199
 back:∀k,0<=k->k<n->t (s k)=k
def mapM(s:Int->Int)(m:aj):aj:=⟨m.bH,mR (m.atoms.map s)⟩
def AtN(n:Int)(l:List Int):Prop:=l.Pairwise (· <= ·)/\∀k∈l,0<=k/\k<n
noncomputable def Ee (s:Int->Int) (p:List aj):List aj:=nf (p.map (mapM s))
structure Dis(l:List aj):Prop where
 ne:l.Pairwise λa b=>a.atoms≠b.atoms
 co:∀m∈l,1<=m.bH/\m.bH<=65535
def RP(n:Int)(p:List aj):Prop:=aQ p/\∀m∈p,AtN n m.atoms
noncomputable def auV (s:Int->Int) (a:Atom):Atom:=
 if a.kind=4/\a.k≠2/\0<iV (Ee s a.x) (Ee s a.y)then⟨a.kind,a.k,Ee s a.y,Ee s a.x⟩else⟨a.kind,a.k,Ee s a.x,Ee s a.y⟩
def auW(a:Atom):Prop:=a.kind=4->a.k≠2->iV a.x a.y<=0
structure TR(s t:Int->Int)(u T:List Atom):Prop where
 r:Ren s t u.length
 tok:aI u
 im:∀i:Int,0<=i->i<u.length->s i<T.length/\((T).getD (s i).toNat default)=auV s ((u).getD (i).toNat default)
 ord:∀i:Int,0<=i->i<u.length->auW ((u).getD (i).toNat default)
structure avI(s:Int->Int)(s' t':Int->Int)(u u' T:List Atom)(r k:Int):Prop where
 tr:TR s' t' u' T
 ag:∀j:Int,0<=j->j<u.length->s' j=s j
 r0:0<=r
 r1:r<u'.length
 sr:s' r=k
 le:u.length<=u'.length
noncomputable def auX (s:Int->Int) (e:Ev):Ev:=⟨e.kind,e.at_,Ee s e.x,Ee s e.y,e.regs.map (Ee s)⟩
def RPs(n:Int)(l:List (List aj)):Prop:=∀p∈l,RP n p
def RPE(n:Int)(l:List Ev):Prop:=∀e∈l,RP n e.x/\RP n e.y/\RPs n e.regs
structure St1(s s' t':Int->Int)(u u' T:List Atom)(v V:List aj):Prop where
 tr:TR s' t' u' T
 ag:∀j:Int,0<=j->j<u.length->s' j=s j
 eq:V=Ee s' v
 rp:RP u'.length v
structure LS(s t:Int->Int)(a A:SS):Prop where
 tr:TR s t a.t A.t
 regs:A.regs=a.regs.map (Ee s)
 rr:RPs a.t.length a.regs
 vals:A.vals=a.vals.map (Ee s)
 rv:RPs a.t.length a.vals
 ld:A.ld=a.ld
 inn:A.inn=a.inn
 evs:A.evs=a.evs.map (auX s)
 re:RPE a.t.length a.evs
structure YOK(n:Int)(y:Sym):Prop where
 e:RPE n y.events
 r:RPs n y.regs
 x:RP n y.x
 y:RP n y.y
def afs(b:Blk):chk b b=bp (bR b):=by
 by_cases h:bR b
 .rw [aL h];exact(Lk.refl h).chk
 .rw [aV h];unfold chk;exact aV λg=>h g.1
def aoa{p1 f1}(f:Y13 p1 f1)(a:List (List aj))(d:ShP a):VQ.F (p1,f1,()) (a,()) (λy=>y=(a,())):=by
 have b:=d.1;dsimp only [VQ,gm];refine au (λ(y:List (List aj)×Int×fE)=>y.1=a/\y.2.2.1=a.take y.2.1.toNat/\0<=y.2.1/\y.2.1<=a.length) (λy=>(a.length-y.2.1).toNat) ⟨rfl,by simp,by simp,by simp⟩ ?_;rintro⟨(l:List (List aj)),(i:Int),(o:List (List aj)),⟨⟩⟩ hI;dsimp only at hI ⊢;obtain⟨rfl,rfl,e,g⟩:=hI;simp (disch:=omega) only [RR,f _ (d.at _)];refine⟨λc=>⟨ah,ah,?_,⟨bq e c rfl,ah,ah⟩,ah⟩,λc=>by rw [take_of_length_le ah]⟩;have:=length_take_le' i.toNat l;simp only [length_cons,length_nil];omega
def aob(k:Int)(l:List (List aj)):Vz.F () (k,l,()) (λy=>y=(if k<0\/(l.length:Int)<=k then []else((l).getD (k).toNat default),l,())):=by
 dsimp only [Vz,gm];simp (disch:=omega) only [RR];refine⟨λh=>by rw [if_pos ah],λh=>⟨ah,ah,ah,ah,by rw [if_neg ah]⟩⟩
def rC(l:List Ev)(k:Int):Int:=((l.filter λe=>decide (e.kind=k)).length:Int)
def yO(l:List Ev)(e:Ev)(k:Int):rC (l++ [e]) k=if e.kind=k then rC l k+1 else rC l k:=by
 unfold rC;rw [filter_append,length_append];by_cases c:e.kind=k
 .rw [if_pos c,filter_cons_of_pos (by simpa using c)];simp
 .rw [if_neg c,filter_cons_of_neg (by simpa using c)];simp
def aoc(l:List Ev)(k:Int)(f:l.length<1000000000):VO.F () (l,k,()) (λy=>y=(rC l k,())):=by
 dsimp only [VO,gm];refine au (λ(y:List Ev×Int×ni)=>y.1=l/\y.2.1=k/\y.2.2.1=rC (l.take y.2.2.2.1.toNat) k/\0<=y.2.2.2.1/\y.2.2.2.1<=l.length) (λy=>(l.length-y.2.2.2.1).toNat) ⟨rfl,rfl,by simp;rfl,by simp,by simp⟩ ?_;rintro⟨(l:List Ev),(k:Int),(n:Int),(i:Int),⟨⟩⟩ hI;dsimp only at hI ⊢;obtain⟨rfl,rfl,rfl,d,c⟩:=hI;have b:0<=rC (l.take i.toNat) k/\rC (l.take i.toNat) k<=i:=by
  unfold rC;have:=length_filter_le (λe:Ev=>decide (e.kind=k)) (l.take i.toNat);have:=length_take_le i.toNat l;omega
 simp (disch:=omega) only [RR,RB];refine⟨λa=>⟨ah,ah,?_⟩,λa=>by rw [take_of_length_le ah]⟩;have e:l.take (i+1).toNat=l.take i.toNat++ [((l).getD (i).toNat default)]:=by rw [show(i+1).toNat=i.toNat+1 by omega,take_succ_eq_append_getElem ah,getD_lt (show i.toNat<l.length by omega)]
 refine⟨λg=>⟨⟨?_,ah,ah⟩,ah⟩,λg=>⟨⟨?_,ah,ah⟩,ah⟩⟩
 .rw [e,yO,if_pos g]
 .rw [e,yO,if_neg g]
def aod{p1 f1 p2 f2}{b:List Ev×dY->Bool}{a:List Ev×dY->dY}(f:Y28 p1 f1)(e:Y35 p2 f2)(c:∀l k,l.length<1000000000->b (l,k,())=true/\a (l,k,())=(rC l k,()))(l:List Ev)(k:Int)(t:List Atom)(g:l.length<1000000000)(d:ShT t)(hk:aI t):VP.F (p1,f1,p2,f2,b,a,()) (l,k,t,()) (λy=>y=((bC t ⟨if k=6 then 3 else 2,rC l k,[],[]⟩).1,gZ (bC t ⟨if k=6 then 3 else 2,rC l k,[],[]⟩).2,())):=by
 have sh:∀n:Int,ShA ⟨n,rC l k,[],[]⟩:=λn=>⟨⟨by simp,λm hm=>absurd hm (by simp)⟩,⟨by simp,λm hm=>absurd hm (by simp)⟩⟩
 dsimp only [VP,gm];simp (disch:=omega) only [RR,c l k g,e _ t (sh _) d hk,f];exact⟨λh=>by rw [if_pos h],λh=>by rw [if_neg h]⟩
def aoe{p1 f1 p2 f2}(a:Y13 p1 f1)(e:Y56 p2 f2)(o:IOp)(x y:List aj)(r:List (List aj))(c:Sh x)(d:Sh y)(b:ShP r):VR.F (p1,f1,p2,f2,()) (o,x,y,r,()) (λz=>z=(o.kind,o.at_,if o.kind=6 then []else x,if o.kind=5 then y else [],if o.kind=4\/o.kind=5 then r else [],())):=by
 dsimp only [VR,gm];simp (disch:=omega) only [RR,RB,a x c,a y d,e r b];refine⟨λh=>⟨λg=> ?_,λg=> ?_⟩,λh=>⟨λg=> ?_,λg=> ?_⟩⟩
 all_goals refine⟨λk=> ?_,λk=> ?_⟩
 all_goals first | rw [if_pos h] | rw [if_neg h]
 all_goals first | rw [if_pos g] | rw [if_neg g]
 all_goals first | rw [if_pos k] | rw [if_neg ah]
def aof(s:Sym)(k:Int):VW.F () (s,k,()) (λy=>y=(s.events,s.regs,1,k,())):=by
 dsimp only [VW,gm];simp (disch:=omega) only [RR,RB]
def aog(b:Blk):VT.F () (b,()) (λy=>y=(if b.fin=1 then-1 else b.x,())):=by
 dsimp only [VT,gm];simp (disch:=omega) only [RR,RB];exact⟨λh=>by rw [if_pos h],λh=>by rw [if_neg h]⟩
def aoh(b:Blk):VU.F () (b,()) (λy=>y=(if b.fin=1\/b.fin=2 then-1 else b.y,())):=by
 dsimp only [VU,gm];simp (disch:=omega) only [RR,RB];exact⟨λh=>by rw [if_pos h],λh=>by rw [if_neg ah]⟩
abbrev as1(b : Sym × Int × Unit -> Bool)(a : Sym × Int × Unit -> List Ev × List (List aj) × Int × Int × Unit) : Prop := ∀ s k, b (s, k, ()) = true /\ a (s, k, ()) = (s.events, s.regs, 1, k, ())
def aoi{p1 f1 p2 f2 p3 f3}(j:Y27 p1 f1)(p:Y8 p2 f2)(q:as1 p3 f3)(s:Sym)(n:Int)(d:ShY s)(r:aQ s.x)(o:aQ s.y)(k:s.fin=3\/s.fin=4):VX.F (p1,f1,p2,f2,p3,f3,()) (s,n,()) (λy=>y=(symEnd s n,())):=by
 dsimp only [VX,gm];simp (disch:=omega) only [RR,RB,j _ d.x,j _ d.y,p _ _ d.x,q];have z:iV s.x s.y=0↔s.x=s.y:=jk;have h:(dw s.x).2=true->(dw s.y).2=true->(dw s.x).1=(dw s.y).1->s.x=s.y:=λa b c=>(tX a).2.1.trans ((congrArg aW c).trans (tX b).2.1.symm)
 unfold symEnd;rw [aL ⟨r,o⟩,if_neg (show¬(true=false) by decide),if_neg (show¬(s.fin=2/\(dw s.x).2=true) by omega),if_neg (show¬(s.fin≠3/\s.fin≠4) by omega)];simp only [z];by_cases c:s.x=s.y
 .have l:¬(dw s.x).1< (dw s.y).1:=by rw [c];omega
  rcases k with f | f<;>simp [c,f]
 .rcases k with f | f<;>by_cases m:(dw s.x).2=true<;>by_cases i:(dw s.y).2=true<;>by_cases l:(dw s.x).1< (dw s.y).1<;>by_cases g:0<iV s.x s.y<;>simp [c,f,m,i,l,g]
  all_goals rw [if_neg λe=>c (h m i e)]
def aoj{p1 f1 p2 f2 p3 f3 p4 f4 p6 f6}{u:Sym×dY->Bool}{r:Sym×dY->Sym×Unit}(B:Y27 p1 f1)(t:Y11 p2 f2)(m:Y13 p3 f3)(C:as1 p4 f4)(x:∀s n,ShY s->aQ s.x->aQ s.y->(s.fin=3\/s.fin=4)->u (s,n,())=true/\r (s,n,())=(symEnd s n,()))(w:Y56 p6 f6)(s:Sym)(n:Int)(j:ShY s):VY.F (p1,f1,p2,f2,p3,f3,p4,f4,u,r,p6,f6,()) (s,n,()) (λy=>y=(symEnd s n,())):=by
 dsimp only [VY,gm];simp (disch:=omega) only [RR,RB,t _ j.x,t _ j.y];have le:=j.e.1;have no:(bp (aQ s.x)=false\/bp (aQ s.y)=false)->symEnd s n=aa9:=λh=>by
  unfold symEnd;rw [if_pos];rw [iU];rcases h with h | h<;>rw [h]<;>simp
 refine⟨λh=>by rw [no h];rfl,λh=> ?_⟩;have q:=aH.1 h.1;have o:=aH.1 h.2;refine au (λ(y:Int×Int×Sym×Int×Int×List (List aj)×Int×List aj×List aj×Int×List Ev×Unit)=>y.1=n/\y.2.2.1=s/\y.2.2.2.2.2.2.1=s.fin/\y.2.2.2.2.2.2.2.2.2.1=s.k/\0<=y.2.1/\y.2.1<=s.events.length/\y.2.2.2.2.2.2.2.2.2.2.1=s.events.take y.2.1.toNat) (λy=>(s.events.length-y.2.1).toNat) ⟨rfl,rfl,rfl,rfl,by simp,by simp,by simp⟩ ?_;rintro⟨(p:Int),(i:Int),(a:Sym),(D:Int),(G:Int),(L:List (List aj)),(fin:Int),(I:List aj),(K:List aj),(k:Int),(ev:List Ev),⟨⟩⟩ hI;dsimp only at hI ⊢;obtain⟨rfl,rfl,rfl,rfl,A,H,rfl⟩:=hI;have E:=j.e.at i.toNat;have J:=length_take_le' i.toNat a.events;by_cases g:i<a.events.length
 .simp (disch:=omega) only [RR,RB,g,m _ E.1,m _ E.2.1,w _ E.2.2];exact⟨A,by simp only [length_cons,length_nil];omega,⟨ah,ah,bq A g rfl⟩,ah⟩
 .have ef:a.events.take i.toNat=a.events:=take_of_length_le ah;rw [ef];simp (disch:=omega) only [RR,RB,g,m _ j.x,m _ j.y,w _ j.r,B _ j.x,C];have b:¬bp (aQ a.x/\aQ a.y)=false:=by rw [aL ⟨q,o⟩];decide
  have P:=λf=>(x a p j q o f).1
  have F:=λf=>(x a p j q o f).2
  have v:a.fin≠3/\a.fin≠4->¬(a.fin=2/\(dw a.x).2=true)->symEnd a p=a:=λc d=>by unfold symEnd;rw [if_neg b,if_neg d,if_pos c]
  refine⟨λf=>⟨λg=> ?_,λg=> ?_⟩,λf=>⟨λk=>⟨λ_=>⟨P (Or.inl k),?_⟩,λe=>absurd k e⟩,λk=>⟨λl=>⟨P (Or.inr l),?_⟩,λl=> ?_⟩⟩⟩
  .unfold symEnd;rw [if_neg b,if_pos ⟨f,g⟩]
  .rw [v ah (by rw [g];simp)]
  .exact congrArg (λz=>(z.1,())) (F (Or.inl k))
  .exact congrArg (λz=>(z.1,())) (F (Or.inr l))
  .rw [v ⟨k,l⟩ (λh=>f h.1)]
structure Cn(s:SS):Prop where
 ld:s.ld=rC s.evs 4
 inn:s.inn=rC s.evs 6
def Cn.stp{s:SS}(h:Cn s)(o:IOp):Cn (stp s o):=by
 constructor
 .show(if o.kind=4 then s.ld+1 else s.ld)=rC (nE s o) 4;unfold nE;by_cases c:evO o
  .rw [if_pos c,yO,h.ld]
  .rw [if_neg c,if_neg (λe=>c (by unfold evO;omega)),h.ld]
 .show(if o.kind=6 then s.inn+1 else s.inn)=rC (nE s o) 6;unfold nE;by_cases c:evO o
  .rw [if_pos c,yO,h.inn]
  .rw [if_neg c,if_neg (λe=>c (by unfold evO;omega)),h.inn]
def Cn.run:∀(l:List IOp) (s:SS),Cn s->Cn (l.foldl Go.TX.F.stp s)
 | [],_,h=>h
 | o::r,s,h=>Cn.run r _ (h.stp o)
structure Pt2(t:List Atom)(b:Blk)(i:Nat)(tb:List Atom)(V:List (List aj))(ev:List Ev)(rg:List (List aj)):Prop where
 tb:tb=(SW t b i).t
 V:V=(SW t b i).vals
 ev:ev=(SW t b i).evs
 rg:rg=(SW t b i).regs
def Pt2.next{t:List Atom}{b:Blk}{i:Nat}{f:List Atom}{V:List (List aj)}{ev:List Ev}{k:List (List aj)}(h:Pt2 t b i f V ev k)(a:i<b.ops.length){o:IOp}(j:b.ops.getD i default=o)
  {v:List aj} {tb':List Atom} {ev':List Ev} {rg':List (List aj)} (d:tb'=nT (SW t b i) o) (l:v=nV (SW t b i) o) (c:ev'=nE (SW t b i) o) (g:rg'=nR (SW t b i) o):Pt2 t b (i+1) tb' (V++ [v]) ev' rg':=by
 have e:=ZX (t:=t) a;rw [j]at e;refine⟨?_,?_,?_,?_⟩<;>rw [e]
 .exact d
 .rw [h.V,l];rfl
 .exact c
 .exact g
def Jt{α:Type}{l:List α}{i:Nat}(h:i<l.length)(v:α):(l.set i v).take (i+1)=l.take i++ [v]:=by
 rw [take_succ_eq_append_getElem (by rw [length_set];exact h),getElem_set_self,take_set_of_le (Nat.le_refl _)]
abbrev auY(b : Sym × Int × Unit -> Bool)(a : Sym × Int × Unit -> Sym × Unit) : Prop := ∀ s n, ShY s -> b (s, n, ()) = true /\ a (s, n, ()) = (symEnd s n, ())
set_option maxHeartbeats 1000000 in
def aol{p1 f1 p2 f2 p3 f3 p4 f4 p5 f5 p6 f6 p7 f7 p8 f8 p10 f10 p14 f14}{p9:Int×List aj×List aj×l8->Bool}{f9:Int×List aj×List aj×l8->List Atom×bn}{a0:List Ev×Int×l8->Bool}{S:List Ev×Int×l8->List Atom×bn}{a9:IOp×List aj×List aj×fE->Bool}{U:IOp×List aj×List aj×fE->Int×Int×List aj×List aj×fE}{Q:Int×fE->Bool}{p:Int×fE->List aj×fE}{T:zx->Bool}{Z:zx->dY}{a2:zx->Bool}{a1:zx->dY}(U1:Y60 p1 f1)(U2:Y28 p2 f2)(U3:Y22 p3 f3)(U4:auY p4 f4)(U5:Y44 p5 f5)(U6:Y29 p6 f6)(U7:Y13 p7 f7)(U8:Y31 p8 f8)(U9:∀P x y t,(1<=P/\P<=5)->Sh x->Sh y->ShT t->aI t->p9 (P,x,y,t,())=true/\f9 (P,x,y,t,())=((tDo t P x y).1,(tDo t P x y).2,()))(b3:Y35 p10 f10)(a8:∀l k t,l.length<1000000000->ShT t->aI t->a0 (l,k,t,())=true/\S (l,k,t,())=((bC t ⟨if k=6 then 3 else 2,rC l k,[],[]⟩).1,gZ (bC t ⟨if k=6 then 3 else 2,rC l k,[],[]⟩).2,()))(I:∀o x y r,Sh x->Sh y->ShP r->a9 (o,x,y,r,())=true/\U (o,x,y,r,())=(o.kind,o.at_,if o.kind=6 then []else x,if o.kind=5 then y else [],if o.kind=4\/o.kind=5 then r else [],()))(d:∀k l,Q (k,l,())=true/\p (k,l,())=(if k<0\/(l.length:Int)<=k then []else((l).getD (k).toNat default),l,()))(b0:Y56 p14 f14)(b9:∀b,T (b,())=true/\Z (b,())=(if b.fin=1 then-1 else b.x,()))(b5:∀b,a2 (b,())=true/\a1 (b,())=(if b.fin=1\/b.fin=2 then-1 else b.y,()))(t:List Atom)(b:Blk)(ht:ShT t)(hb:b.ops.length<1000000000):VZ.F (p1,f1,p2,f2,p3,f3,p4,f4,p5,f5,p6,f6,p7,f7,p8,f8,p9,f9,p10,f10,a0,S,a9,U,Q,p,p14,f14,T,Z,a2,a1,()) (t,b,()) (λy=>y=((bF t b).1,(bF t b).2,())):=by
 have c4:=ht.1;dsimp only [VZ,gm];simp (disch:=omega) only [RR,RB,U6 t ht,U1 b hb,U8 t ht,(U5).1];by_cases c:aI t/\t.length<=100/\bR b
 case neg=>
  refine⟨λ_=> ?_,λh=> ?_⟩
  .unfold bF;rw [aV c];rfl
  .exact absurd ⟨aH.1 h.1.1,ah,aH.1 h.1.2⟩ c
 obtain⟨c1,c2,K⟩:=c;simp (disch:=omega) only [RR,aL c1,aL K];have sz:=K.sz;have b4:=K.op;have a7:=K.k3;have i0:=zn c1 ah;obtain⟨_,g5,_⟩:=(U5).2;refine⟨λh=>absurd h ah,λ_=> ?_⟩;refine au (λ(y:Int×Blk×Int×Int×Int×Int×List (List aj)×l8)=>0<=y.1/\y.1<=4/\y.2.1=b/\y.2.2.2.2.1=b.fin/\y.2.2.2.2.2.1=b.k/\y.2.2.2.2.2.2.1.length=4/\y.2.2.2.2.2.2.1.take y.1.toNat=(rN t y.1.toNat).2/\y.2.2.2.2.2.2.2.1=(rN t y.1.toNat).1) (λy=>(4-y.1).toNat) ⟨by simp,by simp,rfl,rfl,rfl,g5,by simp;rfl,rfl⟩ ?_;rintro⟨(r:Int),(H:Blk),(a:Int),(f:Int),(fin:Int),(kk:Int),(rg:List (List aj)),(tb:List Atom),⟨⟩⟩ hI;dsimp only at hI ⊢;obtain⟨r0,r1,rfl,rfl,rfl,r4,r5,rfl⟩:=hI;have ok:=Bw c1 ah r.toNat ah;have c6:=ok.tl;by_cases h:r<4
 .have sA:ShA ⟨1,r,[],[]⟩:=⟨⟨by simp,λm hm=>absurd hm (by simp)⟩,⟨by simp,λm hm=>absurd hm (by simp)⟩⟩;have er:((r.toNat:Nat):Int)=r:=by omega
  simp (disch:=omega) only [RR,h,b3 _ _ sA ok.tok.sh ok.tok,U2,r4,length_set];have es:rN t (r+1).toNat=((bC (rN t r.toNat).1 ⟨1,r,[],[]⟩).1,(rN t r.toNat).2++ [gZ (bC (rN t r.toNat).1 ⟨1,r,[],[]⟩).2]):=by
   rw [show(r+1).toNat=r.toNat+1 by omega,ER,er]
  refine⟨r0,ah,r0,ah,⟨ah,ah,?_,by rw [es]⟩,ah⟩;rw [es,show(r+1).toNat=r.toNat+1 by omega,Jt ah,r5]
 .have e4:r.toNat=4:=by omega
  rw [e4]at r5 ok;have eg:rg=(rN t 4).2:=by rw [<-r5,take_of_length_le ah]
  subst eg;rw [e4];simp (disch:=omega) only [RR,h];refine au (λ(y:Int×Blk×Int×Int×Int×Int×List (List aj)×List (List aj)×List Atom×List Ev×Unit)=>0<=y.1/\y.1<=H.ops.length/\y.2.1=H/\y.2.2.2.2.1=H.fin/\y.2.2.2.2.2.1=H.k/\Pt2 t H y.1.toNat y.2.2.2.2.2.2.2.2.1 y.2.2.2.2.2.2.2.1 y.2.2.2.2.2.2.2.2.2.1 y.2.2.2.2.2.2.1) (λy=>(H.ops.length-y.1).toNat) ⟨by simp,by simp,rfl,rfl,rfl,⟨rfl,rfl,rfl,rfl⟩⟩ ?_;have b1:∀j:Nat,j<=H.ops.length->SI (t.length+4) j (SW t H j):=λj hj=>by
   have:=(tZ (H.ops.take j) 0 (s0 t) i0 (λo A=>a7 o (mem_of_mem_take A)) (by rw [length_take];omega) (by rw [length_take];omega)).1;rw [length_take,Nat.min_eq_left hj,Nat.zero_add]at this;exact this
  rintro⟨(i:Int),(b:Blk),(a:Int),(f:Int),(fin:Int),(kk:Int),(rg:List (List aj)),(V:List (List aj)),(tb:List Atom),(ev:List Ev),⟨⟩⟩ hI;dsimp only at hI ⊢;obtain⟨E,h2,rfl,rfl,rfl,hA⟩:=hI;have n:=b1 i.toNat ah;have c8:=afm (t:=t) (b:=b) i.toNat ah;have cn:=Cn.run (b.ops.take i.toNat) (s0 t) ⟨rfl,rfl⟩;have cn:Cn (SW t b i.toNat):=cn;by_cases C:i<b.ops.length
  case neg=>
   have en:=K.en;have hf:=en.f;have c7:=K.pc;have c0:=K.ln;have b8:i.toNat=b.ops.length:=by omega
   have eS:SW t b i.toNat=dB t b:=by unfold SW dB;rw [b8,take_of_length_le (Nat.le_refl _)]
   obtain⟨a3,F,a5,a6⟩:=hA;rw [eS]at a3 F a5 a6 n;subst a3 F a5 a6;have pk:=EO (b:=b) n;have eR:=kU c1 c2 K;have sh:ShY (kS b (dB t b)):=by
    have hs:=MX b.ops 0 (s0 t) i0 a7 ah ah ⟨by simp [s0],λe he=>absurd he (by simp [s0])⟩;exact⟨⟨by have:=hs.1;show(b.ops.foldl stp (s0 t)).evs.length<_;omega,hs.2⟩,n.regs,pk.1.sh,pk.2.sh⟩
   have sl:=n.vl;have x1:=en.x1;have y1:=en.y1;have EX:p (if b.fin=1 then-1 else b.x,(dB t b).vals,())=((kS b (dB t b)).x,(dB t b).vals,()):=by
    rw [(λa f=>(d a f).2)];show _=(if b.fin=1 then []else(((dB t b).vals).getD (b.x).toNat default),_);by_cases c:b.fin=1
    .rw [if_pos c,if_pos c,if_pos ah]
    .obtain⟨v1,v2,_⟩:=x1 c;rw [if_neg c,if_neg c,if_neg ah]
   have EY:p (if b.fin=1\/b.fin=2 then-1 else b.y,(dB t b).vals,())=((kS b (dB t b)).y,(dB t b).vals,()):=by
    rw [(λa f=>(d a f).2)];show _=(if 3<=b.fin then(((dB t b).vals).getD (b.y).toNat default)else [],_);by_cases c:b.fin=1\/b.fin=2
    .rw [if_pos c,if_pos (Or.inl (by decide)),if_neg (show¬3<=b.fin by omega)]
    .obtain⟨v1,v2,_⟩:=y1 ah;rw [if_neg c,if_neg (show¬(b.y<0\/((dB t b).vals.length:Int)<=b.y) by omega),if_pos (show 3<=b.fin by have:=hf;omega)]
   have b2:ShP (dB t b).regs:=sh.r;simp (disch:=omega) only [RR,RB,C,b0 _ b2,b9,b5,(λa f=>(d a f).1),EX,EY,U7 _ sh.x,U7 _ sh.y];exact⟨(U4 _ _ sh).1,by rw [eR];exact congrArg (λz=>((dB t b).t,z.1,())) ((U4 (kS b (dB t b)) (b.pc+b.len) sh).2)⟩
  have g:=b4 i E C;have nxt:=λ{v:List aj} {tb':List Atom} {ev':List Ev} {rg':List (List aj)}=>Pt2.next (o:=((b.ops).getD (i).toNat default)) hA ah rfl (v:=v) (tb':=tb') (ev':=ev') (rg':=rg')
  obtain⟨a3,F,a5,a6⟩:=hA;have ei:(i+1).toNat=i.toNat+1:=by omega
  obtain⟨sn,so⟩:=Ho (o:=((b.ops).getD (i).toNat default)) n g.k3 ah ah;have vl:=n.vl;have N:∀k:Int,Sh (if k<0\/(V.length:Int)<=k then []else((V).getD (k).toNat default)):=λk=>by
   split
   .exact⟨by simp,λm hm=>absurd hm (by simp)⟩
   .rw [F];exact(Db n.vok k).1.sh
  obtain⟨X,eX⟩:∃X,X=if(((b.ops).getD (i).toNat default)).x<0\/(V.length:Int)<=(((b.ops).getD (i).toNat default)).x then []else((V).getD ((((b.ops).getD (i).toNat default)).x).toNat default):=⟨_,rfl⟩
  obtain⟨Y,eY⟩:∃Y,Y=if(((b.ops).getD (i).toNat default)).y<0\/(V.length:Int)<=(((b.ops).getD (i).toNat default)).y then []else((V).getD ((((b.ops).getD (i).toNat default)).y).toNat default):=⟨_,rfl⟩
  have J:p ((((b.ops).getD (i).toNat default)).x,V,())=(X,V,()):=by rw [(λa f=>(d a f).2),eX]
  have F2:p ((((b.ops).getD (i).toNat default)).y,V,())=(Y,V,()):=by rw [(λa f=>(d a f).2),eY]
  have w:Sh X:=eX▸N _;have u:Sh Y:=eY▸N _;have ex:hX ((b.ops).getD (i).toNat default)->X=xOf (SW t b i.toNat) ((b.ops).getD (i).toNat default):=λh=>by
   have v:=g.x1 h;have v2:=v.2.1;unfold xOf;rw [if_pos h,eX,if_neg (by rw [F,vl];have:=v.1;omega),F]
  have ey:hY ((b.ops).getD (i).toNat default)->Y=yOf (SW t b i.toNat) ((b.ops).getD (i).toNat default):=λh=>by
   have v:=g.y1 h;have v2:=v.2.1;unfold yOf;rw [if_pos h,eY,if_neg (by rw [F,vl];have:=v.1;omega),F]
  clear eX eY N
  have c5:V.length=i.toNat:=by rw [F];exact vl
  generalize hs:SW t b i.toNat=s at*;generalize A:((b.ops).getD (i).toNat default)=o at*;have kd:=g.kd;subst a3 a5 a6;have r4:s.regs.length=4:=n.r4;have M:=n.tok.sh;have b6:=cn.ld;have b7:=cn.inn;have G:ShP s.regs:=n.regs;have L:=λ{v:List aj} {tb':List Atom} {ev':List Ev} {rg':List (List aj)} (h3:tb'=nT s o) (h4:v=nV s o) (h5:ev'=nE s o) (h6:rg'=nR s o)=>show((V.length:Int)+([v].length:Int)<=1073741824)/\(0<=i+1/\i+1<=b.ops.length/\Pt2 t b (i+1).toNat tb' (V++ [v]) ev' rg')/\(b.ops.length- (i+1)).toNat< (b.ops.length-i).toNat from⟨by simp only [length_cons,length_nil];omega,⟨ah,ah,by rw [ei];exact nxt h3 h4 h5 h6⟩,ah⟩
  have D:∀e:Ev,(s.evs.length:Int)+([e].length:Int)<=1073741824:=λe=>by simp only [length_cons,length_nil];omega
  have R:o.kind≠3->o.kind≠4->o.kind≠6->s.t=nT s o:=λh3 h4 h6=>by unfold nT;rw [if_neg h3,if_neg ah]
  have O:o.kind≠8->s.regs=nR s o:=λh=>by unfold nR;rw [if_neg h]
  have E0:¬evO o->s.evs=nE s o:=λh=>by unfold nE;rw [if_neg h]
  have V0:o.kind=5\/o.kind=7\/o.kind=8->[]=nV s o:=λh=>by unfold nV;rw [if_neg ah,if_neg ah,if_neg ah,if_neg ah]
  rcases(by omega:o.kind=1\/o.kind=2\/o.kind=3\/o.kind=4\/o.kind=5\/o.kind=6\/o.kind=7\/o.kind=8)with c | c | c | c | c | c | c | c
  .simp (disch:=omega) only [RR,RB,A,C,(λa f=>(d a f).1),J,F2,c,Int.reduceEq,U3];exact⟨E,L (R ah ah ah) (show aW o.k=nV s o by unfold nV;rw [if_pos c]) (E0 (by unfold evO;omega)) (O ah)⟩
  .have k2:=g.k2 (Or.inl c);simp (disch:=omega) only [RR,RB,A,C,(λa f=>(d a f).1),J,F2,c,Int.reduceEq,r4];exact⟨E,k2.1,ah,k2.1,ah,L (R ah ah ah) (show((s.regs).getD (o.k).toNat default)=nV s o by unfold nV;rw [if_neg ah,if_pos c]) (E0 (by unfold evO;omega)) (O ah)⟩
  .have d9:=g.k3 c;simp (disch:=omega) only [RR,RB,A,C,(λa f=>(d a f).1),J,F2,c,Int.reduceEq,U9 o.k _ _ _ d9 w u M n.tok];have q:=ex (by unfold hX;omega);have B:=ey (by unfold hY;omega);exact⟨E,L (show(tDo s.t o.k X Y).1=nT s o by unfold nT;rw [if_pos c,q,B]) (show(tDo s.t o.k X Y).2=nV s o by unfold nV;rw [if_neg ah,if_neg ah,if_pos c,q,B]) (E0 (by unfold evO;omega)) (O ah)⟩
  .have el:s.evs.length<1000000000:=by omega
   have W:aOf s o=⟨2,rC s.evs 4,[],[]⟩:=by unfold aOf;rw [if_pos c,b6]
   have q:=ex (by unfold hX;omega);have B:yOf s o=[]:=by unfold yOf;rw [if_neg (by unfold hY;omega)]
   simp (disch:=omega) only [RR,RB,A,C,(λa f=>(d a f).1),J,F2,c,Int.reduceEq,a8 s.evs 4 s.t el M n.tok,I o X Y s.regs w u G,D];exact⟨E,L (by unfold nT;rw [if_neg ah,if_pos (Or.inl c),W]) (by unfold nV;rw [if_neg ah,if_neg ah,if_neg ah,if_pos (Or.inl c),W]) (by unfold nE;rw [if_pos (by unfold evO;omega),if_pos (Or.inl c),c,q,B]) (O ah)⟩
  .have q:=ex (by unfold hX;omega);have B:=ey (by unfold hY;omega);simp (disch:=omega) only [RR,RB,A,C,(λa f=>(d a f).1),J,F2,c,Int.reduceEq,I o X Y s.regs w u G,D];exact⟨E,L (R ah ah ah) (V0 ah) (by unfold nE;rw [if_pos (by unfold evO;omega),if_pos (Or.inr c),c,q,B]) (O ah)⟩
  .have el:s.evs.length<1000000000:=by omega
   have W:aOf s o=⟨3,rC s.evs 6,[],[]⟩:=by unfold aOf;rw [if_neg ah,b7]
   have q:xOf s o=[]:=by unfold xOf;rw [if_neg (by unfold hX;omega)]
   have B:yOf s o=[]:=by unfold yOf;rw [if_neg (by unfold hY;omega)]
   simp (disch:=omega) only [RR,RB,A,C,(λa f=>(d a f).1),J,F2,c,Int.reduceEq,a8 s.evs 6 s.t el M n.tok,I o X Y s.regs w u G,D];exact⟨E,L (by unfold nT;rw [if_neg ah,if_pos (Or.inr c),W]) (by unfold nV;rw [if_neg ah,if_neg ah,if_neg ah,if_pos (Or.inr c),W]) (by unfold nE;rw [if_pos (by unfold evO;omega),if_neg ah,c,q,B]) (O ah)⟩
  .have q:=ex (by unfold hX;omega);have B:yOf s o=[]:=by unfold yOf;rw [if_neg (by unfold hY;omega)]
   simp (disch:=omega) only [RR,RB,A,C,(λa f=>(d a f).1),J,F2,c,Int.reduceEq,I o X Y s.regs w u G,D];exact⟨E,L (R ah ah ah) (V0 ah) (by unfold nE;rw [if_pos (by unfold evO;omega),if_neg ah,c,q,B]) (O ah)⟩
  .have k2:=g.k2 (Or.inr c);have q:=ex (by unfold hX;omega);simp (disch:=omega) only [RR,RB,A,C,(λa f=>(d a f).1),J,F2,c,Int.reduceEq,r4];exact⟨E,k2.1,ah,k2.1,ah,L (R ah ah ah) (V0 ah) (E0 (by unfold evO;omega)) (by unfold nR;rw [if_pos c,q])⟩
def aom{α:Type}[Inhabited α](l:List α)(a:α)(i:Int)(h:0<=i):((l++ [a]).getD (i).toNat default)=if i=l.length then a else((l).getD (i).toNat default):=by
 by_cases c:i=l.length
 .rw [if_pos c,c,getD_eq_getElem?_getD];simp
 .rw [if_neg c,getD_eq_getElem?_getD,getD_eq_getElem?_getD];by_cases d:i.toNat<l.length
  .rw [getElem?_append_left d]
  .rw [getElem?_eq_none (by rw [length_append,length_singleton];omega),getElem?_eq_none ah]
def abg{n:Int}{t u:List Atom}(h:Xt n t)(g:Xt n u):t=u:=by
 obtain⟨f,e⟩:=h;obtain⟨k,d⟩:=g;exact oL ah λi c j=>by
  have a:=e i c ah;have b:=d i c ah;exact a.trans b.symm
def Z0:∀n:Nat,n<=4->Xt n (rN [] n).1
 | 0,_=>⟨rfl,All.zero⟩
 | n+1,hn=>by
  obtain⟨f,b⟩:=Z0 n ah;have ok:=Bw yH (by simp) n ah;have e:bC (rN [] n).1 ⟨1,n,[],[]⟩=((rN [] n).1++ [⟨1,n,[],[]⟩],((rN [] n).1.length:Int)):=by
   rcases kR (rN [] n).1 ⟨1,n,[],[]⟩with⟨f1,f2⟩ | ⟨f1,f2,f3,_⟩
   .unfold bC;rw [if_neg ah,if_neg];rintro(g | g)
    .exact g (by unfold jG;rw [if_neg (by simp)];exact⟨⟨rfl,rfl⟩,Or.inl ⟨rfl,by dsimp only;omega,by dsimp only;omega⟩⟩)
    .omega
   .exfalso;have a:=b _ f1 ah;dsimp only at a f3;rw [a]at f3;injection f3 with _ g;omega
  have h:(rN [] (n+1)).1=(rN [] n).1++ [⟨1,n,[],[]⟩]:=by rw [ER,e]
  rw [h];refine⟨by rw [length_append,length_singleton];omega,λi d j=> ?_⟩;dsimp only;rw [aom _ _ _ d];by_cases c:i=((rN [] n).1.length:Int)
  .rw [if_pos c,c,f]
  .rw [if_neg c];exact b i d ah
def as2{t:List Atom}(h:Xt 4 t):t=t4:=abg h (Z0 4 (Nat.le_refl _))
def aon{p1 f1}(l:Y8 p1 f1)(a b:List (List aj))(d:ShP a):V3.F (p1,f1,()) (a,b,()) (λy=>y=(bp (a=b),())):=by
 have f:=d.1;dsimp only [V3,gm];simp (disch:=omega) only [RR];refine⟨λh=> ?_,λh=> ?_⟩
 .rw [aV (λe=>h (by rw [e]))]
 have k:a.length=b.length:=by omega
 refine au (λ(y:List (List aj)×List (List aj)×dY)=>y.1=a/\y.2.1=b/\0<=y.2.2.1/\y.2.2.1<=a.length/\All y.2.2.1 (λi=>a.getD i.toNat default=b.getD i.toNat default)) (λy=>(a.length-y.2.2.1).toNat) ⟨rfl,rfl,by simp,by simp,All.zero⟩ ?_;rintro⟨(o:List (List aj)),(m:List (List aj)),(i:Int),⟨⟩⟩ hI;dsimp only at hI ⊢;obtain⟨rfl,rfl,p,n,g⟩:=hI;simp (disch:=omega) only [RR,l _ _ (d.at _),jk];refine⟨λj=>⟨ah,ah,ah,ah,λc=> ?_,λc=>⟨⟨ah,ah,g.snoc c⟩,ah⟩⟩,λj=> ?_⟩
 .rw [aV];intro e;rw [e]at c;exact c rfl
 .rw [aL (oL k (g.le ah))]
def aoo{p1 f1 p2 f2}(d:Y8 p1 f1)(e:Y88 p2 f2)(a b:Ev)(c:ShE a):V4.F (p1,f1,p2,f2,()) (a,b,()) (λy=>y=(bp (a=b),())):=by
 dsimp only [V4,gm];simp (disch:=omega) only [RR,RB,d _ _ c.1,d _ _ c.2.1,e _ _ c.2.2,jk];simp only [w9,<-iU];refine Prod.ext (kQ ?_) rfl;cases a;cases b;simp only [Ev.mk.injEq];constructor<;>(intro h;simp only [h,and_self])
def aop{p1 f1 p2 f2 p3 f3}(g:Y8 p1 f1)(k:Y93 p2 f2)(n:Y88 p3 f3)(a b:Sym)(c:ShY a):V5.F (p1,f1,p2,f2,p3,f3,()) (a,b,()) (λy=>y=(bp (a=b),())):=by
 dsimp only [V5,gm];simp (disch:=omega) only [RR,RB,g _ _ c.x,g _ _ c.y,n _ _ c.r,jk,aH,iE];have f:=c.e.1;refine⟨λh=> ?_,λh=> ?_⟩
 .rw [aV];rintro rfl
  revert h;simp
 refine au (λ(y:Int×Sym×Sym×Unit)=>y.2.1=a/\y.2.2.1=b/\0<=y.1/\y.1<=a.events.length/\All y.1 (λi=>a.events.getD i.toNat default=b.events.getD i.toNat default)) (λy=>(a.events.length-y.1).toNat) ⟨rfl,rfl,by simp,by simp,All.zero⟩ ?_;rintro⟨(i:Int),(l:Sym),(r:Sym),⟨⟩⟩ hI;dsimp only at hI ⊢;obtain⟨rfl,rfl,t,s,e⟩:=hI;have q:l.events.length=r.events.length:=by
  have:=h.1.1.1.1.1;omega
 simp (disch:=omega) only [RR,RB,k _ _ (c.e.at _),aH,iE];refine⟨λp=>⟨ah,ah,ah,ah,λd=> ?_,λd=>⟨⟨ah,ah,e.snoc d⟩,ah⟩⟩,λp=> ?_⟩
 .rw [aV];rintro rfl;exact d rfl
 .rw [aL];obtain⟨⟨⟨⟨⟨w,m⟩,u⟩,v⟩,o⟩,j⟩:=h;exact Sym.ext (oL q (e.le ah)) m ah o j ah
def aoq{p1 f1 p2 f2 p3 f3 p4 f4 p5 f5}(x:Y60 p1 f1)(v:Y94 p2 f2)(z:Y44 p3 f3)(u:Y89 p4 f4)(A:Y95 p5 f5)(b c:Blk)(j:b.ops.length<1000000000)(hc:c.ops.length<1000000000):V6.F (p1,f1,p2,f2,p3,f3,p4,f4,p5,f5,()) (b,c,()) (λy=>y=(chk b c,())):=by
 have l:=λa d=>(x a d).1
 have n:=λa d=>(x a d).2
 have o:=λa d f=>(v a d f).1
 have r:=λa d f=>(v a d f).2
 have q:=z.1;have i:=z.2;have m:=λa d f p=>(u a d f p).1
 have k:=λa d f p=>(u a d f p).2
 have t:=λa d f=>(A a d f).1
 have s:=λa d f=>(A a d f).2
 have w:ShT t4:=ZR.1.sh;have y1:=Bz t4 b;have i:=as2 i.1;dsimp only [V6,gm];simp (disch:=omega) only [RR,RB,l b j,n b j,l c hc,n c hc,o b c j,r b c j,q,i,m t4 b w j,k t4 b w j,m _ c y1.2 hc,k _ c y1.2 hc,t _ _ y1.1,s _ _ y1.1,aH,iE];unfold chk;refine⟨λh=> ?_,λh=>⟨λe=> ?_,λe=> ?_⟩⟩
 .rw [aV];rintro⟨E,C,B,D,_⟩;simp_all
 .rw [aL];exact⟨h.1.1.1,h.1.1.2,by simp_all,by simp_all,Or.inl e⟩
 .refine Prod.ext (kQ ⟨λg=>⟨h.1.1.1,h.1.1.2,by simp_all,by simp_all,Or.inr g⟩,λg=>g.2.2.2.2.resolve_left e⟩) rfl
def ajp(q:Cer):Int×Int×Int×Int×Int×Int×Int×Int×Int×Int×Int×Int×List IOp×F5:=(q.base.pc,q.base.len,q.base.fin,q.base.x,q.base.y,q.base.k,q.made.pc,q.made.len,q.made.fin,q.made.x,q.made.y,q.made.k,q.base.ops,q.made.ops,())
def M6(l:List Cer)(q:Cer):List Cer:=(l++ [q]).drop (l.length+1-3)
theorem aor{p1 f1}(n:Y96 p1 f1)(l:List Cer)(h:ShD l):Wh.F (p1,f1,()) (l,()) (λy=>y=(bp (uS l),())):=by
 have mE:∀c:Blk,Co.mk .blk (c.pc,c.len,c.ops,c.fin,c.x,c.y,c.k,())=c:=λ_=>rfl
 dsimp only [Wh,gm,mJ];have L:=h.1;simp (disch:=omega) only [RR,CRB,mE];refine⟨λg=>by rw [aV (λe=>by have:=e.1;omega)],λg=> ?_⟩;refine au (λ(y:List Cer×dY)=>y.1=l/\0<=y.2.1/\y.2.1<=l.length/\¬∃q∈l.take y.2.1.toNat,chk q.base q.made=false) (λy=>(l.length-y.2.1).toNat) ⟨rfl,by simp,by simp,by rintro⟨q,h,_⟩;cases h⟩ ?_;rintro⟨(k:List Cer),(i:Int),⟨⟩⟩ hI;dsimp only at hI ⊢;obtain⟨rfl,j,o,f⟩:=hI;have a:=h.at i.toNat;simp (disch:=omega) only [RR,CRB,mE,n (((k).getD (i).toNat default)).base (((k).getD (i).toNat default)).made ah ah];refine⟨λb=>⟨j,b,j,b,λe=> ?_,λe=>⟨⟨ah,ah,?_⟩,ah⟩⟩,λb=> ?_⟩
 .rw [aV];intro v;have:=v.2 _ (dh j b (d:=default));rw [e]at this;cases this
 .rw [show(i+1).toNat=i.toNat+1 by omega];exact λx=>((ZY (G:=λq:Cer=>chk q.base q.made=false) ah).1 x).elim f (λz=>by rw [e]at z;cases z)
 .rw [take_of_length_le ah]at f;rw [aL];exact⟨ah,λq m=>by
   cases c:chk q.base q.made with
   | true=>rfl
   | false=>exact absurd ⟨q,m,c⟩ f⟩
theorem aos{p1 f1}(a:Y77 p1 f1)(q:Cer)(d:q.base.ops.length<1000000)(b:q.made.ops.length<1000000):Wn.F (p1,f1,()) (q,()) (λy=>y=ajp q):=by
 have mE:∀c:Blk,Co.mk .blk (c.pc,c.len,c.ops,c.fin,c.x,c.y,c.k,())=c:=λ_=>rfl
 dsimp only [Wn,gm,mJ];simp (disch:=omega) only [RR,CRB,mE,a _ d,a _ b];rfl
abbrev as3(b : Cer × Unit -> Bool)(a : Cer × Unit -> Int × Int × Int × Int × Int × Int × Int × Int × Int × Int × Int × Int × List IOp × List IOp × Unit) : Prop := ∀ q, q.base.ops.length < 1000000 -> q.made.ops.length < 1000000 -> b (q, ()) = true /\ a (q, ()) = ajp q
theorem aot{p1 f1}(m:as3 p1 f1)(l:List Cer)(q:Cer)(h:ShC l)(r:q.base.ops.length<1000000)(j:q.made.ops.length<1000000):WQ.F (p1,f1,()) (l,q,()) (λy=>y=(M6 l q,())):=by
 have c:=λd e f=>(m d e f).1
 have b:=λd e f=>(m d e f).2
 have k:=h.1;have mC:∀q:Cer,Co.mk .cer (q.base.pc,q.base.len,q.base.ops,q.base.fin,q.base.x,q.base.y,q.base.k,q.made.pc,q.made.len,q.made.ops,q.made.fin,q.made.x,q.made.y,q.made.k,())=q:=λ_=>rfl
 unfold ajp at b;dsimp only [WQ,gm,mJ,cons_append,nil_append,map_cons,map_nil]at*;refine au (λ(y:List Cer×Int×Cer×List Cer×Unit)=>y.1=l/\y.2.2.1=q/\y.2.2.2.1=l.take y.2.1.toNat/\0<=y.2.1/\y.2.1<=l.length) (λy=>(l.length-y.2.1).toNat) ⟨rfl,rfl,by simp,by simp,by simp⟩ ?_;rintro⟨(l:List Cer),(i:Int),(q:Cer),(o:List Cer),⟨⟩⟩ hI;dsimp only at hI ⊢;obtain⟨rfl,rfl,rfl,n,v⟩:=hI;have a:=h.at i.toNat;simp (disch:=omega) only [RR,c _ a.1 a.2,b _ a.1 a.2,c _ r j,b _ r j,mC];have z:=length_take_le' i.toNat l;have p:∀x:Cer,([x].length:Int)=1:=λ_=>rfl
 refine⟨λg=>⟨n,g,by rw [p];omega,⟨bq n g rfl,ah,ah⟩,ah⟩,λg=> ?_⟩;have s:l.take i.toNat=l:=take_of_length_le ah;have t:((l++ [q]).length:Int)=l.length+1:=by rw [length_append,length_singleton];omega
 rw [s];refine⟨by rw [p];omega,?_⟩;rw [t];have w:IntKind.i64.wrap ((l.length:Int)+1-3)=l.length+1-3:=w64 ah ah;rw [w];unfold M6;refine⟨λu=>⟨ah,ah,ah,ah,ah,ah,?_⟩,λu=>by rw [show l.length+1-3=0 by omega];rfl⟩;rw [take_of_length_le ah,show((l.length:Int)+1-3).toNat=l.length+1-3 by omega]
abbrev auZ(b : List Cer × Cer × Unit -> Bool)(a : List Cer × Cer × Unit -> List Cer × Unit) : Prop := ∀ l q, ShC l -> q.base.ops.length < 1000000 -> q.made.ops.length < 1000000 -> b (l, q, ()) = true /\ a (l, q, ()) = (M6 l q, ())
def u8w{n:Int}:IntKind.u8.wrap n=n%256:=by
 simp [IntKind.wrap,IntKind.signed,IntKind.bits]
def opB(o:IOp):List Int:=[o.kind%256,o.x%256,o.y%256,o.k/256%256,o.k%256,o.at_%256]
def M7(b:Blk):List Int:=[b.pc%256,b.len%256,b.fin%256,b.x%256,b.y%256,b.k/256%256,b.k%256]++b.ops.flatMap opB
noncomputable def irB (b:Blk):List Int:=if bp (bR b)=true then M7 b else []
def rdO(l:List Int)(p:Nat):IOp:=⟨l.getD p default,l.getD (p+1) default,l.getD (p+2) default,l.getD (p+3) default*256+l.getD (p+4) default,l.getD (p+5) default⟩
def yX(l:List Int)(n:Nat):List IOp:=(range n).map λi=>rdO l (7+6*i)
def rdB(l:List Int):Blk:=⟨l.getD 0 default,l.getD 1 default,yX l ((l.length-7)/6),l.getD 2 default,l.getD 3 default,l.getD 4 default,l.getD 5 default*256+l.getD 6 default⟩
def ajq(l:List Int):Prop:=(7<=l.length/\(l.length-7)%6=0/\l.length<=295)/\irB (rdB l)=l
noncomputable def rdF (l:List Int):Int×Int×Int×Int×Int×Int×Bool×F5:=if bp (ajq l)=true then((rdB l).pc,(rdB l).len,(rdB l).fin,(rdB l).x,(rdB l).y,(rdB l).k,true,(rdB l).ops,())else(0,0,0,0,0,0,false,[],())
def aft(n:Int):0<=n%256/\n%256<=255:=by omega
def aou(o:IOp):By (opB o):=by
 intro z a;simp only [opB,mem_cons,not_mem_nil,or_false]at a;rcases a with h | h | h | h | h | h<;>subst h<;>exact aft _
def M8(b:Blk):By (irB b):=by
 unfold irB;split
 .intro z hz;unfold M7 at hz;rcases mem_append.1 hz with h | h
  .simp only [mem_cons,not_mem_nil,or_false]at h;rcases h with h | h | h | h | h | h | h<;>subst h<;>exact aft _
  .obtain⟨o,_,ho⟩:=mem_flatMap.1 h;exact aou o z ho
 .intro z hz;cases hz
def BD:∀a:List IOp,(a.flatMap opB).length=6*a.length
 | []=>rfl
 | o::r=>by rw [flatMap_cons,length_append,BD r,length_cons];show 6+_=_;omega
def afu(b:Blk):(M7 b).length=7+6*b.ops.length:=by
 unfold M7;rw [length_append,BD];rfl
def afv:∀(a:List IOp) (i:Nat) (j:Nat),i<a.length->j<6->(a.flatMap opB).getD (6*i+j) default=(opB (a.getD i default)).getD j default
 | [],_,_,h,_=>absurd h (by simp)
 | o::r,0,j,_,hj=>by
  rw [flatMap_cons,getD_eq_getElem?_getD,getElem?_append_left (by show _<6;omega),<-getD_eq_getElem?_getD,Nat.mul_zero,Nat.zero_add];rfl
 | o::r,i+1,j,h,hj=>by
  rw [flatMap_cons,getD_eq_getElem?_getD,getElem?_append_right (by show 6<=_;omega),<-getD_eq_getElem?_getD,show 6*(i+1)+j- (opB o).length=6*i+j by show 6*(i+1)+j-6=_;omega];exact afv r i j (by rw [length_cons]at h;omega) hj
def aov(b:Blk)(i j:Nat)(a:i<b.ops.length)(c:j<6):(M7 b).getD (7+6*i+j) default=(opB (b.ops.getD i default)).getD j default:=by
 unfold M7;rw [getD_eq_getElem?_getD,getElem?_append_right (by show 7<=_;omega),<-getD_eq_getElem?_getD];show(flatMap opB b.ops).getD (7+6*i+j-7) default=_;rw [show 7+6*i+j-7=6*i+j by omega];exact afv b.ops i j a c
structure OpR(o:IOp):Prop where
 kd:0<=o.kind/\o.kind<=255
 x:0<=o.x/\o.x<=255
 y:0<=o.y/\o.y<=255
 k:0<=o.k/\o.k<=65535
 at_:0<=o.at_/\o.at_<=255
abbrev au0(c : Blk × Unit -> Bool)(a : Blk × Unit -> List Int × Unit) : Prop := ∀ b, b.ops.length < 1000000000 -> c (b, ()) = true /\ a (b, ()) = (irB b, ())
abbrev au1(b : List Int × Unit -> Bool)(a : List Int × Unit -> Int × Int × Int × Int × Int × Int × Bool × List IOp × Unit) : Prop := ∀ l, By l -> l.length < 1000000000 -> b (l, ()) = true /\ a (l, ()) = rdF l
def o5(o:IOp):Int×Int×Int×ni:=(o.kind,o.x,o.y,o.k,o.at_,())
def Wo(n:Int):Prop:=0<=n/\n<=65535
def Wos(l:List Int):Prop:=∀n∈l,Wo n
structure MOK(m:aG):Prop where
 r4:m.regs.length=4
 rw:Wos m.regs
 m64:m.mem.length=64
 mw:Wos m.mem
 pc:Wo m.pc
 sv:Wo m.save
 iw:Wos m.ins
 ow:Wos m.outs
 ha:0<=m.halt/\m.halt<=4
 ct:0<=m.count/\m.count<=1000000
def M9(r a b:Int):Bool:=inB a 0 65535&&inB b 0 65535&&decide (r=1/\a=b\/r=2/\a<b)
structure MS where
 m:aG
 vals:List Int
 left:Bool
def vx(s:MS)(o:IOp):Int:=if hX o then((s.vals).getD (o.x).toNat default)else 0
def vy(s:MS)(o:IOp):Int:=if hY o then((s.vals).getD (o.y).toNat default)else 0
def mV(s:MS)(o:IOp):Int:=if o.kind=1 then o.k else if o.kind=2 then((s.m.regs).getD (o.k).toNat default)else if o.kind=3 then wdo o.k (vx s o) (vy s o)else if o.kind=4 then((s.m.mem).getD (vx s o).toNat default)else if o.kind=6 then s.m.ins.getD 0 default else 0
def mM(s:MS)(o:IOp):aG:=if o.kind=5 then {s.m with mem:=s.m.mem.set (vx s o).toNat (vy s o)}else if o.kind=6 then {s.m with ins:=s.m.ins.drop 1}else if o.kind=7 then {s.m with outs:=s.m.outs++ [vx s o]}else if o.kind=8 then {s.m with regs:=s.m.regs.set o.k.toNat (vx s o)}else s.m
def leave(m:aG)(n:Int)(h:Int):aG:={m with halt:=h,pc:=m.pc+n,count:=m.count+n}
def gP(b:Blk)(s:MS)(o:IOp):MS:=
 if s.left=true then s
 else if(o.kind=4\/o.kind=5)/\64<=vx s o then⟨leave s.m o.at_ 3,s.vals,true⟩
 else if o.kind=5/\b.pc+o.at_+1<=vx s o/\vx s o<=b.pc+b.len-1 then⟨leave (mM s o) (o.at_+1) (mM s o).halt,s.vals,true⟩
 else⟨mM s o,s.vals++ [mV s o],false⟩
def XI(b:Blk)(s:MS):aG:=if s.left=true then s.m else {s.m with count:=s.m.count+b.len,pc:=if b.fin=1 then b.k else if b.fin=2 then((s.vals).getD (b.x).toNat default)else if M9 (b.fin-2) ((s.vals).getD (b.x).toNat default) ((s.vals).getD (b.y).toNat default)=true then b.k else b.pc+b.len}
def Qa:aG:=⟨[],0,[],0,false,false,0,[],[],0⟩
noncomputable def uT (b:Blk) (m:aG):aG×Bool:=if bp (bR b/\MOK m)=true then(if m.halt≠0\/m.pc≠b.pc\/1000000-b.len<m.count then(m,false)else(XI b (b.ops.foldl (gP b) ⟨m,[],false⟩),true))else(Qa,false)
def bP(i:Ins):Prop:=(0<=i.op/\i.op<=15)/\(0<=i.d/\i.d<=3)/\(0<=i.a/\i.a<=3)/\0<=i.k/\
 (i.op=0->i.d=0/\i.a=0/\i.k<=3)/\(i.op=1->i.a=0/\i.k<=255)/\(i.op=2->i.k=0)/\(3<=i.op/\i.op<=7->i.k<=3)/\(i.op=8->i.k<=15)/\(9<=i.op/\i.op<=12->i.k<=255)/\(i.op=13->i.d=0/\i.k=0)/\(14<=i.op->i.a=0/\i.k=0)
def Df(i:Ins):Int:=i.op*4096+i.d*1024+i.a*256+i.k
def eH(w:Int):Ins:=⟨w/4096,w/1024%4,w/256%4,w%256⟩
structure oC(pc:Int)(l:List Ins):Prop where
 ln:1<=l.length/\l.length<=8
 pc:0<=pc/\pc<=64-l.length
 ok:∀i:Nat,i<l.length->bP (l.getD i default)/\(l.getD i default).op≠0/\(11<=(l.getD i default).op/\(l.getD i default).op<=13->i+1=l.length)
def gu(n b:Int)(i:Ins):List IOp:=
 if i.op=1 then [⟨1,0,0,i.k,0⟩,⟨8,b,0,i.d,0⟩]
 else if i.op=2 then [⟨2,0,0,i.a,0⟩,⟨8,b,0,i.d,0⟩]
 else if i.op=8 then [⟨2,0,0,i.a,0⟩,⟨1,0,0,2^i.k.toNat,0⟩,⟨3,b,b+1,3,0⟩,⟨8,b+2,0,i.d,0⟩]
 else if i.op=9 then [⟨2,0,0,i.a,0⟩,⟨1,0,0,i.k,0⟩,⟨3,b,b+1,1,0⟩,⟨4,b+2,0,0,n⟩,⟨8,b+3,0,i.d,0⟩]
 else if i.op=10 then [⟨2,0,0,i.a,0⟩,⟨1,0,0,i.k,0⟩,⟨3,b,b+1,1,0⟩,⟨2,0,0,i.d,0⟩,⟨5,b+2,b+3,0,n⟩]
 else if i.op=14 then [⟨2,0,0,i.d,0⟩,⟨7,b,0,0,n⟩]
 else if i.op=15 then [⟨6,0,0,0,n⟩,⟨8,b,0,i.d,0⟩]
 else if i.op=11\/i.op=12 then [⟨2,0,0,i.d,0⟩,⟨2,0,0,i.a,0⟩]
 else if i.op=13 then [⟨2,0,0,i.a,0⟩]
 else [⟨2,0,0,i.a,0⟩,⟨2,0,0,i.k,0⟩,⟨3,b,b+1,i.op-2,0⟩,⟨8,b+2,0,i.d,0⟩]
def dW(n:Int)(b:Blk)(i:Ins):Blk:=
 if i.op=11\/i.op=12 then {b with ops:=b.ops++gu n b.ops.length i,fin:=i.op-8,x:=b.ops.length,y:=b.ops.length+1,k:=i.k}
 else if i.op=13 then {b with ops:=b.ops++gu n b.ops.length i,fin:=2,x:=b.ops.length,k:=0}
 else {b with ops:=b.ops++gu n b.ops.length i}
def oN:Int->Blk->List Ins->Blk
 | _,b,[]=>b
 | n,b,i::r=>oN (n+1) (dW n b i) r
def vH(a:Int)(l:List Ins):Blk:=⟨a,l.length,[],1,0,0,a+l.length⟩
noncomputable def lower (a:Int) (l:List Ins):Blk:=if bp (oC a l)=true then oN 0 (vH a l) l else Xw
def adr(m:aG)(i:Ins):Int:=(((m.regs).getD (i.a).toNat default)+i.k)%65536
def eff(m:aG)(i:Ins):aG:=
 if i.op=1 then {m with regs:=m.regs.set i.d.toNat i.k}
 else if i.op=2 then {m with regs:=m.regs.set i.d.toNat ((m.regs).getD (i.a).toNat default)}
 else if i.op=8 then {m with regs:=m.regs.set i.d.toNat (((m.regs).getD (i.a).toNat default)*2^i.k.toNat%65536)}
 else if i.op=9 then {m with regs:=m.regs.set i.d.toNat ((m.mem).getD (adr m i).toNat default)}
 else if i.op=10 then {m with mem:=m.mem.set (adr m i).toNat ((m.regs).getD (i.d).toNat default)}
 else if i.op=14 then {m with outs:=m.outs++ [((m.regs).getD (i.d).toNat default)]}
 else if i.op=15 then {m with regs:=m.regs.set i.d.toNat (m.ins.getD 0 default),ins:=m.ins.drop 1}
 else if i.op=0 then(if i.k=0 then {m with halt:=1}else if i.k=1 then {m with bG:=true}else {m with bG:=decide (i.k=2)})
 else if 11<=i.op then m
 else {m with regs:=m.regs.set i.d.toNat (wdo (i.op-2) ((m.regs).getD (i.a).toNat default) ((m.regs).getD (i.k).toNat default))}
def nxt(m:aG)(i:Ins):Int:=
 if i.op=0/\i.k=1 then m.save
 else if(i.op=11\/i.op=12)/\M9 (i.op-10) ((m.regs).getD (i.d).toNat default) ((m.regs).getD (i.a).toNat default)=true then i.k
 else if i.op=13 then((m.regs).getD (i.a).toNat default)
 else(m.pc+1)%65536
def exec(m:aG)(i:Ins):aG:=if(i.op=9\/i.op=10)/\64<=adr m i then {m with halt:=3}else {eff m i with pc:=nxt m i,count:=m.count+1}
noncomputable def stepM (m:aG) (b:Bool):aG:=
 let w:=m.waits || b
 let a:aG:=if w=true/\m.bG=true then {m with waits:=false,bG:=false,save:=m.pc,pc:=48}else {m with waits:=w}
 if 64<=a.pc then {a with halt:=4}
 else if bp (bP (eH ((a.mem).getD (a.pc).toNat default)))=false then {a with halt:=2}
 else exec a (eH ((a.mem).getD (a.pc).toNat default))
theorem Wos.at{l:List Int}(h:Wos l)(i:Int):Wo ((l).getD (i).toNat default):=by
 by_cases c:i.toNat<l.length
 .rw [getD_lt c];exact h _ (getElem_mem _)
 .rw [getD_eq_getElem?_getD,getElem?_eq_none ah];exact⟨by decide,by decide⟩
theorem XJ{k:Int}(b:0<=k)(c:k<=15):Wo (2^k.toNat):=by
 obtain⟨j,rfl⟩:∃j:Nat,k=j:=⟨k.toNat,ah⟩;have:j<=15:=by omega
 rw [show((j:Int)).toNat=j from rfl];have h:(2:Nat)^j<=2^15:=Nat.pow_le_pow_right (by decide) this;have e:((2:Int)^j)=((2^j:Nat):Int):=by simp
 rw [e];have a:(2:Nat)^15=32768:=by decide
 rw [a]at h;generalize (2:Nat)^j=z at h;exact⟨ah,ah⟩
section
variable (B:Blk) (m:aG) (v:List Int)
theorem st2(k:Int):gP B ⟨m,v,false⟩ ⟨2,0,0,k,0⟩=⟨m,v++ [((m.regs).getD (k).toNat default)],false⟩:=by simp [gP,mM,mV]
end
theorem Z4(B:Blk)(m:aG)(v:List Int):∀l:List IOp,l.foldl (gP B) ⟨m,v,true⟩=⟨m,v,true⟩
 | []=>rfl
 | o::r=>by rw [foldl_cons,show gP B ⟨m,v,true⟩ o=⟨m,v,true⟩ by simp [gP]];exact Z4 B m v r
end Go.TX.F
namespace Go.TX.F
open Go Go.AE Go.TX List
def MSh(m:aG):Prop:=m.regs.length<1000000000/\m.mem.length<1000000000/\m.ins.length<1000000000/\m.outs.length<1000000000
abbrev m10(m : aG) : Int × Int × Bool × Bool × Int × Int × List Int × List Int × List Int × List Int × Unit := (m.pc, m.save, m.bG, m.waits, m.halt, m.count, m.regs, m.mem, m.ins, m.outs, ())
abbrev mB(m : aG) : Int × Int × Bool × Bool × Int × List Int × Int × List Int × List Int × List Int × Unit := (m.pc, m.save, m.bG, m.waits, m.halt, m.ins, m.count, m.regs, m.mem, m.outs, ())
def MRB:(∀m:aG,jy .ay 0 .i64 m=m.regs)/\(∀m:aG,cu .ay 1 m=m.pc)/\(∀m:aG,jy .ay 2 .i64 m=m.mem)/\(∀m:aG,cu .ay 3 m=m.save)/\(∀m:aG,LH .ay 4 m=m.bG)/\(∀m:aG,LH .ay 5 m=m.waits)/\(∀m:aG,cu .ay 6 m=m.halt)/\(∀m:aG,jy .ay 7 .i64 m=m.ins)/\(∀m:aG,jy .ay 8 .i64 m=m.outs)/\(∀m:aG,cu .ay 9 m=m.count):=
 ⟨λ_=>rfl,λ_=>rfl,λ_=>rfl,λ_=>rfl,λ_=>rfl,λ_=>rfl,λ_=>rfl,λ_=>rfl,λ_=>rfl,λ_=>rfl⟩
def xg{a b c:Int}:inB a b c=bp (b<=a/\a<=c):=by rw [iU];simp only [inB,w9]
abbrev aow(b : List Int × Unit -> Bool)(a : List Int × Unit -> Bool × Unit) : Prop := ∀ l, l.length < 1000000000 -> b (l, ()) = true /\ a (l, ()) = (bp (Wos l), ())
def as4{p1 f1 p2 f2 p3 f3}(g:Y9 p1 f1)(f:Y1 p2 f2)(a:aow p3 f3)(m:aG)(h:MSh m):aeL.F (p1,f1,p2,f2,p3,f3,()) (m,()) (λy=>y=(bp (MOK m),())):=by
 obtain⟨d,e,b,c⟩:=h;dsimp only [aeL,gm];simp (disch:=omega) only [RR,MRB,g,f,a _ d,a _ e,a _ b,a _ c,xg,w9];simp only [<-iU];refine Prod.ext (kQ ⟨λh=> ?_,λh=> ?_⟩) rfl
 .obtain⟨⟨⟨⟨⟨⟨⟨⟨⟨h1,h2⟩,h3⟩,h4⟩,h5⟩,h6⟩,h7⟩,h8⟩,h9⟩,h10⟩:=h;exact⟨ah,h3,ah,h4,h5,h6,h7,h8,h9,h10⟩
 .exact⟨⟨⟨⟨⟨⟨⟨⟨⟨by have:=h.r4;omega,by have:=h.m64;omega⟩,h.rw⟩,h.mw⟩,h.pc⟩,h.sv⟩,h.iw⟩,h.ow⟩,h.ha⟩,h.ct⟩
abbrev au2(b : List Int × Unit -> Bool)(a : List Int × Unit -> List Int × Unit) : Prop := ∀ l, l.length <= 1073741824 -> b (l, ()) = true /\ a (l, ()) = (l, ())
variable{l:List Int}{s:MS}{b:Blk}{i:Nat}
def Wos.set(h:Wos l){n:Int}(w:Wo n)(i:Nat):Wos (l.set i n):=λx a=>(mem_or_eq_of_mem_set a).elim (h x) (λe=>e▸w)
def Wos.drop(h:Wos l)(i:Nat):Wos (l.drop i):=λx a=>h x (mem_of_mem_drop a)
def Wos.snoc(h:Wos l){n:Int}(w:Wo n):Wos (l++ [n]):=λx a=>by
 rw [mem_append,mem_singleton]at a;exact a.elim (h x) (λe=>e▸w)
def wo0:Wo 0:=⟨by decide,by decide⟩
def akq(h:Wos s.vals)(o:IOp):Wo (vx s o):=by
 unfold vx;split
 .exact h.at _
 .exact wo0
def as5(h:Wos s.vals)(o:IOp):Wo (vy s o):=by
 unfold vy;split
 .exact h.at _
 .exact wo0
def Wos.hd(h:Wos l):Wo (l.getD 0 default):=h.at 0
def as6{o:IOp}(h:Wos s.vals)(k:MOK s.m)(a:o.kind=1->0<=o.k/\o.k<=65535):Wo (mV s o):=by
 unfold mV;split
 .exact a ‹_›
 split
 .exact k.rw.at _
 split
 .exact EJ _ _ _
 split
 .exact k.mw.at _
 split
 .exact k.iw.hd
 .exact wo0
def as7(h:Wos s.vals)(k:MOK s.m)(o:IOp):MOK (mM s o):=by
 unfold mM;split
 .exact {k with m64:=by rw [length_set];exact k.m64,mw:=k.mw.set (as5 h o) _}
 split
 .exact {k with iw:=k.iw.drop 1}
 split
 .exact {k with ow:=k.ow.snoc (akq h o)}
 split
 .exact {k with r4:=by rw [length_set];exact k.r4,rw:=k.rw.set (akq h o) _}
 .exact k
def afw(s:MS)(o:IOp):(mM s o).ins.length<=s.m.ins.length/\(mM s o).outs.length<=s.m.outs.length+1/\(mM s o).regs.length=s.m.regs.length/\(mM s o).mem.length=s.m.mem.length:=by
 unfold mM;split
 .exact⟨Nat.le_refl _,Nat.le_succ _,rfl,length_set⟩
 split
 .exact⟨by rw [length_drop];omega,Nat.le_succ _,rfl,rfl⟩
 split
 .exact⟨Nat.le_refl _,by rw [length_append];exact Nat.le_refl _,rfl,rfl⟩
 split
 .exact⟨Nat.le_refl _,Nat.le_succ _,length_set,rfl⟩
 .exact⟨Nat.le_refl _,Nat.le_succ _,rfl,rfl⟩
def as8(b:Blk)(s:MS)(o:IOp):(gP b s o).m.ins.length<=s.m.ins.length/\(gP b s o).m.outs.length<=s.m.outs.length+1/\(gP b s o).m.regs.length=s.m.regs.length/\(gP b s o).m.mem.length=s.m.mem.length:=by
 unfold gP;split
 .exact⟨Nat.le_refl _,Nat.le_succ _,rfl,rfl⟩
 split
 .exact⟨Nat.le_refl _,Nat.le_succ _,rfl,rfl⟩
 split
 .exact afw s o
 .exact afw s o
def Na(b:Blk):∀(l:List IOp) (s:MS),(l.foldl (gP b) s).m.ins.length<=s.m.ins.length/\(l.foldl (gP b) s).m.outs.length<=s.m.outs.length+l.length/\(l.foldl (gP b) s).m.regs.length=s.m.regs.length/\(l.foldl (gP b) s).m.mem.length=s.m.mem.length
 | [],s=>⟨Nat.le_refl _,Nat.le_refl _,rfl,rfl⟩
 | o::l,s=>by
  rw [foldl_cons];have h:=Na b l (gP b s o);have k:=as8 b s o;simp only [length_cons];exact⟨ah,ah,ah,ah⟩
def ajr{m:aG}(a:bR b)(c:MSh m)(i:m.outs.length<900000000):MSh (XI b (b.ops.foldl (gP b) ⟨m,[],false⟩)):=by
 have h:=Na b b.ops ⟨m,[],false⟩;have e:=a.sz;obtain⟨f,j,d,g⟩:=c;dsimp only at h;unfold XI;split<;>refine⟨?_,?_,?_,?_⟩<;>(try dsimp only)<;>omega
def SM(b:Blk)(a:aG)(i:Nat):MS:=(b.ops.take i).foldl (gP b) ⟨a,[],false⟩
structure RJ(b:Blk)(m0:aG)(i:Nat)(S:MS):Prop where
 e:S=SM b m0 i
 lf:S.left=false
 ln:S.vals.length=i
 wv:Wos S.vals
 ok:MOK S.m
 li:S.m.ins.length<1000000000
 lo:S.m.outs.length<=m0.outs.length+i
def Z5{c:aG}(a:i<b.ops.length):SM b c (i+1)=gP b (SM b c i) (b.ops.getD i default):=by
 unfold SM;rw [take_succ_eq_append_getElem a,foldl_append,getD_lt a];rfl
def ajs{a:aG}{m:aG}{v:List Int}(h:SM b a i=⟨m,v,true⟩):b.ops.foldl (gP b) ⟨a,[],false⟩=⟨m,v,true⟩:=by
 conv=>lhs;rw [<-take_append_drop i b.ops]
 rw [foldl_append,show(b.ops.take i).foldl (gP b) ⟨a,[],false⟩=_ from h];exact Z4 b m v _
def RJ.next{a:aG}{S:MS}{o:IOp}(h:RJ b a i S)(c:i<b.ops.length)(e:b.ops.getD i default=o)(g:o.kind=1->0<=o.k/\o.k<=65535)
  (f:¬((o.kind=4\/o.kind=5)/\64<=vx S o)) (d:¬(o.kind=5/\b.pc+o.at_+1<=vx S o/\vx S o<=b.pc+b.len-1)):RJ b a (i+1) ⟨mM S o,S.vals++ [mV S o],false⟩:=by
 have l:=afw S o;refine⟨?_,rfl,by rw [length_append,h.ln];rfl,h.wv.snoc (as6 h.wv h.ok g),as7 h.wv h.ok o,by have:=h.li;dsimp only;omega,by have:=h.lo;dsimp only;omega⟩;rw [Z5 c,<-h.e,e];unfold gP;rw [if_neg (by rw [h.lf];decide),if_neg f,if_neg d]
end Go.TX.F
namespace Go.TX.F
open Go Go.AE Go.TX List
def afx(a b:Int):M9 1 a b=(inB a 0 65535&&inB b 0 65535&&decide (a=b)):=by unfold M9;simp
def afy(a b:Int):M9 2 a b=(inB a 0 65535&&inB b 0 65535&&decide (a<b)):=by unfold M9;simp
def RT(b:Blk)(a:aG)(y:List IOp×Int×Int×Int×Int×Bool×Bool×Int×List Int×Int×List Int×List Int×Blk×Ms):Prop:=
 ∃(i:Nat) (S:MS),i<=b.ops.length/\RJ b a i S/\y=(b.ops,(b.ops.length:Int),(i:Int),S.m.pc,S.m.save,S.m.bG,S.m.waits,S.m.halt,S.m.ins,S.m.count,S.m.regs,S.m.mem,b,S.vals++replicate (b.ops.length-i) 0,S.m.outs,())
abbrev afz(b : aG × Unit -> Bool)(a : aG × Unit -> Int × Int × Bool × Bool × Int × Int × List Int × List Int × List Int × List Int × Unit) : Prop := ∀ m, MSh m -> b (m, ()) = true /\ a (m, ()) = m10 m
abbrev XK(b : aG × Unit -> Bool)(a : aG × Unit -> Bool × Unit) : Prop := ∀ m, MSh m -> b (m, ()) = true /\ a (m, ()) = (bp (MOK m), ())
def as9{n:Int}(b:0<=n)(a:n<=15):(wK.getD n.toNat default).d=decide (n≠0/\n≠13)/\(wK.getD n.toNat default).a=decide (n≠0/\n≠1/\n≠14/\n≠15)/\
  (wK.getD n.toNat default).most=(if n=0 then 3 else if n=1 then 255 else if n=2 then 0 else if n<=7 then 3 else if n=8 then 15 else if n<=12 then 255 else 0):=by
 rcases(by omega:n=0\/n=1\/n=2\/n=3\/n=4\/n=5\/n=6\/n=7\/n=8\/n=9\/n=10\/n=11\/n=12\/n=13\/n=14\/n=15)with h | h | h | h | h | h | h | h | h | h | h | h | h | h | h | h<;>subst h<;>exact⟨rfl,rfl,rfl⟩
theorem aox:(wK.length:Int)=16:=rfl
theorem ata{p1 f1 p2 f2}(l:Y1 p1 f1)(j:Y17 p2 f2)(i:Ins):adZ.F (p1,f1,p2,f2,()) (i,()) (λy=>y=(bp (bP i),())):=by
 have d:(∀i:Ins,cu .ins 0 i=i.op)/\(∀i:Ins,cu .ins 1 i=i.d)/\(∀i:Ins,cu .ins 2 i=i.a)/\(∀i:Ins,cu .ins 3 i=i.k)/\(∀f:Form,LH .form 0 f=f.d)/\(∀f:Form,LH .form 1 f=f.a)/\(∀f:Form,cu .form 2 f=f.most):=⟨λ_=>rfl,λ_=>rfl,λ_=>rfl,λ_=>rfl,λ_=>rfl,λ_=>rfl,λ_=>rfl⟩;have m:Zg .form=wK:=rfl;dsimp only [adZ,gm];simp (disch:=omega) only [RR,d,l,j,m,aox,bD,jF];refine⟨λh=>by rw [aV (λg=>h ⟨g.1.1,g.1.2⟩)],λh=> ?_⟩;obtain⟨c,a,b⟩:=as9 h.1 h.2;rw [c,a,b];refine⟨h.1,ah,Prod.ext ?_ rfl⟩;simp only [xg,w9];have e:∀P Q:Prop,(bp P || bp Q)=bp (P\/Q):=λP Q=>by by_cases n:P<;>by_cases k:Q<;>simp [bp,n,k]
 simp only [e,<-iU];refine kQ ?_;unfold bP;obtain⟨o,p⟩:=h;rcases(by omega:i.op=0\/i.op=1\/i.op=2\/(3<=i.op/\i.op<=7)\/i.op=8\/(9<=i.op/\i.op<=12)\/i.op=13\/i.op=14\/i.op=15)with h | h | h | h | h | h | h | h | h
 all_goals (constructor<;>intro g<;>(repeat' split at g)<;>(repeat' split)<;>omega)
def atb{p1 f1}(b:Y1 p1 f1)(a:Int):adY.F (p1,f1,()) (a,()) (λy=>y=(inB a 11 13,())):=by
 dsimp only [adY,gm];simp (disch:=omega) only [RR,b]
abbrev afA(c : Int × Unit -> Bool)(b : Int × Unit -> Bool × Unit) : Prop := ∀ a, c (a, ()) = true /\ b (a, ()) = (inB a 11 13, ())
abbrev XL(b : Ins × Unit -> Bool)(a : Ins × Unit -> Bool × Unit) : Prop := ∀ i, b (i, ()) = true /\ a (i, ()) = (bp (bP i), ())
theorem au3{p1 f1 p2 f2 p3 f3}(o:afA p1 f1)(f:XL p2 f2)(s:Y1 p3 f3)(k:Int)(l:List Ins)(A:l.length<1000000000):alV.F (p1,f1,p2,f2,p3,f3,()) (k,l,()) (λy=>y=(bp (oC k l),())):=by
 have p:∀i:Ins,cu .ins 0 i=i.op:=λ_=>rfl
 dsimp only [alV,gm];simp (disch:=omega) only [RR,p,o,f,s,bD,jF];refine⟨λh=> ?_,λh=> ?_⟩
 .rw [aV];intro g;have a:=g.ln;have c:=g.pc;omega
 refine au (λ(y:List Ins×List Ins×ni)=>y.1=l/\y.2.1=l/\y.2.2.1=l.length/\0<=y.2.2.2.1/\y.2.2.2.1<=l.length/\∀j:Nat,j<y.2.2.2.1->bP (l.getD j default)/\(l.getD j default).op≠0/\(11<=(l.getD j default).op/\(l.getD j default).op<=13->j+1=l.length)) (λy=>(l.length-y.2.2.2.1).toNat) ⟨rfl,rfl,rfl,by simp,by simp,λj b=>absurd b (by dsimp only;omega)⟩ ?_;rintro⟨(z:List Ins),(w:List Ins),(n:Int),(i:Int),⟨⟩⟩ hI;dsimp only at hI ⊢;obtain⟨rfl,rfl,rfl,t,x,d⟩:=hI;simp (disch:=omega) only [RR,p,o,f,bD,jF,aH,iE];refine⟨λg=>⟨t,g,λe=> ?_,λe=>⟨⟨ah,ah,λj b=> ?_⟩,ah⟩⟩,λg=> ?_⟩
 .rw [aV];intro v;have:=v.ok i.toNat ah;rcases e with(e | e) | e
  .exact e this.1
  .exact this.2.1 e
  .have:=this.2.2 e.1;omega
 .by_cases c:j<i
  .exact d j c
  .have ej:j=i.toNat:=by omega
   subst ej;obtain⟨⟨r,u⟩,m⟩:=e;refine⟨r,u,λq=> ?_⟩;rw [bD.2 q,Bool.true_and]at m;have:=of_decide_eq_false m;omega
 .rw [aL];exact⟨ah,ah,λj b=>d j ah⟩
theorem aoy{p1 f1}(p:Y61 p1 f1)(g x y k n o j i l m a:Int)(f:List IOp)(h:f.length<1000000):Tv.F (p1,f1,()) (g,x,y,k,n,o,j,i,l,m,a,f,()) (λq=>q=((f.length:Int),n,o,j,i,l,m,a,f++ [⟨g,x,y,k,if 4<=g/\g<=7 then a else 0⟩],())):=by
 have mk:∀a b c d e:Int,Co.mk .iop (a,b,c,d,e,())=⟨a,b,c,d,e⟩:=λ_ _ _ _ _=>rfl
 dsimp only [Tv,gm];simp (disch:=omega) only [RR,mk,p,evO,length_cons,length_nil,length_append];refine⟨λc=>⟨ah,?_⟩,λc=>⟨ah,?_⟩⟩
 .rw [if_pos c,show((f.length+(0+1):Nat):Int)-1=f.length by omega]
 .rw [if_neg c,show((f.length+(0+1):Nat):Int)-1=f.length by omega]
abbrev afB(j : Int × Int × Int × Int × Int × Int × Int × Int × Int × Int × Int × List IOp × Unit -> Bool)(l : Int × Int × Int × Int × Int × Int × Int × Int × Int × Int × Int × List IOp × Unit -> Int × Int × Int × Int × Int × Int × Int × Int × List IOp × Unit) : Prop := ∀ (c x y k f g d e h i a : Int) (b : List IOp), b.length < 1000000 -> j (c, x, y, k, f, g, d, e, h, i, a, b, ()) = true /\ l (c, x, y, k, f, g, d, e, h, i, a, b, ()) = ((b.length : Int), f, g, d, e, h, i, a, b ++ [⟨c, x, y, k, if 4 <= c /\ c <= 7 then a else 0⟩], ())
def aoz{p1 f1}(j:afB p1 f1)(k e f c d g i a:Int)(b:List IOp)(h:b.length<1000000):Tx.F (p1,f1,()) (k,e,f,c,d,g,i,a,b,()) (λy=>y=((b.length:Int),e,f,c,d,g,i,a,b++ [⟨1,0,0,k,0⟩],())):=by
 dsimp only [Tx,gm];simp (disch:=omega) only [RR,j 1 0 0 k e f c d g i a b h];rfl
def aoA{p1 f1}(j:afB p1 f1)(k e f c d g i a:Int)(b:List IOp)(h:b.length<1000000):Tz.F (p1,f1,()) (k,e,f,c,d,g,i,a,b,()) (λy=>y=((b.length:Int),e,f,c,d,g,i,a,b++ [⟨2,0,0,k,0⟩],())):=by
 dsimp only [Tz,gm];simp (disch:=omega) only [RR,j 2 0 0 k e f c d g i a b h];rfl
def aoB{p1 f1}(k:afB p1 f1)(j x y e f c d g i a:Int)(b:List IOp)(h:b.length<1000000):TA.F (p1,f1,()) (j,x,y,e,f,c,d,g,i,a,b,()) (λz=>z=((b.length:Int),e,f,c,d,g,i,a,b++ [⟨3,x,y,j,0⟩],())):=by
 dsimp only [TA,gm];simp (disch:=omega) only [RR,k 3 x y j e f c d g i a b h];rfl
theorem aoC{p1 f1}(l:afB p1 f1)(v:Int)(i:Ins)(e f c d g j a:Int)(b:List IOp)(h:b.length<1000000):Tw.F (p1,f1,()) (v,i,e,f,c,d,g,j,a,b,()) (λy=>y=(i,e,f,c,d,g,j,a,b++ [⟨8,v,0,i.d,0⟩],())):=by
 have k:cu .ins 1 i=i.d:=rfl;dsimp only [Tw,gm];simp (disch:=omega) only [RR,k,l 8 v 0 i.d e f c d g j a b h];rfl
def ajt{k:Int}(a:0<=k)(b:k<=15):iD .shl .i64 1 k=2^k.toNat:=by
 have p:=XJ a b;unfold Wo at p;show IntKind.i64.wrap (1*2^ (min k.toNat 64))=_;rw [Nat.min_eq_left ah,Int.one_mul,w64 ah ah]
set_option maxHeartbeats 1000000 in
def aoD{p4 f4}{O:Int×Int×El->Bool}{W:Int×Int×El->El}{R:El->Bool}{V:El->El}{S:Int×Ins×Int×ak->Bool}{T:Int×Ins×Int×ak->Ins×Int×ak}{P:El->Bool}{M:El->El}(s:∀(L x y j d c e f g a:Int) (b:List IOp),b.length<1000000->O (L,x,y,j,d,c,e,f,g,a,b,())=true/\W (L,x,y,j,d,c,e,f,g,a,b,())=((b.length:Int),j,d,c,e,f,g,a,b++ [⟨3,x,y,L,0⟩],()))(m:∀(k j d c e f g a:Int) (b:List IOp),b.length<1000000->R (k,j,d,c,e,f,g,a,b,())=true/\V (k,j,d,c,e,f,g,a,b,())=((b.length:Int),j,d,c,e,f,g,a,b++ [⟨2,0,0,k,0⟩],()))(u:∀(v:Int) (i:Ins) (j d c e f g a:Int) (b:List IOp),b.length<1000000->S (v,i,j,d,c,e,f,g,a,b,())=true/\T (v,i,j,d,c,e,f,g,a,b,())=(i,j,d,c,e,f,g,a,b++ [⟨8,v,0,i.d,0⟩],()))(C:afB p4 f4)(w:∀(k j d c e f g a:Int) (b:List IOp),b.length<1000000->P (k,j,d,c,e,f,g,a,b,())=true/\M (k,j,d,c,e,f,g,a,b,())=((b.length:Int),j,d,c,e,f,g,a,b++ [⟨1,0,0,k,0⟩],()))(i:Ins)(B:Blk)(a:Int)(h:B.ops.length<900000)(K:i.op=8->0<=i.k/\i.k<=15)(Z:0<=i.op/\i.op<=15):TB.F (O,W,R,V,S,T,p4,f4,P,M,()) (i,B.pc,B.len,B.fin,B.x,B.y,B.k,a,B.ops,()) (λy=>y=((dW a B i).pc,(dW a B i).len,(dW a B i).fin,(dW a B i).x,(dW a B i).y,(dW a B i).k,a,(dW a B i).ops,())):=by
 have t:(∀i:Ins,cu .ins 0 i=i.op)/\(∀i:Ins,cu .ins 1 i=i.d)/\(∀i:Ins,cu .ins 2 i=i.a)/\(∀i:Ins,cu .ins 3 i=i.k):=⟨λ_=>rfl,λ_=>rfl,λ_=>rfl,λ_=>rfl⟩;have d:∀n:Int,n+1+1=n+2:=λn=>by omega
 have c:∀n:Int,n+2+1=n+3:=λn=>by omega
 have e:∀n:Int,n-3+1=n-2:=λn=>by omega
 obtain⟨a0,Y⟩:=Z;have z:∀(l:List IOp) (o:IOp),((l++ [o]).length:Int)=l.length+1:=λl o=>by rw [length_append];rfl
 have p:∀(l:List IOp) (o:IOp),l.length<990000->(l++ [o]).length<1000000:=λl o h=>by rw [length_append];simp only [length_cons,length_nil];omega
 have A:∀(l:List IOp) (o D:IOp),l.length<990000->((l++ [o])++ [D]).length<1000000:=λl o D h=>by simp only [length_append,length_cons,length_nil];omega
 have r:∀(l:List IOp) (o D F:IOp),l.length<990000->(((l++ [o])++ [D])++ [F]).length<1000000:=λl o D F h=>by simp only [length_append,length_cons,length_nil];omega
 have q:∀(l:List IOp) (o D F U:IOp),l.length<990000->((((l++ [o])++ [D])++ [F])++ [U]).length<1000000:=λl o D F U h=>by simp only [length_append,length_cons,length_nil];omega
 dsimp only [TB,gm];unfold dW gu;by_cases Q:i.op=1
 .simp (disch:=first | omega | (apply p;omega) | (apply A;omega) | (apply r;omega) | (apply q;omega)) only [RR,t,Q,s,m,u,C,w,z,Int.reduceEq,Int.reduceAdd,Int.reduceSub,Int.reduceLE,or_self,true_and,and_true,and_self,false_and,and_false]
  try simp [d,c]
 by_cases X:i.op=2
 .simp (disch:=first | omega | (apply p;omega) | (apply A;omega) | (apply r;omega) | (apply q;omega)) only [RR,t,X,s,m,u,C,w,z,Int.reduceEq,Int.reduceAdd,Int.reduceSub,Int.reduceLE,or_self,true_and,and_true,and_self,false_and,and_false]
  try simp [d,c]
 by_cases J:i.op=8
 .simp (disch:=first | omega | (apply p;omega) | (apply A;omega) | (apply r;omega) | (apply q;omega)) only [RR,t,J,s,m,u,C,w,z,Int.reduceEq,Int.reduceAdd,Int.reduceSub,Int.reduceLE,or_self,true_and,and_true,and_self,false_and,and_false,ajt (K J).1 (K J).2,(K J).1]
  try simp [d,c]
 by_cases N:i.op=9
 .simp (disch:=first | omega | (apply p;omega) | (apply A;omega) | (apply r;omega) | (apply q;omega)) only [RR,t,N,s,m,u,C,w,z,Int.reduceEq,Int.reduceAdd,Int.reduceSub,Int.reduceLE,or_self,true_and,and_true,and_self,false_and,and_false]
  try simp [d,c]
 by_cases I:i.op=10
 .simp (disch:=first | omega | (apply p;omega) | (apply A;omega) | (apply r;omega) | (apply q;omega)) only [RR,t,I,s,m,u,C,w,z,Int.reduceEq,Int.reduceAdd,Int.reduceSub,Int.reduceLE,or_self,true_and,and_true,and_self,false_and,and_false]
  try simp [d,c]
 by_cases G:i.op=14
 .simp (disch:=first | omega | (apply p;omega) | (apply A;omega) | (apply r;omega) | (apply q;omega)) only [RR,t,G,s,m,u,C,w,z,Int.reduceEq,Int.reduceAdd,Int.reduceSub,Int.reduceLE,or_self,true_and,and_true,and_self,false_and,and_false]
  try simp [d,c]
 by_cases H:i.op=15
 .simp (disch:=first | omega | (apply p;omega) | (apply A;omega) | (apply r;omega) | (apply q;omega)) only [RR,t,H,s,m,u,C,w,z,Int.reduceEq,Int.reduceAdd,Int.reduceSub,Int.reduceLE,or_self,true_and,and_true,and_self,false_and,and_false]
  try simp [d,c]
 by_cases E:i.op=11
 .simp (disch:=first | omega | (apply p;omega) | (apply A;omega) | (apply r;omega) | (apply q;omega)) only [RR,t,E,s,m,u,C,w,z,Int.reduceEq,Int.reduceAdd,Int.reduceSub,Int.reduceLE,or_self,true_and,and_true,and_self,false_and,and_false]
  try simp [d,c]
 by_cases e12:i.op=12
 .simp (disch:=first | omega | (apply p;omega) | (apply A;omega) | (apply r;omega) | (apply q;omega)) only [RR,t,e12,s,m,u,C,w,z,Int.reduceEq,Int.reduceAdd,Int.reduceSub,Int.reduceLE,or_self,true_and,and_true,and_self,false_and,and_false]
  try simp [d,c]
 by_cases e13:i.op=13
 .simp (disch:=first | omega | (apply p;omega) | (apply A;omega) | (apply r;omega) | (apply q;omega)) only [RR,t,e13,s,m,u,C,w,z,Int.reduceEq,Int.reduceAdd,Int.reduceSub,Int.reduceLE,or_self,true_and,and_true,and_self,false_and,and_false]
  try simp [d,c]
 simp (disch:=first | omega | (apply p;omega) | (apply A;omega) | (apply r;omega) | (apply q;omega)) only [RR,t,Q,X,J,N,I,G,H,E,e12,e13,s,m,u,C,w,z,Int.reduceEq,Int.reduceAdd,Int.reduceSub,Int.reduceLE,or_self,true_and,and_true,and_self,false_and,and_false]
 try simp [d,c,e]
def afC(n b:Int)(i:Ins):(gu n b i).length<=5:=by
 unfold gu;repeat' split
 all_goals simp only [length_cons,length_nil]
 all_goals omega
def afD(n:Int)(b:Blk)(i:Ins):(dW n b i).ops.length<=b.ops.length+5:=by
 have:=afC n b.ops.length i;unfold dW;repeat' split
 all_goals (dsimp only;rw [length_append];omega)
def yQ:∀(l:List Ins) (n:Int) (b:Blk) (i:Ins),oN n b (l++ [i])=dW (n+l.length) (oN n b l) i
 | [],n,b,i=>by simp [oN]
 | j::l,n,b,i=>by
  show oN (n+1) (dW n b j) (l++ [i])=dW _ (oN (n+1) (dW n b j) l) i;rw [yQ l (n+1) (dW n b j) i,length_cons,show n+1+(l.length:Int)=n+((l.length+1:Nat):Int) by omega]
def BF:∀(l:List Ins) (n:Int) (b:Blk),(oN n b l).ops.length<=b.ops.length+5*l.length
 | [],_,_=>Nat.le_refl _
 | i::l,n,b=>by
  show(oN (n+1) (dW n b i) l).ops.length<=_;have:=BF l (n+1) (dW n b i);have:=afD n b i;rw [length_cons];omega
abbrev atc(c : Int × List Ins × Unit -> Bool)(b : Int × List Ins × Unit -> Bool × Unit) : Prop := ∀ a l, l.length < 1000000000 -> c (a, l, ()) = true /\ b (a, l, ()) = (bp (oC a l), ())
theorem au4{p1 f1 p2 f2}{j:Ins×Int×ak->Bool}{k:Ins×Int×ak->Int×ak}(q:atc p1 f1)(p:Y99 p2 f2)(r:∀(i:Ins) (B:Blk) (a:Int),B.ops.length<900000->(i.op=8->0<=i.k/\i.k<=15)->(0<=i.op/\i.op<=15)->j (i,B.pc,B.len,B.fin,B.x,B.y,B.k,a,B.ops,())=true/\k (i,B.pc,B.len,B.fin,B.x,B.y,B.k,a,B.ops,())=((dW a B i).pc,(dW a B i).len,(dW a B i).fin,(dW a B i).x,(dW a B i).y,(dW a B i).k,a,(dW a B i).ops,()))(f:Int)(l:List Ins)(u:l.length<1000000000):alW.F (p1,f1,p2,f2,j,k,()) (f,l,()) (λy=>y=bk7 (lower f l)):=by
 have mE:∀c:Blk,Co.mk .blk (c.pc,c.len,c.ops,c.fin,c.x,c.y,c.k,())=c:=λ_=>rfl
 dsimp only [alW,gm,mJ];simp (disch:=omega) only [RR,q f l u,aH,iE];unfold lower;refine⟨λh=>by rw [aV h,if_neg (by decide)];rfl,λh=> ?_⟩;rw [aL h,if_pos rfl];have w:=h.ln;have z:=h.pc;refine au (λ(y:List Ins×Int×Int×Int×oz)=>y.1=l/\y.2.1=l.length/\0<=y.2.2.1/\y.2.2.1<=l.length/\∃B:Blk,B=oN 0 (vH f l) (l.take y.2.2.1.toNat)/\y.2.2.2.2.2.2.2.2.2.1=B.pc/\y.2.2.2.2.2.2.2.2.2.2.1=B.len/\y.2.2.2.2.2.2.2.2.2.2.2.1=B.fin/\y.2.2.2.2.2.2.2.2.2.2.2.2.1=B.x/\y.2.2.2.2.2.2.2.2.2.2.2.2.2.1=B.y/\y.2.2.2.2.2.2.2.2.2.2.2.2.2.2.1=B.k/\y.2.2.2.2.2.2.2.2.2.2.2.2.2.2.2.2.1=B.ops) (λy=>(l.length-y.2.2.1).toNat) ⟨rfl,rfl,by simp,by simp,_,rfl,rfl,rfl,rfl,rfl,rfl,w64 ah ah,rfl⟩ ?_;rintro⟨(b:List Ins),(n:Int),(i:Int),z1,z2,z3,z4,z5,z6,q1,q2,q3,q4,q5,q6,q7,q8,⟨⟩⟩ hI;dsimp only at hI ⊢;obtain⟨rfl,rfl,m,x,B,g,rfl,rfl,rfl,rfl,rfl,rfl,rfl⟩:=hI;have v:B.ops.length<=40:=by
  have:=BF (b.take i.toNat) 0 (vH f b);rw [<-g]at this;have t:=length_take_le i.toNat b;have:(vH f b).ops.length=0:=rfl;omega
 by_cases c:i<b.length
 .obtain⟨o1,o2,o3⟩:=h.ok i.toNat ah;have s:(((b).getD (i).toNat default)).op=8->0<=(((b).getD (i).toNat default)).k/\(((b).getD (i).toNat default)).k<=15:=λe=>⟨o1.2.2.2.1,o1.2.2.2.2.2.2.2.2.1 e⟩
  have o:=o1.1;simp (disch:=omega) only [RR,c,r (((b).getD (i).toNat default)) B i ah s o];refine⟨m,⟨ah,ah,dW i B (((b).getD (i).toNat default)),?_,rfl,rfl,rfl,rfl,rfl,rfl,rfl⟩,ah⟩;rw [<-bq (d:=default) m c rfl,yQ,<-g,length_take,show(0:Int)+((min i.toNat b.length:Nat):Int)=i by omega]
 .rw [take_of_length_le ah]at g;simp (disch:=omega) only [RR,c,mE,p B ah,<-g]
def OKS(ops:List IOp)(len:Int):Prop:=∀j:Int,0<=j->j<ops.length->nD ops len j ((ops).getD (j).toNat default)
theorem atd{a w:List IOp}{x:Int}(b:0<=x)(h:x<a.length):((a++w).getD (x).toNat default)=((a).getD (x).toNat default):=by
 rw [getD_eq_getElem?_getD,getElem?_append_left ah,<-getD_eq_getElem?_getD]
theorem ate{a w:List IOp}{t:Nat}:((a++w).getD ((a.length:Int)+t).toNat default)=w.getD t default:=by
 rw [getD_eq_getElem?_getD,getElem?_append_right ah,<-getD_eq_getElem?_getD,show((a.length:Int)+t).toNat-a.length=t by omega]
theorem Vl.mono{d w:List IOp}{x n e:Int}(h:Vl d x n)(f:n<=d.length)(h2:n<=e):Vl (d++w) x e:=by
 obtain⟨a,b,c⟩:=h;exact⟨a,ah,by rw [atd a ah];exact c⟩
theorem nD.mono{a w:List IOp}{len i:Int}{o:IOp}(h:nD a len i o)(b:i<=a.length):nD (a++w) len i o:=
 {h with x1:=λg=>(h.x1 g).mono b (Int.le_refl _),y1:=λg=>(h.y1 g).mono b (Int.le_refl _)}
theorem OKS.app{a w:List IOp}{len:Int}(h:OKS a len)(d:∀t:Nat,t<w.length->nD (a++w) len ((a.length:Int)+t) (w.getD t default)):OKS (a++w) len:=λj b e=>by
 rw [length_append]at e;by_cases c:j<a.length
 .rw [atd b c];exact(h j b c).mono ah
 .obtain⟨t,rfl⟩:∃t:Nat,j=(a.length:Int)+t:=⟨(j-a.length).toNat,ah⟩;rw [ate];exact d t ah
theorem Z6(a w:List IOp)(s t:Nat)(h:s<t)(m:mkV (w.getD s default)):Vl (a++w) ((a.length:Int)+s) ((a.length:Int)+t):=⟨ah,ah,by rw [ate];exact m⟩
section
variable {ops:List IOp} {len i x y k n:Int}
theorem ok1(h:0<=k/\k<=65535):nD ops len i ⟨1,0,0,k,0⟩:=by constructor<;>simp [hX,hY,evO]<;>omega
theorem ok2(h:0<=k/\k<=3):nD ops len i ⟨2,0,0,k,0⟩:=by constructor<;>simp [hX,hY,evO]<;>omega
theorem ok3(h:1<=k/\k<=5)(a:Vl ops x i)(b:Vl ops y i):nD ops len i ⟨3,x,y,k,0⟩:=by constructor<;>simp [hX,hY,evO,a,b]<;>omega
theorem ok4(h:0<=n/\n<len)(a:Vl ops x i):nD ops len i ⟨4,x,0,0,n⟩:=by constructor<;>simp [hX,hY,evO,a]<;>omega
theorem ok5(h:0<=n/\n<len)(a:Vl ops x i)(b:Vl ops y i):nD ops len i ⟨5,x,y,0,n⟩:=by constructor<;>simp [hX,hY,evO,a,b]<;>omega
theorem ok6(h:0<=n/\n<len):nD ops len i ⟨6,0,0,0,n⟩:=by constructor<;>simp [hX,hY,evO]<;>omega
theorem ok7(h:0<=n/\n<len)(a:Vl ops x i):nD ops len i ⟨7,x,0,0,n⟩:=by constructor<;>simp [hX,hY,evO,a]<;>omega
theorem ok8(h:0<=k/\k<=3)(a:Vl ops x i):nD ops len i ⟨8,x,0,k,0⟩:=by constructor<;>simp [hX,hY,evO,a]<;>omega
end
theorem Z7{ops:List IOp}{len n:Int}{i:Ins}(h:OKS ops len)(C:bP i)(N:i.op≠0)(hn:0<=n/\n<len):OKS (ops++gu n ops.length i) len/\
  (i.op=11\/i.op=12->Vl (ops++gu n ops.length i) ops.length ((ops++gu n ops.length i).length)/\Vl (ops++gu n ops.length i) (ops.length+1) ((ops++gu n ops.length i).length))/\
  (i.op=13->Vl (ops++gu n ops.length i) ops.length ((ops++gu n ops.length i).length)):=by
 obtain⟨⟨K,L⟩,⟨o,l⟩,⟨p,q⟩,z,_,J,M,I,G,B,E,D⟩:=C;have k:=λ(w:List IOp) (t:Nat) (h:0<t) (m:mkV (w.getD 0 default))=>show Vl (ops++w) (ops.length:Int) ((ops.length:Int)+t)from by have:=Z6 ops w 0 t h m;rwa [Int.natCast_zero,Int.add_zero]at this
 have s:=λ(w:List IOp) (t:Nat) (h:1<t) (m:mkV (w.getD 1 default))=>Z6 ops w 1 t h m
 have u:=λ(w:List IOp) (t:Nat) (h:2<t) (m:mkV (w.getD 2 default))=>Z6 ops w 2 t h m
 have A:=λ(w:List IOp) (t:Nat) (h:3<t) (m:mkV (w.getD 3 default))=>Z6 ops w 3 t h m
 have v:∀a b c d:Int,mkV ⟨1,a,b,c,d⟩:=λ_ _ _ _=>by unfold mkV;dsimp only;omega
 have j:∀a b c d:Int,mkV ⟨2,a,b,c,d⟩:=λ_ _ _ _=>by unfold mkV;dsimp only;omega
 have x:∀a b c d:Int,mkV ⟨3,a,b,c,d⟩:=λ_ _ _ _=>by unfold mkV;dsimp only;omega
 have F:∀a b c d:Int,mkV ⟨4,a,b,c,d⟩:=λ_ _ _ _=>by unfold mkV;dsimp only;omega
 have H:∀a b c d:Int,mkV ⟨6,a,b,c,d⟩:=λ_ _ _ _=>Or.inr rfl
 rcases(by omega:i.op=1\/i.op=2\/(3<=i.op/\i.op<=7)\/i.op=8\/i.op=9\/i.op=10\/(i.op=11\/i.op=12)\/i.op=13\/i.op=14\/i.op=15)with c | c | c | c | c | c | c | c | c | c
 .have e:gu n ops.length i=[⟨1,0,0,i.k,0⟩,⟨8,ops.length,0,i.d,0⟩]:=by unfold gu;rw [if_pos c]
  rw [e];refine⟨h.app λt f=> ?_,λg=>by omega,λg=>by omega⟩;rcases t with _ | _ | t
  .exact ok1 (by have:=J c;omega)
  .exact ok8 ⟨o,l⟩ (k _ 1 (by decide) (v _ _ _ _))
  .simp only [length_cons,length_nil]at f;omega
 .have e:gu n ops.length i=[⟨2,0,0,i.a,0⟩,⟨8,ops.length,0,i.d,0⟩]:=by unfold gu;rw [if_neg ah,if_pos c]
  rw [e];refine⟨h.app λt f=> ?_,λg=>by omega,λg=>by omega⟩;rcases t with _ | _ | t
  .exact ok2 ⟨p,q⟩
  .exact ok8 ⟨o,l⟩ (k _ 1 (by decide) (j _ _ _ _))
  .simp only [length_cons,length_nil]at f;omega
 .have e:gu n ops.length i=[⟨2,0,0,i.a,0⟩,⟨2,0,0,i.k,0⟩,⟨3,ops.length,ops.length+1,i.op-2,0⟩,⟨8,ops.length+2,0,i.d,0⟩]:=by
   unfold gu
   iterate 9 rw [if_neg ah]
  rw [e];refine⟨h.app λt f=> ?_,λg=>by omega,λg=>by omega⟩;rcases t with _ | _ | _ | _ | t
  .exact ok2 ⟨p,q⟩
  .exact ok2 ⟨z,I c⟩
  .exact ok3 ah (k _ 2 (by decide) (j _ _ _ _)) (s _ 2 (by decide) (j _ _ _ _))
  .exact ok8 ⟨o,l⟩ (u _ 3 (by decide) (x _ _ _ _))
  .simp only [length_cons,length_nil]at f;omega
 .have e:gu n ops.length i=[⟨2,0,0,i.a,0⟩,⟨1,0,0,2^i.k.toNat,0⟩,⟨3,ops.length,ops.length+1,3,0⟩,⟨8,ops.length+2,0,i.d,0⟩]:=by
   unfold gu;rw [if_neg ah,if_neg ah,if_pos c]
  rw [e];refine⟨h.app λt f=> ?_,λg=>by omega,λg=>by omega⟩;rcases t with _ | _ | _ | _ | t
  .exact ok2 ⟨p,q⟩
  .exact ok1 (XJ z (G c))
  .exact ok3 (by decide) (k _ 2 (by decide) (j _ _ _ _)) (s _ 2 (by decide) (v _ _ _ _))
  .exact ok8 ⟨o,l⟩ (u _ 3 (by decide) (x _ _ _ _))
  .simp only [length_cons,length_nil]at f;omega
 .have e:gu n ops.length i=[⟨2,0,0,i.a,0⟩,⟨1,0,0,i.k,0⟩,⟨3,ops.length,ops.length+1,1,0⟩,⟨4,ops.length+2,0,0,n⟩,⟨8,ops.length+3,0,i.d,0⟩]:=by
   unfold gu;rw [if_neg ah,if_neg ah,if_neg ah,if_pos c]
  have r:=B ah;rw [e];refine⟨h.app λt f=> ?_,λg=>by omega,λg=>by omega⟩;rcases t with _ | _ | _ | _ | _ | t
  .exact ok2 ⟨p,q⟩
  .exact ok1 ah
  .exact ok3 (by decide) (k _ 2 (by decide) (j _ _ _ _)) (s _ 2 (by decide) (v _ _ _ _))
  .exact ok4 hn (u _ 3 (by decide) (x _ _ _ _))
  .exact ok8 ⟨o,l⟩ (A _ 4 (by decide) (F _ _ _ _))
  .simp only [length_cons,length_nil]at f;omega
 .have e:gu n ops.length i=[⟨2,0,0,i.a,0⟩,⟨1,0,0,i.k,0⟩,⟨3,ops.length,ops.length+1,1,0⟩,⟨2,0,0,i.d,0⟩,⟨5,ops.length+2,ops.length+3,0,n⟩]:=by
   unfold gu;rw [if_neg ah,if_neg ah,if_neg ah,if_neg ah,if_pos c]
  have r:=B ah;rw [e];refine⟨h.app λt f=> ?_,λg=>by omega,λg=>by omega⟩;rcases t with _ | _ | _ | _ | _ | t
  .exact ok2 ⟨p,q⟩
  .exact ok1 ah
  .exact ok3 (by decide) (k _ 2 (by decide) (j _ _ _ _)) (s _ 2 (by decide) (v _ _ _ _))
  .exact ok2 ⟨o,l⟩
  .exact ok5 hn (u _ 4 (by decide) (x _ _ _ _)) (A _ 4 (by decide) (j _ _ _ _))
  .simp only [length_cons,length_nil]at f;omega
 .have e:gu n ops.length i=[⟨2,0,0,i.d,0⟩,⟨2,0,0,i.a,0⟩]:=by
   unfold gu
   iterate 7 rw [if_neg ah]
   rw [if_pos c]
  have y:∀a b:IOp,(((ops++ [a,b]).length:Nat):Int)=(ops.length:Int)+((2:Nat):Int):=λa b=>by rw [length_append];rfl
  rw [e];refine⟨h.app λt f=> ?_,λg=> ?_,λg=>by omega⟩
  .rcases t with _ | _ | t
   .exact ok2 ⟨o,l⟩
   .exact ok2 ⟨p,q⟩
   .simp only [length_cons,length_nil]at f;omega
  .rw [y];exact⟨k _ 2 (by decide) (j _ _ _ _),s _ 2 (by decide) (j _ _ _ _)⟩
 .have e:gu n ops.length i=[⟨2,0,0,i.a,0⟩]:=by
   unfold gu
   iterate 8 rw [if_neg ah]
   rw [if_pos c]
  have y:∀a:IOp,(((ops++ [a]).length:Nat):Int)=(ops.length:Int)+((1:Nat):Int):=λa=>by rw [length_append];rfl
  rw [e];refine⟨h.app λt f=> ?_,λg=>by omega,λg=> ?_⟩
  .rcases t with _ | t
   .exact ok2 ⟨p,q⟩
   .simp only [length_cons,length_nil]at f;omega
  .rw [y];exact k _ 1 (by decide) (j _ _ _ _)
 .have e:gu n ops.length i=[⟨2,0,0,i.d,0⟩,⟨7,ops.length,0,0,n⟩]:=by
   unfold gu
   iterate 5 rw [if_neg ah]
   rw [if_pos c]
  rw [e];refine⟨h.app λt f=> ?_,λg=>by omega,λg=>by omega⟩;rcases t with _ | _ | t
  .exact ok2 ⟨o,l⟩
  .exact ok7 hn (k _ 1 (by decide) (j _ _ _ _))
  .simp only [length_cons,length_nil]at f;omega
 .have e:gu n ops.length i=[⟨6,0,0,0,n⟩,⟨8,ops.length,0,i.d,0⟩]:=by
   unfold gu
   iterate 6 rw [if_neg ah]
   rw [if_pos c]
  rw [e];refine⟨h.app λt f=> ?_,λg=>by omega,λg=>by omega⟩;rcases t with _ | _ | t
  .exact ok6 hn
  .exact ok8 ⟨o,l⟩ (k _ 1 (by decide) (H _ _ _ _))
  .simp only [length_cons,length_nil]at f;omega
end Go.TX.F
namespace Go.TX.F
open Go Go.AE Go.TX List
variable{l:List Ins}
def Mid(i:Ins):Prop:=bP i/\i.op≠0/\¬(11<=i.op/\i.op<=13)
def afE{n:Int}{b:Blk}{i:Ins}(h:Mid i):dW n b i={b with ops:=b.ops++gu n b.ops.length i}:=by
 obtain⟨_,_,a⟩:=h;unfold dW;rw [if_neg ah,if_neg ah]
def Qb:∀(r:List Ins) (n:Int) (b:Blk),(∀i∈r,Mid i)->OKS b.ops b.len->0<=n->n+r.length<=b.len->OKS (oN n b r).ops b.len/\oN n b r={b with ops:=(oN n b r).ops}
 | [],n,b,_,h,_,_=>⟨h,rfl⟩
 | i::r,n,b,hr,h,h0,h1=>by
  have a:=hr i (mem_cons_self ..);simp only [length_cons]at h1;have k:=Z7 (n:=n) h a.1 a.2.1 ⟨h0,ah⟩;have e:=afE (n:=n) (b:=b) a;show OKS (oN (n+1) (dW n b i) r).ops b.len/\oN (n+1) (dW n b i) r={b with ops:=(oN (n+1) (dW n b i) r).ops};have c:=Qb r (n+1) (dW n b i) (λj d=>hr j (mem_cons_of_mem _ d)) (by rw [e];exact k.1) ah (by rw [e];dsimp only;omega);rw [e]at c ⊢;exact c
def afF(n:Int)(b:Blk)(i:Ins):(dW n b i).ops=b.ops++gu n b.ops.length i:=by
 unfold dW;split
 .rfl
 split<;>rfl
def abh{k:Int}(h:oC k l):∃r i,l=r++ [i]/\(∀j∈r,Mid j)/\bP i/\i.op≠0:=by
 have d:=h.ln;rcases eq_nil_or_concat l with e | ⟨r,i,e⟩
 .subst e;simp at d
 rw [concat_eq_append]at e;subst e;refine⟨r,i,rfl,λj f=> ?_,?_,?_⟩
 .obtain⟨t,ht,rfl⟩:=getElem_of_mem f;have:=h.ok t (by rw [length_append];omega);rw [getD_eq_getElem?_getD,getElem?_append_left ht,getElem?_eq_getElem ht]at this;obtain⟨a,b,c⟩:=this;refine⟨a,b,λg=> ?_⟩;have:=c g;rw [length_append,length_singleton]at this;omega
 .have:=h.ok r.length (by rw [length_append,length_singleton];omega);rw [getD_eq_getElem?_getD,getElem?_append_right (Nat.le_refl _),Nat.sub_self]at this;exact this.1
 .have:=h.ok r.length (by rw [length_append,length_singleton];omega);rw [getD_eq_getElem?_getD,getElem?_append_right (Nat.le_refl _),Nat.sub_self]at this;exact this.2.1
theorem kW{a:Int}(h:oC a l):bR (lower a l):=by
 have D:=h.ln;have H:=h.pc;have q:lower a l=oN 0 (vH a l) l:=by unfold lower;rw [aL h,if_pos rfl]
 have x:=BF l 0 (vH a l);obtain⟨r,i,e,w,m,z⟩:=abh h;have G:l.length=r.length+1:=by rw [e,length_append,length_singleton]
 have s:OKS (vH a l).ops (vH a l).len:=λj p o=>absurd o (by show¬j< ((0:Nat):Int);omega)
 obtain⟨A,k⟩:=Qb r 0 (vH a l) w s ah (by show 0+(r.length:Int)<=(l.length:Int);omega);have f:lower a l=dW r.length (oN 0 (vH a l) r) i:=by
  rw [q]
  conv=>lhs;rw [e]
  rw [yQ,<-e];simp
 obtain⟨t,y,B⟩:=Z7 (n:=r.length) A m z ⟨ah,by show(r.length:Int)< (l.length:Int);omega⟩;have u:=afF r.length (oN 0 (vH a l) r) i;rw [<-q]at x;generalize I:(oN 0 (vH a l) r).ops=b at*;have C:(vH a l).ops.length=0:=rfl;have F:(lower a l).pc=a/\(lower a l).len=l.length:=by
  rw [f,k];unfold dW;split
  .exact⟨rfl,rfl⟩
  split<;>exact⟨rfl,rfl⟩
 have O:(lower a l).ops=b++gu r.length b.length i:=by rw [f];exact u
 refine⟨by rw [F.2];omega,by rw [F.1,F.2];omega,ah,?_,?_⟩
 .rw [O,F.2];exact λj p o=>t j p o
 .by_cases c:i.op=11\/i.op=12
  .obtain⟨v1,v2⟩:=y c;have E:lower a l=⟨a,l.length,b++gu r.length b.length i,i.op-8,b.length,b.length+1,i.k⟩:=by rw [f,k];unfold dW;rw [if_pos c];rfl
   have v:=m.2.2.2.2.2.2.2.2.2.1;rw [E];refine⟨by dsimp only;omega,λ_=>v1,λg=>by dsimp only at g;omega,λ_=>v2,λg=>by dsimp only at g;omega,λ_=> ?_,λg=>by dsimp only at g;omega⟩;have:=m.2.2.2.1;have:=v ah;dsimp only;omega
  by_cases d:i.op=13
  .have v1:=B d;have E:lower a l=⟨a,l.length,b++gu r.length b.length i,2,b.length,0,0⟩:=by rw [f,k];unfold dW;rw [if_neg c,if_pos d];rfl
   rw [E];exact⟨by dsimp only;omega,λ_=>v1,λg=>by dsimp only at g;omega,λg=>by dsimp only at g;omega,λ_=>rfl,λg=>absurd rfl g,λ_=>rfl⟩
  .have E:lower a l=⟨a,l.length,b++gu r.length b.length i,1,0,0,a+l.length⟩:=by rw [f,k];unfold dW;rw [if_neg c,if_neg d];rfl
   rw [E];exact⟨by dsimp only;omega,λg=>absurd rfl g,λ_=>rfl,λg=>by dsimp only at g;omega,λ_=>rfl,λ_=>by dsimp only;omega,λg=>by dsimp only at g;omega⟩
end Go.TX.F
namespace Go.TX.F
open Go Go.AE Go.TX List
def aoE{m:aG}(h:MOK m){i:Ins}(b:bP i):MOK (eff m i):=by
 obtain⟨⟨g,k⟩,⟨p,l⟩,⟨r,s⟩,c,o,f,n,t,q,u,e,d⟩:=b;have a:∀(j:Nat) (v:Int),Wo v->MOK {m with regs:=m.regs.set j v}:=λj v w=> {h with r4:=by rw [length_set];exact h.r4,rw:=h.rw.set w j}
 unfold eff;split
 .exact a _ _ ⟨c,by have:=f ‹_›;omega⟩
 split
 .exact a _ _ (h.rw.at _)
 split
 .exact a _ _ (by unfold Wo;omega)
 split
 .exact a _ _ (h.mw.at _)
 split
 .exact {h with m64:=by rw [length_set];exact h.m64,mw:=h.mw.set (h.rw.at _) _}
 split
 .exact {h with ow:=h.ow.snoc (h.rw.at _)}
 split
 .exact {a i.d.toNat (m.ins.getD 0 default) h.iw.hd with iw:=h.iw.drop 1}
 split
 .split
  .exact {h with ha:=⟨show(0:Int)<=1 by decide,show(1:Int)<=4 by decide⟩}
  split
  .exact {h with}
  .exact {h with}
 split
 .exact h
 .exact a _ _ (EJ _ _ _)
abbrev upd(m : aG)(u v : Int) : aG := { m with count := u, pc := v }
abbrev atf(c : Int × List Ins × Unit -> Bool)(b : Int × List Ins × Unit -> Int × Int × Int × Int × Int × Int × List IOp × Unit) : Prop := ∀ a l, l.length < 1000000000 -> c (a, l, ()) = true /\ b (a, l, ()) = bk7 (lower a l)
def aoF{p1 f1}(c:Y9 p1 f1)(l:List Int)(h:l.length<1000000000):Si.F (p1,f1,()) (l,()) (λy=>y=(bp (Wos l),())):=by
 dsimp only [Si,gm];simp (disch:=omega) only [RR];refine au (λ(y:l7)=>y.1=l/\0<=y.2.1/\y.2.1<=l.length/\Wos (l.take y.2.1.toNat)) (λy=>(l.length-y.2.1).toNat) ⟨rfl,by simp,by simp,by intro n hn;cases hn⟩ ?_;rintro⟨(l:List Int),(i:Int),⟨⟩⟩ hI;dsimp only at hI ⊢;obtain⟨rfl,b,d,a⟩:=hI;simp (disch:=omega) only [RR,c,bD,jF];refine⟨λg=>⟨b,g,λe=> ?_,λe=>⟨⟨ah,ah,?_⟩,ah⟩⟩,λg=> ?_⟩
 .rw [aV];intro v;exact e (v _ (dh b g))
 .rw [show(i+1).toNat=i.toNat+1 by omega];intro n hn;rw [take_succ_eq_append_getElem ah,mem_append,mem_singleton]at hn;rcases hn with hn | rfl
  .exact a n hn
  .rw [getD_lt ah]at e;exact e
 .rw [take_of_length_le ah]at a;rw [aL a]
def aoG{p1 f1 p2 f2 p3 f3}(g:Y9 p1 f1)(f:Y1 p2 f2)(a:aow p3 f3)(m:aG)(h:MSh m):SK.F (p1,f1,p2,f2,p3,f3,()) (m,()) (λy=>y=(bp (MOK m),())):=by
 obtain⟨d,e,b,c⟩:=h;dsimp only [SK,gm];simp (disch:=omega) only [RR,MRB,g,f,a _ d,a _ e,a _ b,a _ c,xg,w9];simp only [<-iU];refine Prod.ext (kQ ⟨λh=> ?_,λh=> ?_⟩) rfl
 .obtain⟨⟨⟨⟨⟨⟨⟨⟨⟨h1,h2⟩,h3⟩,h4⟩,h5⟩,h6⟩,h7⟩,h8⟩,h9⟩,h10⟩:=h;exact⟨ah,h2,ah,h5,h3,h6,h8,h9,h7,h10⟩
 .exact⟨⟨⟨⟨⟨⟨⟨⟨⟨by have:=h.r4;omega,h.rw⟩,h.pc⟩,by have:=h.m64;omega⟩,h.mw⟩,h.sv⟩,h.ha⟩,h.iw⟩,h.ow⟩,h.ct⟩
end Go.TX.F
