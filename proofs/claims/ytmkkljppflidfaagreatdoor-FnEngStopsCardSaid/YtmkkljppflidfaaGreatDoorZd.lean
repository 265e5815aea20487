/- Part 4 of a proof: what the last part needs. No condition. -/
import Derived.Test.YtmkkljppflidfaaGreatDoorZc
import Derived.Lib.Bytes
set_option maxHeartbeats 1000000
set_option linter.all false
set_option linter.unusedSectionVars false
set_option linter.unusedVariables false
set_option linter.unusedSimpArgs false
namespace Go.TX.F
open Go Go.AE Go.TX List
variable{d:List Int}
def acK{i j x:Int}(b:0<=i)(a:i<d.length)(c:0<=j):((d.set i.toNat x).getD (j).toNat default)=if j=i then x else((d).getD (j).toNat default):=by
 simp only [getD];by_cases h:j=i
 .subst h;rw [if_pos rfl,getElem?_set_self ah];rfl
 .rw [if_neg h,getElem?_set_ne ah]
def aec{i j:Int}(e:0<=i)(b:i<d.length)(g:0<=j)(c:j<d.length)(f:i≠j):((d.set i.toNat ((d).getD (j).toNat default)).set j.toNat ((d).getD (i).toNat default)).Perm d:=by
 rw [perm_iff_count];intro x;rw [getD_lt (show i.toNat<d.length by omega),getD_lt (show j.toNat<d.length by omega),count_set (by simp;omega),count_set ah,getElem_set_ne ah];have a:(if d[i.toNat]==x then 1 else 0)<=List.count x d:=by
  split
  .rename_i h;exact List.count_pos_iff.2 (by rw [<-eq_of_beq h];exact getElem_mem _)
  .omega
 split<;>split<;>simp_all<;>omega
def arH{p f}(U:Y5 p f)(a b:Int)(d:List Int)(hd:d.length<1000000000)(u:a=0)(x:b=d.length):
  XA.F (p,f,()) (a,b,d,()) (λy=>y.1=oI d):=by
 subst u;dsimp only [XA,gm];simp (disch:=omega) only [RR];have fin:∀e:List Int,e.Perm d->(∀q:Int,1<=q->q<e.length->((e).getD (q-1).toNat default)<=((e).getD (q).toNat default))->e=oI d:=λe m l=>
  CJ ((dK (d:=default) (R:=λa b:Int=>a<=b) (λu x=>Int.le_trans u x)).2 l) m
 refine ay (λ(y:Int×P9)=>y.1=0/\y.2.1=b/\1<=y.2.2.1/\(y.2.2.1<=b\/y.2.2.1=1)/\y.2.2.2.1.Perm d/\∀q,1<=q->q<y.2.2.1->((y.2.2.2.1).getD (q-1).toNat default)<=((y.2.2.2.1).getD (q).toNat default)) (λy=>(b-y.2.2.1).toNat)
  ⟨rfl,rfl,by simp,Or.inr rfl,Perm.refl d,λq m l=>by dsimp only at l;omega⟩ ?_
 rintro⟨(M:Int),(E:Int),(i:Int),(e:List Int),⟨⟩⟩ hI;dsimp only at hI ⊢;obtain⟨rfl,rfl,L,N,v,z⟩:=hI;have J:=v.length_eq;simp (disch:=omega) only [RR];refine⟨λI=> ?_,λI=>fin e v λq m l=>z q m ah⟩
 refine ay (λ(y:Int×Int×P9)=>y.1=0/\y.2.1=E/\y.2.2.1=i/\0<=y.2.2.2.1/\y.2.2.2.1<=i/\y.2.2.2.2.1.Perm d
   /\(∀q,1<=q->q<=i->q≠y.2.2.2.1->((y.2.2.2.2.1).getD (q-1).toNat default)<=((y.2.2.2.2.1).getD (q).toNat default))/\(1<=y.2.2.2.1->y.2.2.2.1+1<=i->((y.2.2.2.2.1).getD (y.2.2.2.1-1).toNat default)<=((y.2.2.2.2.1).getD (y.2.2.2.1+1).toNat default))) (λy=>y.2.2.2.1.toNat)
  ⟨rfl,rfl,rfl,by simp;omega,by simp,v,λq m l K=>z q m (by dsimp only at K;omega),λm l=>by dsimp only at l;omega⟩ ?_
 rintro⟨(D:Int),(C:Int),(O:Int),(j:Int),(r:List Int),⟨⟩⟩ hI;dsimp only at hI ⊢;obtain⟨rfl,rfl,rfl,F,G,o,n,t⟩:=hI;have B:=o.length_eq;simp (disch:=omega) only [RR,length_set,U]
 repeat' (refine And.intro ?_ ?_)
 all_goals try omega
 .intro ⟨m,l⟩;have h:∀k,0<=k->(((r.set j.toNat ((r).getD (j-1).toNat default)).set (j-1).toNat ((r).getD (j).toNat default)).getD (k).toNat default)=if k=j-1 then((r).getD (j).toNat default)else if k=j then((r).getD (j-1).toNat default)else((r).getD (k).toNat default):=λk hk=>by
   rw [acK ah (by simp;omega) hk,acK ah ah hk]
  repeat' (refine And.intro ?_ ?_)
  all_goals try omega
  .exact(aec ah ah ah ah ah).trans o
  .intro q s w k3;rw [h _ ah,h _ ah];by_cases A:q=j
   .subst A;rw [if_pos rfl,if_neg ah,if_pos rfl];omega
   .rw [if_neg ah];by_cases H:q=j+1
    .subst H;rw [if_pos ah,if_neg ah,if_neg ah];exact t ah ah
    .rw [if_neg ah,if_neg ah,if_neg ah];exact n q s w A
  .intro s w;rw [h _ ah,h _ ah,if_neg ah,if_neg ah,if_neg ah,if_pos ah];have:=n (j-1) ah ah ah;exact this
 .intro g;refine⟨⟨ah,ah,o,λq s w=> ?_⟩,ah⟩;by_cases c:q=j
  .subst c;rw [Bool.and_eq_false_iff,decide_eq_false_iff_not,decide_eq_false_iff_not]at g;omega
  .exact n q s ah c
def arI{j:P9->Bool}{i:P9->bn}{p:ni->Bool}{f:ni->fA}(l:∀(a b:Int) (d:List Int),d.length<1000000000->a=0->b=d.length->j (a,b,d,())=true/\(i (a,b,d,())).1=oI d)(p2 p3 f2 f3 p4 f4 p5 f5 p6 f6 p7 f7 p8 f8 p9 f9)(a b k:Int)(d:List Int)(hd:d.length<=12)(m:a=0)(c:b=d.length):
  XB.F (p,f,j,i,p2,f2,p3,f3,p4,f4,p5,f5,p6,f6,p7,f7,p8,f8,p9,f9,()) (a,b,k,d,()) (λy=>y.1=oI d):=by
 subst m;dsimp only [XB,gm];simp (disch:=omega) only [RR];refine ay (λ(y:Int×Int×Int×Bool×Bool×bn)=>y.1=0/\y.2.1=b/\y.2.2.2.2.2.1=d) (λy=>0) ⟨rfl,rfl,rfl⟩ ?_;rintro⟨(n:Int),(g:Int),(o:Int),(u:Bool),(v:Bool),(e:List Int),⟨⟩⟩ hI;dsimp only at hI ⊢;obtain⟨rfl,rfl,rfl⟩:=hI;simp (disch:=omega) only [RR];exact⟨λ_=>⟨(l 0 g e ah rfl c).1,(l 0 g e ah rfl c).2⟩,λh=>absurd h ah⟩
def arJ{c:Int×P9->Bool}{f:Int×P9->bn}{h:dY->Bool}{i:dY->dY}(g:∀(a b k:Int) (d:List Int),d.length<=12->a=0->b=d.length->c (a,b,k,d,())=true/\(f (a,b,k,d,())).1=oI d)(j:∀n,0<=n->n<=18446744073709551615->h (n,())=true)(a:List Int)(l:a.length<=8):
  XC.F (c,f,h,i,()) (a,()) (λy=>y=(oI a,())):=by
 dsimp only [XC,gm];have e:IntKind.u64.wrap (a.length:Int)=(a.length:Int):=IntWalk.u64_in _ ah;refine⟨?_,(g _ _ _ _ ah rfl rfl).1,by rw [(g _ _ _ _ ah rfl rfl).2]⟩;rw [e];exact j _ ah ah
end Go.TX.F
namespace Go.TX.F
open Go Go.AE Go.TX List
variable{l:List Int}
def wOK(l:List Int):Prop:=∀z∈l,0<=z/\z<=65535
def wOK.at(h:wOK l)(n:Nat):0<=l.getD n default/\l.getD n default<=65535:=by
 by_cases hn:n<l.length
 .rw [getD_lt hn];exact h _ (getElem_mem _)
 .rw [getD,getElem?_eq_none ah];decide
def Bd(v:List Int)(k:Int):Int:=if k<v.length then((v).getD (k).toNat default)else 0
def evM(v:List Int)(c:Int)(l:List Int):Int:=l.foldl (λc k=>c*Bd v k%65536) c
def evF(v:List Int)(p:List au):Int:=p.foldl (λs m=>(s+evM v m.bN m.atoms)%65536) 0
def arK{p1 f1}(e:Y9 p1 f1)(a:List Int)(h:a.length<1000000000):
  WB.F (p1,f1,()) (a,()) (λy=>y=(bp (wOK a),())):=by
 dsimp only [WB,gm];simp (disch:=omega) only [RR];refine ay (λ(y:aAN)=>y.1=a/\y.2.1=a.length/\0<=y.2.2.1/\y.2.2.1<=a.length/\All y.2.2.1 (λi=>0<=((a).getD (i).toNat default)/\((a).getD (i).toNat default)<=65535)) (λy=>(a.length-y.2.2.1).toNat) ⟨rfl,rfl,by simp,by simp,All.zero⟩ ?_;rintro⟨(l:List Int),(n:Int),(i:Int),⟨⟩⟩ hI;dsimp only at hI ⊢;obtain⟨rfl,rfl,k,j,c⟩:=hI;simp (disch:=omega) only [RR,e];refine⟨λf=>⟨ah,ah,λb=> ?_,λb=>⟨⟨ah,ah,c.snoc ?_⟩,ah⟩⟩,λf=> ?_⟩
 .rw [jJ]at b;rw [aT λg=>b (g.at _)]
 .rw [bB]at b;exact b
 .rw [aI];exact qF (d:=default) (G:=λz:Int=>0<=z/\z<=65535).1 (c.le ah)
def aVal(regs b ins out:List Int)(a:Atom):Int:=
 if a.kind=1 then Bd regs a.k else if a.kind=2 then Bd b a.k else if a.kind=3 then Bd ins a.k else wdo a.k (evF out a.x) (evF out a.y)
def tv(regs b ins:List Int)(t:List Atom):List Int:=t.foldl (λo a=>o++ [aVal regs b ins o a]) []
def wOK.snoc(h:wOK l){x:Int}(b:0<=x/\x<=65535):wOK (l++ [x]):=λz a=>by
 rw [mem_append,mem_singleton]at a;rcases a with a | rfl
 .exact h z a
 .exact b
def arL{p1 f1}(e:Y40 p1 f1)(n:Int)(b:List Int)(p:Int)(d:Bt b)(hn:0<=n/\n<=100)(r:0<=p)(m:p<800000000):V4.F (p1,f1,()) (n,b,p,()) (λ(y:r9)=>y.1=b/\p<=y.2.1/\y.2.1<=p+300/\y.2.2.1.length=n/\wOK y.2.2.1):=by
 dsimp only [V4,gm];simp (disch:=omega) only [RR];refine ay (λ(y:Int×Int×r9)=>y.1=n/\0<=y.2.1/\y.2.1<=n/\y.2.2.1=b/\p<=y.2.2.2.1/\y.2.2.2.1<=p+3*y.2.1/\y.2.2.2.2.1.length=y.2.1/\wOK y.2.2.2.2.1) (λy=>(n-y.2.1).toNat) ⟨rfl,by simp,by simp;omega,rfl,by simp,by simp,rfl,λz f=>(by cases f)⟩ ?_;rintro⟨(l:Int),(k:Int),(c:List Int),(q:Int),(o:List Int),⟨⟩⟩ hI;dsimp only at hI ⊢;obtain⟨rfl,j,u,rfl,k3,w,s,a⟩:=hI;obtain⟨i,v,t,g⟩:=(e c q d ah ah).2;simp (disch:=omega) only [RR,(e c q d ah ah).1,length_append,length_cons,length_nil];exact⟨λh=>⟨ah,⟨ah,ah,i,ah,ah,ah,a.snoc g⟩,ah⟩,λh=>⟨ah,ah,ah,a⟩⟩
end Go.TX.F
namespace Go.TX.F
open Go Go.AE Go.TX List
def ins(c:Int)(a:List Int):List au->List au
 | []=>if c%65536=0 then []else [⟨c%65536,a⟩]
 | m::o=>if fM a m.atoms<0 then(if c%65536=0 then m::o else⟨c%65536,a⟩::m::o)
  else if a=m.atoms then(if(c+m.bN)%65536=0 then o else⟨(c+m.bN)%65536,a⟩::o)else m::ins c a o
def aiL{a:Int}(b:1<=a/\a<=5){x y:List au}(d:aX x)(c:aX y):aX (jK a x y).1:=by
 unfold jK;split
 .exact acI _ _
 .split
  .exact acI _ _
  .split
   .exact am3 _ _
   .unfold JY
    repeat' split
    all_goals first | exact dF _ | exact dx | assumption
variable{α:Type}{t:List Atom}{a:Atom}
abbrev hX(o:IOp):Prop:=o.kind≠1/\o.kind≠2/\o.kind≠6
abbrev hY(o:IOp):Prop:=o.kind=3\/o.kind=5
abbrev mkV(o:IOp):Prop:=(1<=o.kind/\o.kind<=4)\/o.kind=6
abbrev evO(o:IOp):Prop:=4<=o.kind/\o.kind<=7
def Vl(a:List IOp)(x n:Int):Prop:=0<=x/\x<n/\mkV ((a).getD (x).toNat default)
structure oW(ops:List IOp)(len i:Int)(o:IOp):Prop where
 kd:1<=o.kind/\o.kind<=8
 x1:hX o->Vl ops o.x i
 x0:¬hX o->o.x=0
 y1:hY o->Vl ops o.y i
 y0:¬hY o->o.y=0
 k1:o.kind=1->0<=o.k/\o.k<=65535
 k2:o.kind=2\/o.kind=8->0<=o.k/\o.k<=3
 k3:o.kind=3->1<=o.k/\o.k<=5
 k0:4<=o.kind->o.kind<=7->o.k=0
 a1:evO o->0<=o.at_/\o.at_<len
 a0:¬evO o->o.at_=0
structure DW(b:Blk):Prop where
 f:1<=b.fin/\b.fin<=4
 x1:b.fin≠1->Vl b.ops b.x b.ops.length
 x0:b.fin=1->b.x=0
 y1:3<=b.fin->Vl b.ops b.y b.ops.length
 y0:b.fin<=2->b.y=0
 k1:b.fin≠2->0<=b.k/\b.k<=65535
 k0:b.fin=2->b.k=0
structure bQ(b:Blk):Prop where
 ln:1<=b.len/\b.len<=8
 pc:0<=b.pc/\b.pc<=64-b.len
 sz:b.ops.length<=48
 op:∀i:Int,0<=i->i<b.ops.length->oW b.ops b.len i ((b.ops).getD (i).toNat default)
 en:DW b
structure SS where
 t:List Atom
 regs:List (List au)
 vals:List (List au)
 ld:Int
 inn:Int
 evs:List Ev
def xOf(s:SS)(o:IOp):List au:=if hX o then((s.vals).getD (o.x).toNat default)else []
def yOf(s:SS)(o:IOp):List au:=if hY o then((s.vals).getD (o.y).toNat default)else []
def aOf(s:SS)(o:IOp):Atom:=if o.kind=4 then⟨2,s.ld,[],[]⟩else⟨3,s.inn,[],[]⟩
noncomputable def nT (s:SS) (o:IOp):List Atom:=if o.kind=3 then(tDo s.t o.k (xOf s o) (yOf s o)).1 else if o.kind=4\/o.kind=6 then(bE s.t (aOf s o)).1 else s.t
noncomputable def nV (s:SS) (o:IOp):List au:=if o.kind=1 then aY o.k else if o.kind=2 then((s.regs).getD (o.k).toNat default)else if o.kind=3 then(tDo s.t o.k (xOf s o) (yOf s o)).2 else if o.kind=4\/o.kind=6 then iO (bE s.t (aOf s o)).2 else []
def nR(s:SS)(o:IOp):List (List au):=if o.kind=8 then s.regs.set o.k.toNat (xOf s o)else s.regs
def nE(s:SS)(o:IOp):List Ev:=if evO o then s.evs++ [⟨o.kind,o.at_,xOf s o,yOf s o,if o.kind=4\/o.kind=5 then s.regs else []⟩]else s.evs
noncomputable def stp (s:SS) (o:IOp):SS:=⟨nT s o,nR s o,s.vals++ [nV s o],if o.kind=4 then s.ld+1 else s.ld,if o.kind=6 then s.inn+1 else s.inn,nE s o⟩
noncomputable def rN (t:List Atom):Nat->List Atom×List (List au)
 | 0=>(t,[])
 | n+1=>((bE (rN t n).1 ⟨1,n,[],[]⟩).1,(rN t n).2++ [iO (bE (rN t n).1 ⟨1,n,[],[]⟩).2])
noncomputable def s0 (t:List Atom):SS:=⟨(rN t 4).1,(rN t 4).2,[],0,0,[]⟩
noncomputable def dH (t:List Atom) (b:Blk):SS:=b.ops.foldl stp (s0 t)
def mh(b:Blk)(s:SS):Sym:=⟨s.evs,s.regs,b.fin,if b.fin=1 then []else((s.vals).getD (b.x).toNat default),if 3<=b.fin then((s.vals).getD (b.y).toNat default)else [],b.k⟩
def aed:Sym:=⟨[],[],0,[],[],0⟩
noncomputable def symEnd (s:Sym) (a:Int):Sym:=
 if bp (aX s.x/\aX s.y)=false then aed
 else if s.fin=2/\(dz s.x).2=true then⟨s.events,s.regs,1,[],[],(dz s.x).1⟩
 else if s.fin≠3/\s.fin≠4 then s
 else if s.x=s.y\/(dz s.x).2=true/\(dz s.y).2=true then
  ⟨s.events,s.regs,1,[],[],if s.x=s.y/\s.fin=3\/((dz s.x).2=true/\(dz s.y).2=true)/\(s.fin=3/\(dz s.x).1=(dz s.y).1\/s.fin=4/\(dz s.x).1< (dz s.y).1)then s.k else a⟩
 else if s.fin=3/\0<jR s.x s.y then⟨s.events,s.regs,s.fin,s.y,s.x,s.k⟩else s
noncomputable def bH (t:List Atom) (b:Blk):List Atom×Sym:=if bp (aM t/\t.length<=100/\bQ b)=true then((dH t b).t,symEnd (mh b (dH t b)) (b.pc+b.len))else([],aed)
def zo(t:List Atom)(a:Atom):t<+:(bE t a).1:=by
 unfold bE;split
 .exact prefix_refl _
 .split
  .exact prefix_refl _
  .exact prefix_append _ _
def tJ{a b:List α}(h:a<+:b):a.length<=b.length:=h.length_le
def PD{d:α}{a b:List α}(h:a<+:b){i:Int}(e:i.toNat<a.length):b.getD i.toNat d=a.getD i.toNat d:=by
 obtain⟨c,rfl⟩:=h;rw [getD_lt e,getD_lt (by rw [length_append];omega),getElem_append_left e]
def AJ(h:0<=(bE t a).2):(bE t a).2< (bE t a).1.length/\(((bE t a).1).getD ((bE t a).2).toNat default)=a:=by
 have b:=mg t a
 revert h
 unfold bE;split
 .intro h;rcases b with⟨e,_⟩ | ⟨_,c,d,_⟩
  .exact absurd h (by dsimp only;omega)
  .exact⟨c,d.symm⟩
 .split
  .intro h;exact absurd h (by dsimp only;omega)
  .intro _;dsimp only;refine⟨by rw [length_append];simp only [length_cons,length_nil];omega,?_⟩;rw [getD_lt (by rw [length_append];simp only [length_cons,length_nil];omega)];simp
def aax{u:List Atom}(h:aM u){k:Int}(b:0<=k)(d:k<u.length)(c:((u).getD (k).toNat default)=a):bE u a=(u,k):=by
 have e:xA u a=k:=by
  refine(mg u a).uniq (Or.inr ⟨b,d,c.symm,λj f i=> ?_⟩);have:=(qP.1 h).1 k b d;have g:=this.2 j f i;dsimp only at g ⊢;rw [c]at g;exact g
 unfold bE;rw [e,if_pos b]
def DX{t u:List Atom}(d:aM u)(h:0<=(bE t a).2)(b:(bE t a).1<+:u):bE u a=(u,(bE t a).2):=by
 obtain⟨e,c⟩:=AJ h;have:=tJ b;exact aax d h ah (by rw [PD b ah,c])
def SN{c n:Int}{x y:List au}(b:bA x n)(a:bA y n):bA (jK c x y).1 n:=by
 unfold jK;split
 .exact J3 b a
 .split
  .refine J3 b ?_;unfold lH;split
   .exact J4 a (zn _ _)
   .exact kW _
  .split
   .exact J4 b a
   .unfold JY
    repeat' split
    all_goals first | exact b | exact a | exact kW _ | exact zn _ _
structure arM(t:List Atom)(op:Int)(x y:List au):Prop where
 tok:aM (tDo t op x y).1
 pre:t<+:(tDo t op x y).1
 len:(tDo t op x y).1.length<=t.length+1
 pok:aX (tDo t op x y).2
 und:bA (tDo t op x y).2 (tDo t op x y).1.length
 ok:tOk t op x y=true
def am4{b:Int}{x y:List au}(h:aM t)(o:t.length<200)(n:1<=b/\b<=5)(k:aX x)(j:aX y)(m:bA x t.length)(l:bA y t.length):arM t b x y:=by
 by_cases c:(jK b x y).2=true
 .have e:tDo t b x y=(t,(jK b x y).1):=by unfold tDo;rw [if_pos c]
  refine⟨?_,?_,?_,?_,?_,by unfold tOk;rw [c];rfl⟩<;>rw [e]
  .exact h
  .exact prefix_refl _
  .exact Nat.le_succ _
  .exact aiL n k j
  .exact SN m l
 .have key:∀f d,aX f->aX d->bA f t.length->bA d t.length->0<=(bE t ⟨4,b,f,d⟩).2/\aM (bE t ⟨4,b,f,d⟩).1/\(bE t ⟨4,b,f,d⟩).1.length<=t.length+1:=λf d s u q r=>by
   have i:=HZ (a:=⟨4,b,f,d⟩) h o;have p:=i.2.2.2 (by unfold kE;rw [if_pos rfl];exact⟨n,s,u,q,r⟩);exact⟨p,i.1,i.2.2.1⟩
  by_cases g:b≠2/\0<jR x y
  .obtain⟨k1,k2,k3⟩:=key y x j k l m;have e:tDo t b x y=((bE t ⟨4,b,y,x⟩).1,iO (bE t ⟨4,b,y,x⟩).2):=by unfold tDo;rw [if_neg c,if_pos g,if_neg ah]
   refine⟨?_,?_,?_,?_,?_,by unfold tOk;rw [if_pos g,decide_eq_false ah,Bool.not_false,Bool.or_true]⟩<;>rw [e]
   .exact k2
   .exact zo _ _
   .exact k3
   .exact rE _
   .exact wC (AJ k1).1
  .obtain⟨k1,k2,k3⟩:=key x y k j m l;have e:tDo t b x y=((bE t ⟨4,b,x,y⟩).1,iO (bE t ⟨4,b,x,y⟩).2):=by unfold tDo;rw [if_neg c,if_neg g,if_neg ah]
   refine⟨?_,?_,?_,?_,?_,by unfold tOk;rw [if_neg g,decide_eq_false ah,Bool.not_false,Bool.or_true]⟩<;>rw [e]
   .exact k2
   .exact zo _ _
   .exact k3
   .exact rE _
   .exact wC (AJ k1).1
def aiM{t u:List Atom}{a:Int}{x y:List au}(d:aM u)(h:tOk t a x y=true)(b:(tDo t a x y).1<+:u):tDo u a x y=(u,(tDo t a x y).2):=by
 by_cases c:(jK a x y).2=true
 .unfold tDo;rw [if_pos c,if_pos c]
 .by_cases c2:a≠2/\0<jR x y
  .have k1:0<=(bE t ⟨4,a,y,x⟩).2:=by
    unfold tOk at h;rw [if_pos c2,Bool.or_eq_true,Bool.not_eq_true',decide_eq_false_iff_not]at h;have:=h.resolve_left c;omega
   have e:tDo t a x y=((bE t ⟨4,a,y,x⟩).1,iO (bE t ⟨4,a,y,x⟩).2):=by unfold tDo;rw [if_neg c,if_pos c2,if_neg ah]
   rw [e]at b ⊢;have:=DX d k1 b;unfold tDo;rw [if_neg c,if_pos c2,this,if_neg (by dsimp only;omega)]
  .have k1:0<=(bE t ⟨4,a,x,y⟩).2:=by
    unfold tOk at h;rw [if_neg c2,Bool.or_eq_true,Bool.not_eq_true',decide_eq_false_iff_not]at h;have:=h.resolve_left c;omega
   have e:tDo t a x y=((bE t ⟨4,a,x,y⟩).1,iO (bE t ⟨4,a,x,y⟩).2):=by unfold tDo;rw [if_neg c,if_neg c2,if_neg ah]
   rw [e]at b ⊢;have:=DX d k1 b;unfold tDo;rw [if_neg c,if_neg c2,this,if_neg (by dsimp only;omega)]
end Go.TX.F
namespace Go.TX.F
open Go Go.AE Go.TX List
variable{n:Int}{i:Nat}{s:SS}{t:List Atom}{b:Blk}{u:List Atom}
structure SI(n:Int)(i:Nat)(s:SS):Prop where
 tok:aM s.t
 tl:(s.t.length:Int)<=n+i
 r4:s.regs.length=4
 rok:∀p∈s.regs,aX p/\bA p s.t.length
 vl:s.vals.length=i
 vok:∀p∈s.vals,aX p/\bA p s.t.length
 ld:0<=s.ld/\s.ld<=i
 inn:0<=s.inn/\s.inn<=i
def Fw{l:List (List au)}(h:∀p∈l,aX p/\bA p n)(i:Int):aX ((l).getD (i).toNat default)/\bA ((l).getD (i).toNat default) n:=by
 by_cases c:i.toNat<l.length
 .rw [getD_lt c];exact h _ (getElem_mem _)
 .rw [getD_eq_getElem?_getD,getElem?_eq_none ah];exact⟨dx,kW _⟩
def SI.x(h:SI n i s)(o:IOp):aX (xOf s o)/\bA (xOf s o) s.t.length:=by
 unfold xOf;split
 .exact Fw h.vok _
 .exact⟨dx,kW _⟩
def SI.y(h:SI n i s)(o:IOp):aX (yOf s o)/\bA (yOf s o) s.t.length:=by
 unfold yOf;split
 .exact Fw h.vok _
 .exact⟨dx,kW _⟩
def am5(h:SI n i s)(c:i<200)(o:IOp)(m:Int):kE (aOf s o) m:=by
 have b:=h.ld;have a:=h.inn;unfold aOf;split
 .unfold kE;rw [if_neg (by simp)];exact⟨⟨rfl,rfl⟩,Or.inr ⟨Or.inl rfl,by dsimp only;omega,by dsimp only;omega⟩⟩
 .unfold kE;rw [if_neg (by simp)];exact⟨⟨rfl,rfl⟩,Or.inr ⟨Or.inr rfl,by dsimp only;omega,by dsimp only;omega⟩⟩
structure SOK(s:SS)(o:IOp):Prop where
 pre:s.t<+:(stp s o).t
 d:o.kind=3->arM s.t o.k (xOf s o) (yOf s o)
 p:o.kind=4\/o.kind=6->0<=(bE s.t (aOf s o)).2
def J6{o:IOp}(h:SI n i s)(hk:o.kind=3->1<=o.k/\o.k<=5)(hn:n+i<200)(g:i<200):SI n (i+1) (stp s o)/\SOK s o:=by
 have m:=h.tl;have tl:s.t.length<200:=by omega
 have hd:o.kind=3->arM s.t o.k (xOf s o) (yOf s o):=λe=>am4 h.tok tl (hk e) (h.x o).1 (h.y o).1 (h.x o).2 (h.y o).2
 have c:=HZ (a:=aOf s o) h.tok tl;have b:=c.2.2.2 (am5 h g o _);have T:aM (nT s o)/\(nT s o).length<=s.t.length+1/\s.t<+:nT s o:=by
  unfold nT;split
  .rename_i e;have:=hd e;exact⟨this.tok,this.len,this.pre⟩
  .split
   .exact⟨c.1,c.2.2.1,zo _ _⟩
   .exact⟨h.tok,Nat.le_succ _,prefix_refl _⟩
 have d:∀ {p:List au},aX p/\bA p s.t.length->aX p/\bA p (nT s o).length:=λb=>⟨b.1,AA b.2 (by have:=tJ T.2.2;omega)⟩
 have V:aX (nV s o)/\bA (nV s o) (nT s o).length:=by
  unfold nV;split
  .exact⟨dF _,zn _ _⟩
  .split
   .exact d (Fw h.rok _)
   .split
    .rename_i e;have:=hd e;refine⟨this.pok,?_⟩;have f:nT s o=(tDo s.t o.k (xOf s o) (yOf s o)).1:=by unfold nT;rw [if_pos e]
     rw [f];exact this.und
    .split
     .rename_i e1 f;have j:nT s o=(bE s.t (aOf s o)).1:=by unfold nT;rw [if_neg ah,if_pos f]
      rw [j];exact⟨rE _,wC (AJ b).1⟩
     .exact⟨dx,kW _⟩
 have l:=h.ld;have k:=h.inn;refine⟨⟨T.1,?_,?_,?_,?_,?_,?_,?_⟩,⟨T.2.2,hd,λ_=>b⟩⟩
 .have:=T.2.1;show((nT s o).length:Int)<=_;omega
 .show(nR s o).length=4;unfold nR;split
  .rw [length_set];exact h.r4
  .exact h.r4
 .show∀p∈nR s o,_;intro p b;unfold nR at b;split at b
  .rcases mem_or_eq_of_mem_set b with b | rfl
   .exact d (h.rok p b)
   .exact d (h.x o)
  .exact d (h.rok p b)
 .show(s.vals++ [nV s o]).length=i+1;rw [length_append,h.vl];rfl
 .show∀p∈s.vals++ [nV s o],_;intro p b;rw [mem_append,mem_singleton]at b;rcases b with b | rfl
  .exact d (h.vok p b)
  .exact V
 .show 0<=(if o.kind=4 then s.ld+1 else s.ld)/\(if o.kind=4 then s.ld+1 else s.ld)<=_;split<;>omega
 .show 0<=(if o.kind=6 then s.inn+1 else s.inn)/\(if o.kind=6 then s.inn+1 else s.inn)<=_;split<;>omega
def wE:∀(a:List IOp) (i:Nat) (s:SS),SI n i s->(∀o∈a,o.kind=3->1<=o.k/\o.k<=5)->n+i+a.length<=200->i+a.length<=200->SI n (i+a.length) (a.foldl stp s)/\s.t<+:(a.foldl stp s).t
 | [],i,s,h,_,_,_=>⟨h,prefix_refl _⟩
 | o::r,i,s,h,hk,h1,h2=>by
  rw [length_cons]at h1 h2;obtain⟨d,e⟩:=J6 h (hk o mem_cons_self) ah ah;obtain⟨c,f⟩:=wE r (i+1) (stp s o) d (λo b=>hk o (mem_cons_of_mem _ b)) ah ah;rw [foldl_cons,length_cons,show i+(r.length+1)=i+1+r.length by omega];exact⟨c,e.pre.trans f⟩
structure RI(t:List Atom)(n:Nat)(r:List Atom×List (List au)):Prop where
 tok:aM r.1
 tl:r.1.length<=t.length+n
 pre:t<+:r.1
 r4:r.2.length=n
 rok:∀p∈r.2,aX p/\bA p r.1.length
def DY(h:aM t)(e:t.length<=196):∀n:Nat,n<=4->RI t n (rN t n)
 | 0,_=>⟨h,Nat.le_refl _,prefix_refl _,rfl,λp b=>absurd b (by simp [rN])⟩
 | n+1,hn=>by
  have c:=DY h e n ah;have l:=c.tl;have b:=HZ (a:=⟨1,n,[],[]⟩) c.tok ah;have f:=b.2.2.2 (by unfold kE;rw [if_neg (by simp)];exact⟨⟨rfl,rfl⟩,Or.inl ⟨rfl,by dsimp only;omega,by dsimp only;omega⟩⟩);have d:=zo (rN t n).1 ⟨1,n,[],[]⟩;unfold rN;refine⟨b.1,?_,c.pre.trans d,?_,λp h=> ?_⟩
  .have:=b.2.2.1;dsimp only;omega
  .dsimp only;rw [length_append,c.r4];rfl
  .dsimp only at h ⊢;rw [mem_append,mem_singleton]at h;rcases h with h | rfl
   .have:=c.rok p h;exact⟨this.1,AA this.2 (by have:=tJ d;omega)⟩
   .exact⟨rE _,wC (AJ f).1⟩
def PE(h:aM t)(c:t.length<=196){n:Nat}(hn:n<4):0<=(bE (rN t n).1 ⟨1,n,[],[]⟩).2:=by
 have b:=DY h c n ah;have l:=b.tl;exact(HZ (a:=⟨1,n,[],[]⟩) b.tok ah).2.2.2 (by unfold kE;rw [if_neg (by simp)];exact⟨⟨rfl,rfl⟩,Or.inl ⟨rfl,by dsimp only;omega,by dsimp only;omega⟩⟩)
def BA(h:aM t)(b:t.length<=196):SI (t.length+4) 0 (s0 t):=by
 have:=DY h b 4 ah;have l:=this.tl;exact⟨this.tok,by show((rN t 4).1.length:Int)<=_;omega,this.r4,this.rok,rfl,λp a=>absurd a (by simp [s0]),by simp [s0],by simp [s0]⟩
def bQ.k3(h:bQ b):∀o∈b.ops,o.kind=3->1<=o.k/\o.k<=5:=λo a=>by
 obtain⟨i,c,rfl⟩:=getElem_of_mem a;have:=(h.op i ah ah).k3;rw [show(i:Int).toNat=i from rfl,getD_lt c]at this;exact this
def PG(h:aM t)(f:t.length<=100)(c:bQ b):SI (t.length+4) b.ops.length (dH t b)/\t<+:(dH t b).t:=by
 have e:=c.sz;obtain⟨a,d⟩:=wE b.ops 0 (s0 t) (BA h ah) c.k3 ah ah;rw [Nat.zero_add]at a;exact⟨a,(DY h ah 4 ah).pre.trans d⟩
def SS.on(s:SS)(u:List Atom):SS:=⟨u,s.regs,s.vals,s.ld,s.inn,s.evs⟩
theorem arN{o:IOp}(b:aM u)(h:SOK s o)(a:(stp s o).t<+:u):stp (s.on u) o=(stp s o).on u:=by
 have a:nT s o<+:u:=a;have d:xOf (s.on u) o=xOf s o:=rfl;have f:yOf (s.on u) o=yOf s o:=rfl;have g:aOf (s.on u) o=aOf s o:=rfl;have eT:nT (s.on u) o=u:=by
  unfold nT;split
  .rename_i e;rw [d,f];have c:=(h.d e).ok;unfold nT at a;rw [if_pos e]at a;rw [show(s.on u).t=u from rfl,aiM b c a]
  .split
   .rename_i e1 e2;unfold nT at a;rw [if_neg e1,if_pos e2]at a;rw [g,show(s.on u).t=u from rfl,DX b (h.p e2) a]
   .rfl
 have i:nV (s.on u) o=nV s o:=by
  unfold nV;split
  .rfl
  .split
   .rfl
   .split
    .rename_i e;rw [d,f];have c:=(h.d e).ok;unfold nT at a;rw [if_pos e]at a;rw [show(s.on u).t=u from rfl,aiM b c a]
    .split
     .rename_i e1 e2;unfold nT at a;rw [if_neg e1,if_pos e2]at a;rw [g,show(s.on u).t=u from rfl,DX b (h.p e2) a]
     .rfl
 show SS.mk (nT (s.on u) o) (nR (s.on u) o) ((s.on u).vals++ [nV (s.on u) o]) _ _ (nE (s.on u) o)=SS.mk u (nR s o) (s.vals++ [nV s o]) _ _ (nE s o);rw [eT,i];rfl
def aiN(d:aM u):∀(a:List IOp) (i:Nat) (s:SS),SI n i s->(∀o∈a,o.kind=3->1<=o.k/\o.k<=5)->n+i+a.length<=200->i+a.length<=200->(a.foldl stp s).t<+:u->a.foldl stp (s.on u)=(a.foldl stp s).on u
 | [],i,s,h,_,_,_,_=>rfl
 | o::r,i,s,h,hk,h1,h2,hp=>by
  rw [length_cons]at h1 h2;obtain⟨c,e⟩:=J6 h (hk o mem_cons_self) ah ah;rw [foldl_cons]at hp;obtain⟨_,f⟩:=wE r (i+1) (stp s o) c (λo b=>hk o (mem_cons_of_mem _ b)) ah ah;rw [foldl_cons,foldl_cons,arN d e (f.trans hp)];exact aiN d r (i+1) (stp s o) c (λo b=>hk o (mem_cons_of_mem _ b)) ah ah hp
def aon{t u:List Atom}(h:aM t)(b:t.length<=196)(c:aM u):∀n:Nat,n<=4->(rN t n).1<+:u->rN u n=(u,(rN t n).2)
 | 0,_,_=>rfl
 | n+1,hn,hp=>by
  have e:=PE h b (n:=n) ah;have f:=zo (rN t n).1 ⟨1,n,[],[]⟩;have a:(bE (rN t n).1 ⟨1,n,[],[]⟩).1<+:u:=hp;have d:=aon h b c n ah (f.trans a);show((bE (rN u n).1 ⟨1,n,[],[]⟩).1,(rN u n).2++ [iO (bE (rN u n).1 ⟨1,n,[],[]⟩).2])=(u,(rN t n).2++ [iO (bE (rN t n).1 ⟨1,n,[],[]⟩).2]);rw [d];dsimp only;rw [DX c e a]
def am6{t u:List Atom}(h:aM t)(j:t.length<=100)(c:bQ b)(f:aM u)(a:(dH t b).t<+:u):dH u b=(dH t b).on u:=by
 have i:=c.sz;have d:=BA h ah;obtain⟨_,g⟩:=wE b.ops 0 (s0 t) d c.k3 ah ah;have e:s0 u=(s0 t).on u:=by
  unfold s0 SS.on;rw [aon h ah f 4 ah (g.trans a)]
 unfold dH at a ⊢;rw [e];exact aiN f b.ops 0 (s0 t) d c.k3 ah ah a
def mq(h:aM t)(a:t.length<=100)(c:bQ b):bH t b=((dH t b).t,symEnd (mh b (dH t b)) (b.pc+b.len)):=by
 unfold bH;rw [if_pos (aI ⟨h,a,c⟩)]
def aee{t u:List Atom}(h:aM t)(e:t.length<=100)(a:bQ b)(f:aM u)(c:u.length<=100)(d:(bH t b).1<+:u):bH u b=(u,(bH t b).2):=by
 rw [mq h e a]at d ⊢;rw [mq f c a,am6 h e a f d];rfl
def NR(h:aM t)(a:t.length<=100)(d:bQ b):aM (bH t b).1/\t<+:(bH t b).1/\(bH t b).1.length<=t.length+b.ops.length+4:=by
 unfold bH;rw [if_pos (aI ⟨h,a,d⟩)];obtain⟨c,e⟩:=PG h a d;have:=c.tl;exact⟨c.tok,e,by dsimp only;omega⟩
end Go.TX.F
namespace Go.TX.F
open Go Go.AE Go.TX List
variable{n:Int}{i:Nat}{s:SS}{b:Blk}
def ShP(l:List (List au)):Prop:=l.length<1000000000/\∀p∈l,Sh p
def ShE(e:Ev):Prop:=Sh e.x/\Sh e.y/\ShP e.regs
def aiO(l:List Ev):Prop:=l.length<1000000000/\∀e∈l,ShE e
structure ShY(s:Sym):Prop where
 e:aiO s.events
 r:ShP s.regs
 x:Sh s.x
 y:Sh s.y
def ShP.at{l:List (List au)}(h:ShP l)(n:Nat):Sh (l.getD n default):=by
 by_cases c:n<l.length
 .rw [getD_lt c];exact h.2 _ (getElem_mem _)
 .rw [getD_eq_getElem?_getD,getElem?_eq_none ah];exact rD
def PI:ShP []:=⟨by simp,λp h=>absurd h (by simp)⟩
def aiO.at{l:List Ev}(h:aiO l)(n:Nat):ShE (l.getD n default):=by
 by_cases c:n<l.length
 .rw [getD_lt c];exact h.2 _ (getElem_mem _)
 .rw [getD_eq_getElem?_getD,getElem?_eq_none ah];exact⟨rD,rD,PI⟩
def am7:ShY aed:=⟨⟨by simp [aed],λe h=>absurd h (by simp [aed])⟩,PI,rD,rD⟩
def SI.regs(h:SI n i s):ShP s.regs:=⟨by have:=h.r4;omega,λp a=>(h.rok p a).1.sh⟩
def am8{o:IOp}(h:SI n i s)(b:s.evs.length<=i/\∀e∈s.evs,ShE e):(stp s o).evs.length<=i+1/\∀e∈(stp s o).evs,ShE e:=by
 show(nE s o).length<=i+1/\∀e∈nE s o,ShE e;unfold nE;split
 .refine⟨by rw [length_append];have:=b.1;simp only [length_cons,length_nil];omega,λe a=> ?_⟩;rw [mem_append,mem_singleton]at a;rcases a with a | rfl
  .exact b.2 e a
  .refine⟨(h.x o).1.sh,(h.y o).1.sh,?_⟩;dsimp only;split
   .exact h.regs
   .exact PI
 .exact⟨by have:=b.1;omega,b.2⟩
def PK:∀(a:List IOp) (i:Nat) (s:SS),SI n i s->(∀o∈a,o.kind=3->1<=o.k/\o.k<=5)->n+i+a.length<=200->i+a.length<=200->(s.evs.length<=i/\∀e∈s.evs,ShE e)->(a.foldl stp s).evs.length<=i+a.length/\∀e∈(a.foldl stp s).evs,ShE e
 | [],i,s,h,_,_,_,h3=>h3
 | o::r,i,s,h,hk,h1,h2,h3=>by
  rw [length_cons]at h1 h2;obtain⟨c,d⟩:=J6 h (hk o mem_cons_self) ah ah;have:=PK r (i+1) (stp s o) c (λo b=>hk o (mem_cons_of_mem _ b)) ah ah (am8 h h3);rw [foldl_cons,length_cons,show i+(r.length+1)=i+1+r.length by omega];exact this
def evT(e:Ev):Int×Int×Nat:=(e.kind,e.at_,e.regs.length)
def opT(o:IOp):Int×Int×Nat:=(o.kind,o.at_,if o.kind=4\/o.kind=5 then 4 else 0)
def acL(a:List IOp):List IOp:=a.filter λo=>decide (evO o)
def acM:∀(a:List IOp) (s:SS),s.regs.length=4->(a.foldl stp s).evs.map evT=s.evs.map evT++(acL a).map opT
 | [],s,_=>by simp [acL]
 | o::r,s,h=>by
  have b:(stp s o).regs.length=4:=by
   show(nR s o).length=4;unfold nR;split
   .rw [length_set];exact h
   .exact h
  rw [foldl_cons,acM r (stp s o) b];show(nE s o).map evT++_=_;unfold nE acL;by_cases c:evO o
  .have e:evT ⟨o.kind,o.at_,xOf s o,yOf s o,if o.kind=4\/o.kind=5 then s.regs else []⟩=opT o:=by
    unfold evT opT;dsimp only;split
    .rw [h]
    .rfl
   rw [if_pos c,filter_cons_of_pos (by simpa using c),map_append,append_assoc];refine congrArg (s.evs.map evT++ ·) ?_;show evT _::_=opT o::_;rw [e];rfl
  .rw [if_neg c,filter_cons_of_neg (by simpa using c)]
def Ia(h:SI n i s):aX (mh b s).x/\aX (mh b s).y:=by
 unfold mh;dsimp only;constructor
 .split
  .exact dx
  .exact(Fw h.vok _).1
 .split
  .exact(Fw h.vok _).1
  .exact dx
def PL{s:Sym}(h:aX s.x/\aX s.y):(symEnd s n).events=s.events/\(symEnd s n).regs=s.regs/\aX (symEnd s n).x/\aX (symEnd s n).y:=by
 unfold symEnd;rw [if_neg (by rw [aI h];simp)]
 repeat' split
 all_goals first | exact⟨rfl,rfl,h⟩ | exact⟨rfl,rfl,dx,dx⟩ | exact⟨rfl,rfl,h.2,h.1⟩
structure axB(t:List Atom)(b:Blk):Prop where
 evs:(bH t b).2.events.map evT=(acL b.ops).map opT
 r4:(bH t b).2.regs.length=4
 sh:ShY (bH t b).2
 ne:0< (bH t b).1.length
theorem SQ{t:List Atom}(h:aM t)(i:t.length<=100)(a:bQ b):axB t b:=by
 have j:=a.sz;have c:=BA h ah;obtain⟨g,l⟩:=PG h i a;have f:=PK b.ops 0 (s0 t) c a.k3 ah ah ⟨by simp [s0],λe d=>absurd d (by simp [s0])⟩;have d:=acM b.ops (s0 t) c.r4;have hk:=PL (n:=b.pc+b.len) (Ia (b:=b) g);have e:bH t b=((dH t b).t,symEnd (mh b (dH t b)) (b.pc+b.len)):=by unfold bH;rw [if_pos (aI ⟨h,i,a⟩)]
 rw [Nat.zero_add]at f;refine⟨?_,?_,?_,?_⟩
 .rw [e];dsimp only;rw [hk.1];show(dH t b).evs.map evT=_;unfold dH;rw [d];rfl
 .rw [e];dsimp only;rw [hk.2.1];exact g.r4
 .rw [e];refine⟨?_,?_,hk.2.2.1.sh,hk.2.2.2.sh⟩
  .rw [hk.1];exact⟨by have:=f.1;show(b.ops.foldl stp (s0 t)).evs.length<_;omega,f.2⟩
  .rw [hk.2.1];exact g.regs
 .rw [e];have r:=wE b.ops 0 (s0 t) c a.k3 ah ah;have:=tJ r.2;have p:=AJ (PE h ah (n:=3) ah);have k:=PE h ah (n:=3) ah;show 0< (dH t b).t.length;have:(s0 t).t.length=(bE (rN t 3).1 ⟨1,(3:Nat),[],[]⟩).1.length:=rfl;unfold dH;omega
def DZ(t:List Atom)(b:Blk):ShY (bH t b).2/\ShT (bH t b).1:=by
 by_cases c:aM t/\t.length<=100/\bQ b
 .exact⟨(SQ c.1 c.2.1 c.2.2).sh,(NR c.1 c.2.1 c.2.2).1.sh⟩
 .unfold bH;rw [aT c,if_neg (by simp)];exact⟨am7,am1⟩
noncomputable def t4:List Atom:=(rN [] 4).1
def AL:aM []:=qP.2 ⟨All.zero,by simp⟩
def acN:aM t4/\t4.length<=4:=by
 have:=DY AL (by simp) 4 ah;exact⟨this.tok,Nat.le_trans this.tl (by simp)⟩
noncomputable def chk (b c:Blk):Bool:=bp (bQ b/\bQ c/\b.pc=c.pc/\b.len=c.len/\(b=c\/(bH t4 b).2=(bH (bH t4 b).1 c).2))
structure Lk(b c:Blk):Prop where
 ob:bQ b
 oc:bQ c
 pc:b.pc=c.pc
 len:b.len=c.len
 run:∀u,aM u->u.length<=100->(bH u b).1=u->bH u c=bH u b
def Lk.refl(h:bQ b):Lk b b:=⟨h,h,rfl,rfl,λ_ _ _ _=>rfl⟩
def Lk.trans{b c d:Blk}(h:Lk b c)(g:Lk c d):Lk b d:=⟨h.ob,g.oc,h.pc.trans g.pc,h.len.trans g.len,λu f a i=>by
 have e:=h.run u f a i;rw [g.run u f a (by rw [e];exact i),e]⟩
def am9(a:bQ b):aM (bH t4 b).1/\(bH t4 b).1.length<=100/\bH (bH t4 b).1 b=bH t4 b:=by
 have c:=acN;have d:=NR c.1 ah a;have e:=a.sz;refine⟨d.1,ah,?_⟩;have:=aee c.1 ah a d.1 ah (prefix_refl _);rw [this]
theorem Lk.chk{b c:Blk}(h:Lk b c):chk b c=true:=by
 obtain⟨e,d,a⟩:=am9 h.ob;refine aI ⟨h.ob,h.oc,h.pc,h.len,Or.inr ?_⟩;rw [h.run _ e d (by rw [a]),a]
end Go.TX.F
namespace Go.TX.F
open Go Go.AE Go.TX List
variable{α:Type}{b:Blk}
def PN:Blk:=⟨0,0,[],0,0,0,0⟩
theorem fC{d x:α}{l:List α}{i:Nat}:(l++ [x]).getD i d=if i<l.length then l.getD i d else if i=l.length then x else d:=by grind
def oZ(f:SS->IOp->SS)(s:SS){l:List IOp}{i:Nat}(h:i<l.length):(l.take (i+1)).foldl f s=f ((l.take i).foldl f s) l[i]:=by
 rw [take_succ_eq_append_getElem h,foldl_append];rfl
def AO:∀(l:List IOp) (s:SS),(l.foldl stp s).vals.length=s.vals.length+l.length
 | [],_=>rfl
 | o::r,s=>by
  rw [foldl_cons,AO r,length_cons];show(s.vals++ [nV s o]).length+_=_
  grind
def ren(nm:List Int)(o:IOp):IOp:=⟨o.kind,if hX o then((nm).getD (o.x).toNat default)else o.x,if hY o then((nm).getD (o.y).toNat default)else o.y,o.k,o.at_⟩
def Fx(nm:List Int)(b:Blk)(ops:List IOp):Blk:=⟨b.pc,b.len,ops.map (ren nm),b.fin,if b.fin=1 then b.x else((nm).getD (b.x).toNat default),if 3<=b.fin then((nm).getD (b.y).toNat default)else b.y,b.k⟩
def cpN(s:List Int×List Int)(i:Int)(o:IOp):Int:=if o.kind=2/\0<=((s.2).getD (o.k).toNat default)then((s.2).getD (o.k).toNat default)else i
def cpL(s:List Int×List Int)(i:Int)(o:IOp):List Int:=if o.kind=2 then(if 0<=((s.2).getD (o.k).toNat default)then s.2 else s.2.set o.k.toNat i)else if o.kind=8 then s.2.set o.k.toNat ((s.1).getD (o.x).toNat default)else s.2
def cpS(ops:List IOp):Nat->List Int×List Int
 | 0=>([],[-1, -1, -1, -1])
 | i+1=>((cpS ops i).1++ [cpN (cpS ops i) i (ops.getD i default)],cpL (cpS ops i) i (ops.getD i default))
noncomputable def bK (b:Blk):Blk:=if bp (bQ b)=true then Fx (cpS b.ops b.ops.length).1 b b.ops else PN
theorem tK(ops:List IOp):∀i,(cpS ops i).1.length=i/\(cpS ops i).2.length=4
 | 0=>⟨rfl,rfl⟩
 | i+1=>by
  obtain⟨a,b⟩:=tK ops i
  grind [cpS,length_append,cpL,default,length_set]
theorem aay(a:List IOp):∀ {i n:Nat} {j:Nat},j<i->i<=n->(cpS a n).1.getD j default=(cpS a i).1.getD j default:=by
 intro i n j d c
 induction n with
 | zero=>omega
 | succ n b=>grind [cpS,default,fC,tK]
structure CI(ops:List IOp)(i:Nat)(s:SS):Prop where
 nm:∀j:Int,0<=j->j<i->(0<=(((cpS ops i).1).getD (j).toNat default)/\(((cpS ops i).1).getD (j).toNat default)<=j)/\((s.vals).getD ((((cpS ops i).1).getD (j).toNat default)).toNat default)=((s.vals).getD (j).toNat default)/\(mkV ((ops).getD (j).toNat default)->mkV ((ops).getD ((((cpS ops i).1).getD (j).toNat default)).toNat default))
 la:∀r:Int,0<=r->r<=3->0<=(((cpS ops i).2).getD (r).toNat default)->(((cpS ops i).2).getD (r).toNat default)<i/\((s.vals).getD ((((cpS ops i).2).getD (r).toNat default)).toNat default)=((s.regs).getD (r).toNat default)/\mkV ((ops).getD ((((cpS ops i).2).getD (r).toNat default)).toNat default)
def rG{d x:α}{l:List α}{i j:Int}(c:0<=i)(b:0<=j)(a:j<l.length):(l.set j.toNat x).getD i.toNat d=if i=j then x else l.getD i.toNat d:=by grind
def J7(G:bQ b)(t:List Atom)(H:(s0 t).regs.length=4):∀i:Nat,i<=b.ops.length->
  ((b.ops.map (ren (cpS b.ops b.ops.length).1)).take i).foldl stp (s0 t)=(b.ops.take i).foldl stp (s0 t)/\((b.ops.take i).foldl stp (s0 t)).regs.length=4/\CI b.ops i ((b.ops.take i).foldl stp (s0 t))
 | 0,_=>⟨rfl,H,⟨λj f m=>absurd m ah,λr f m d=>by
   exfalso;have:(((cpS b.ops 0).2).getD (r).toNat default)= -1:=by
    show((([-1, -1, -1, -1]:List Int)).getD (r).toNat default)= -1;rcases(by omega:r=0\/r=1\/r=2\/r=3)with h | h | h | h<;>subst h<;>rfl
   omega⟩⟩
 | i+1,hi=>by
  obtain⟨A,x,k⟩:=J7 G t H i ah;have n:i<b.ops.length:=hi;have a:=G.op i ah ah;rw [show(i:Int).toNat=i from rfl,getD_lt n]at a;have C:b.ops.getD i default=b.ops[i]:=getD_lt n;have L:=AO (b.ops.take i) (s0 t);rw [length_take,Nat.min_eq_left ah,show(s0 t).vals.length=0 from rfl,Nat.zero_add]at L;obtain⟨R,S⟩:=tK b.ops i;rw [oZ _ _ (by rw [length_map];exact n),oZ _ _ n,A,getElem_map]
  clear A
  generalize (b.ops.take i).foldl stp (s0 t)=s at x k L ⊢;generalize X:b.ops[i]=o at a C ⊢;have F:∀j:Int,0<=j->j<i->(((cpS b.ops b.ops.length).1).getD (j).toNat default)=(((cpS b.ops i).1).getD (j).toNat default):=λj f m=>aay b.ops ah ah
  have vx:∀j:Int,0<=j->j<i->((s.vals).getD ((((cpS b.ops b.ops.length).1).getD (j).toNat default)).toNat default)=((s.vals).getD (j).toNat default):=λj f m=>by rw [F j f m];exact(k.nm j f m).2.1
  have N:xOf s (ren (cpS b.ops b.ops.length).1 o)=xOf s o:=by
   unfold xOf;by_cases c:hX o
   .rw [if_pos (show hX (ren _ o)from c),if_pos c];show((s.vals).getD ((if hX o then(((cpS b.ops b.ops.length).1).getD (o.x).toNat default)else o.x)).toNat default)=_;rw [if_pos c];exact vx _ (a.x1 c).1 (a.x1 c).2.1
   grind [ren]
  have V:yOf s (ren (cpS b.ops b.ops.length).1 o)=yOf s o:=by
   unfold yOf;by_cases c:hY o
   .rw [if_pos (show hY (ren _ o)from c),if_pos c];show((s.vals).getD ((if hY o then(((cpS b.ops b.ops.length).1).getD (o.y).toNat default)else o.y)).toNat default)=_;rw [if_pos c];exact vx _ (a.y1 c).1 (a.y1 c).2.1
   .rw [if_neg (show¬hY (ren _ o)from c),if_neg c]
  have T:stp s (ren (cpS b.ops b.ops.length).1 o)=stp s o:=by
   unfold stp nT nV nR nE aOf;rw [N,V];rfl
  have P:(stp s o).regs.length=4:=by
   show(nR s o).length=4;unfold nR;split
   .rw [length_set];exact x
   .exact x
  refine⟨T,P,?_⟩;have B:∀j:Int,0<=j->j<i->(((stp s o).vals).getD (j).toNat default)=((s.vals).getD (j).toNat default):=λj f m=>by
   show(((s.vals++ [nV s o])).getD (j).toNat default)=_;rw [fC,if_pos ah]
  have M:(((stp s o).vals).getD ((i:Int)).toNat default)=nV s o:=by
   show(((s.vals++ [nV s o])).getD ((i:Int)).toNat default)=_;rw [fC,if_neg ah,if_pos ah]
  have O:∀j:Int,0<=j->j<i->(((cpS b.ops (i+1)).1).getD (j).toNat default)=(((cpS b.ops i).1).getD (j).toNat default):=λj f m=>aay b.ops ah ah
  have Q:(((cpS b.ops (i+1)).1).getD ((i:Int)).toNat default)=cpN (cpS b.ops i) i o:=by
   show((((cpS b.ops i).1++ [cpN (cpS b.ops i) i (b.ops.getD i default)])).getD ((i:Int)).toNat default)=_;rw [fC,if_neg ah,if_pos ah,C]
  have U:(cpS b.ops (i+1)).2=cpL (cpS b.ops i) i o:=by
   show cpL (cpS b.ops i) i (b.ops.getD i default)=_;rw [C]
  have D:((b.ops).getD ((i:Int)).toNat default)=o:=by rw [show(i:Int).toNat=i from rfl,C]
  refine⟨λj f m=> ?_,λr f m d=> ?_⟩
  .by_cases c:j<i
   .obtain⟨⟨u,z⟩,y,E⟩:=k.nm j f c;rw [O j f c];exact⟨⟨u,z⟩,by rw [B _ u ah,B j f c];exact y,E⟩
   .have:j=(i:Int):=by omega
    subst this;rw [Q];unfold cpN;by_cases l:o.kind=2/\0<=(((cpS b.ops i).2).getD (o.k).toNat default)
    .rw [if_pos l];have hk:=a.k2 (Or.inl l.1);obtain⟨u,z,y⟩:=k.la o.k hk.1 hk.2 l.2;refine⟨⟨l.2,ah⟩,?_,λ_=>y⟩;rw [B _ l.2 u,M,z];unfold nV;rw [if_neg ah,if_pos l.1]
    .rw [if_neg l];exact⟨⟨ah,Int.le_refl _⟩,rfl,λh=>h⟩
  .rw [U]at d ⊢;unfold cpL at d ⊢;have p:0<=(((cpS b.ops i).2).getD (r).toNat default)->(o.kind=8->r≠o.k)->(((cpS b.ops i).2).getD (r).toNat default)< ((i+1:Nat):Int)/\(((stp s o).vals).getD ((((cpS b.ops i).2).getD (r).toNat default)).toNat default)=(((stp s o).regs).getD (r).toNat default)/\mkV ((b.ops).getD ((((cpS b.ops i).2).getD (r).toNat default)).toNat default):=λI g=>by
    obtain⟨u,z,y⟩:=k.la r f m I;refine⟨ah,?_,y⟩;rw [B _ I u,z];show _=(((nR s o)).getD (r).toNat default);unfold nR;split
    .rename_i q;have hk:=a.k2 (Or.inr q);rw [rG f hk.1 ah,if_neg (g q)]
    .rfl
   by_cases l:o.kind=2
   .have hk:=a.k2 (Or.inl l);rw [if_pos l]at d ⊢;by_cases J:0<=(((cpS b.ops i).2).getD (o.k).toNat default)
    .rw [if_pos J]at d ⊢;exact p d (λe=>absurd e ah)
    .rw [if_neg J]at d ⊢;rw [rG f hk.1 ah]at d ⊢;by_cases w:r=o.k
     .rw [if_pos w]at d ⊢;refine⟨ah,?_,by rw [D];exact Or.inl ah⟩;rw [M];show nV s o=(((nR s o)).getD (r).toNat default);unfold nV nR;rw [if_neg ah,if_pos l,if_neg ah,w]
     .rw [if_neg w]at d ⊢;exact p d (λe=>absurd e ah)
   .rw [if_neg l]at d ⊢;by_cases q:o.kind=8
    .have hk:=a.k2 (Or.inr q);have K:hX o:=by unfold hX;omega
     have v:=a.x1 K;obtain⟨⟨u,z⟩,y,E⟩:=k.nm o.x v.1 v.2.1;rw [if_pos q]at d ⊢;rw [rG f hk.1 ah]at d ⊢;by_cases w:r=o.k
     .rw [if_pos w]at d ⊢;have W:=v.2.1;refine⟨ah,?_,E v.2.2⟩;rw [B _ u ah,y];show _=(((nR s o)).getD (r).toNat default);unfold nR;rw [if_pos q,rG f hk.1 ah,if_pos w];unfold xOf;rw [if_pos K]
     .rw [if_neg w]at d ⊢;exact p d (λ_=>w)
    .rw [if_neg q]at d ⊢;exact p d (λe=>absurd e q)
def aiP{nm:List Int}{b:Blk}{a:List IOp}(i:Int):((((a.map (ren nm))).getD (i).toNat default)).kind=(((a).getD (i).toNat default)).kind:=by
 by_cases c:i.toNat<a.length
 .rw [getD_lt (by rw [length_map];exact c),getD_lt c,getElem_map];rfl
 simp_all
def Gq(c:bQ b):Lk b (bK b)/\(bK b).ops.length=b.ops.length/\∀u,aM u->u.length<=100->bH u (bK b)=bH u b:=by
 have e:bK b=Fx (cpS b.ops b.ops.length).1 b b.ops:=by unfold bK;rw [if_pos (aI c)]
 have p:=BA AL (by simp);obtain⟨_,_,ci⟩:=J7 c [] p.r4 b.ops.length (Nat.le_refl _);have m:∀i:Int,((((b.ops.map (ren (cpS b.ops b.ops.length).1))).getD (i).toNat default)).kind=(((b.ops).getD (i).toNat default)).kind:=λi=>aiP (b:=b) i
 have g:∀ {x n:Int},Vl b.ops x n->n<=b.ops.length->Vl (b.ops.map (ren (cpS b.ops b.ops.length).1)) (((cpS b.ops b.ops.length).1).getD (x).toNat default) n:=λ{x n} ⟨f,d,v⟩ hn=>by
  obtain⟨⟨s,y⟩,_,q⟩:=ci.nm x f ah;have:=q v;exact⟨s,ah,by unfold mkV at this ⊢;rw [m];exact this⟩
 have ok:bQ (bK b):=by
  rw [e];refine⟨c.ln,c.pc,by show(b.ops.map _).length<=48;rw [length_map];exact c.sz,λi f d=> ?_,?_⟩
  .have d:i< (b.ops.map (ren (cpS b.ops b.ops.length).1)).length:=d;rw [length_map]at d;have a:=c.op i f d;show oW (b.ops.map _) b.len i (((b.ops.map (ren (cpS b.ops b.ops.length).1))).getD (i).toNat default);rw [getD_lt (show i.toNat< (b.ops.map (ren (cpS b.ops b.ops.length).1)).length by rw [length_map];omega),getElem_map];rw [getD_lt (show i.toNat<b.ops.length by omega)]at a;generalize b.ops[i.toNat]=o at a;refine⟨a.kd,λh=> ?_,λh=> ?_,λh=> ?_,λh=> ?_,a.k1,a.k2,a.k3,a.k0,a.a1,a.a0⟩
   .have h:hX o:=h;show Vl _ (if hX o then _ else _) i;rw [if_pos h];exact g (a.x1 h) ah
   .have h:¬hX o:=h;show(if hX o then _ else _)=_;rw [if_neg h];exact a.x0 h
   .have h:hY o:=h;show Vl _ (if hY o then _ else _) i;rw [if_pos h];exact g (a.y1 h) ah
   .have h:¬hY o:=h;show(if hY o then _ else _)=_;rw [if_neg h];exact a.y0 h
  .have he:=c.en;refine⟨he.f,λh=> ?_,λh=> ?_,λh=> ?_,λh=> ?_,he.k1,he.k0⟩
   .have h:b.fin≠1:=h;show Vl (b.ops.map _) (if b.fin=1 then _ else _) ((b.ops.map _).length:Nat);rw [if_neg h,length_map];exact g (he.x1 h) (Int.le_refl _)
   .have h:b.fin=1:=h;show(if b.fin=1 then _ else _)=_;rw [if_pos h];exact he.x0 h
   .have h:3<=b.fin:=h;show Vl (b.ops.map _) (if 3<=b.fin then _ else _) ((b.ops.map _).length:Nat);rw [if_pos h,length_map];exact g (he.y1 h) (Int.le_refl _)
   .have h:b.fin<=2:=h;show(if 3<=b.fin then _ else _)=_;rw [if_neg ah];exact he.y0 h
 suffices R:∀u,aM u->u.length<=100->bH u (bK b)=bH u b from⟨⟨c,ok,by rw [e];rfl,by rw [e];rfl,λu f d _=>R u f d⟩,by rw [e];exact length_map _,R⟩
 intro u f d;have w:=BA f ah;obtain⟨l,_,k⟩:=J7 c u w.r4 b.ops.length (Nat.le_refl _);rw [take_of_length_le (by rw [length_map];omega),take_of_length_le ah]at l;rw [take_of_length_le ah]at k;have t:dH u (bK b)=dH u b:=by rw [e];exact l
 unfold bH;rw [if_pos (aI ⟨f,d,ok⟩),if_pos (aI ⟨f,d,c⟩),t];have r:mh (bK b) (dH u b)=mh b (dH u b):=by
  rw [e];unfold mh Fx;dsimp only;have j:=c.en;have z:b.fin≠1->(((dH u b).vals).getD ((((cpS b.ops b.ops.length).1).getD (b.x).toNat default)).toNat default)=(((dH u b).vals).getD (b.x).toNat default):=λh=>(k.nm b.x (j.x1 h).1 (j.x1 h).2.1).2.1
  have A:3<=b.fin->(((dH u b).vals).getD ((((cpS b.ops b.ops.length).1).getD (b.y).toNat default)).toNat default)=(((dH u b).vals).getD (b.y).toNat default):=λh=>(k.nm b.y (j.y1 h).1 (j.y1 h).2.1).2.1
  simp_all
 rw [r];rw [show(bK b).pc=b.pc by rw [e];rfl,show(bK b).len=b.len by rw [e];rfl]
def aaz(a:bQ b):Lk b (bK b)/\(bK b).ops.length=b.ops.length:=⟨(Gq a).1,(Gq a).2.1⟩
end Go.TX.F
namespace Go.TX.F
open Go Go.AE Go.TX List
variable{b:Blk}{d:List Bool}{m:List Bool}
def fcO(f:List IOp)(o:IOp):IOp:=if o.kind=3/\(((f).getD (o.x).toNat default)).kind=1/\(((f).getD (o.y).toNat default)).kind=1 then⟨1,0,0,wdo o.k (((f).getD (o.x).toNat default)).k (((f).getD (o.y).toNat default)).k,0⟩else o
def fc(a:List IOp):Nat->List IOp
 | 0=> []
 | i+1=>fc a i++ [fcO (fc a i) (a.getD i default)]
def fcB(b:Blk)(f:List IOp):Blk:=
 if b.fin=2/\(((f).getD (b.x).toNat default)).kind=1 then⟨b.pc,b.len,f,1,0,b.y,(((f).getD (b.x).toNat default)).k⟩
 else if 3<=b.fin/\(((f).getD (b.x).toNat default)).kind=1/\(((f).getD (b.y).toNat default)).kind=1 then⟨b.pc,b.len,f,1,0,0,if b.fin=3/\(((f).getD (b.x).toNat default)).k=(((f).getD (b.y).toNat default)).k\/b.fin=4/\(((f).getD (b.x).toNat default)).k< (((f).getD (b.y).toNat default)).k then b.k else b.pc+b.len⟩
 else⟨b.pc,b.len,f,b.fin,b.x,b.y,b.k⟩
noncomputable def dA (b:Blk):Blk:=if bp (bQ b)=true then fcB b (fc b.ops b.ops.length)else PN
def mD(a:List IOp):∀i,(fc a i).length=i
 | 0=>rfl
 | i+1=>by show(fc a i++ [_]).length=_;rw [length_append,mD a i];rfl
def aoo(a:List IOp){i n j:Nat}(e:j<i)(d:i<=n):(fc a n).getD j default=(fc a i).getD j default:=by
  induction n with
  | zero => have : i = 0 := by omega
            subst this;rfl
  | succ n b=>
    by_cases c:i=n+1
    · subst c;rfl
    · have:=b ah;rw [<-this];show(fc a n++ [_]).getD j default=_;rw [fC,if_pos (by rw [mD];omega)]
def J8(a:List IOp){i n:Nat}(h:i<n):(fc a n).getD i default=fcO (fc a i) (a.getD i default):=by
 rw [aoo a (show i<i+1 by omega) (show i+1<=n by omega)];show(fc a i++ [_]).getD i default=_;rw [fC,if_neg (by rw [mD];omega),if_pos (by rw [mD])]
structure FI(ops:List IOp)(i:Nat)(s:SS):Prop where
 c:∀j:Int,0<=j->j<i->((((fc ops i)).getD (j).toNat default)).kind=1->(0<=((((fc ops i)).getD (j).toNat default)).k/\((((fc ops i)).getD (j).toNat default)).k<=65535)/\((s.vals).getD (j).toNat default)=aY ((((fc ops i)).getD (j).toNat default)).k
 m:∀j:Int,0<=j->j<i->mkV ((ops).getD (j).toNat default)->mkV (((fc ops i)).getD (j).toNat default)
def aef(t:List Atom){c a b:Int}(d:1<=c/\c<=5)(e:0<=a/\a<=65535)(f:0<=b/\b<=65535):tDo t c (aY a) (aY b)=(t,aY (wdo c a b)):=by
 unfold tDo;rw [aaw d e f,if_pos rfl]
def Fy(v:bQ b)(t:List Atom):∀i:Nat,i<=b.ops.length->
  ((fc b.ops b.ops.length).take i).foldl stp (s0 t)=(b.ops.take i).foldl stp (s0 t)/\FI b.ops i ((b.ops.take i).foldl stp (s0 t))
 | 0,_=>⟨rfl,⟨λj f k=>absurd k ah,λj f k=>absurd k ah⟩⟩
 | i+1,hi=>by
  obtain⟨l,e⟩:=Fy v t i ah;have a:i<b.ops.length:=hi;have d:=v.op i ah ah;rw [show(i:Int).toNat=i from rfl,getD_lt a]at d;have m:b.ops.getD i default=b.ops[i]:=getD_lt a;have G:=AO (b.ops.take i) (s0 t);rw [length_take,Nat.min_eq_left ah,show(s0 t).vals.length=0 from rfl,Nat.zero_add]at G;have R:=mD b.ops i;have F:(fc b.ops b.ops.length)[i]'(by rw [mD];exact a)=fcO (fc b.ops i) b.ops[i]:=by
   rw [<-m,<-J8 b.ops a,getD_lt]
  rw [oZ _ _ (by rw [mD];exact a),oZ _ _ a,l,F]
  clear l
  generalize (b.ops.take i).foldl stp (s0 t)=s at e G ⊢;generalize Q:b.ops[i]=o at d m F ⊢;have n:o.kind=3/\((((fc b.ops i)).getD (o.x).toNat default)).kind=1/\((((fc b.ops i)).getD (o.y).toNat default)).kind=1->xOf s o=aY ((((fc b.ops i)).getD (o.x).toNat default)).k/\yOf s o=aY ((((fc b.ops i)).getD (o.y).toNat default)).k/\(0<=((((fc b.ops i)).getD (o.x).toNat default)).k/\((((fc b.ops i)).getD (o.x).toNat default)).k<=65535)/\(0<=((((fc b.ops i)).getD (o.y).toNat default)).k/\((((fc b.ops i)).getD (o.y).toNat default)).k<=65535):=λ⟨I,J,K⟩=>by
   have D:hX o:=by unfold hX;omega
   have B:hY o:=Or.inl I;have x:=d.x1 D;have C:=d.y1 B;have A:=e.c o.x x.1 x.2.1 J;have w:=e.c o.y C.1 C.2.1 K;refine⟨?_,?_,A.1,w.1⟩
   .unfold xOf;rw [if_pos D];exact A.2
   .unfold yOf;rw [if_pos B];exact w.2
  have p:stp s (fcO (fc b.ops i) o)=stp s o/\((fcO (fc b.ops i) o).kind=1->(0<=(fcO (fc b.ops i) o).k/\(fcO (fc b.ops i) o).k<=65535)/\nV s o=aY (fcO (fc b.ops i) o).k)/\(mkV o->mkV (fcO (fc b.ops i) o)):=by
   unfold fcO;by_cases c:o.kind=3/\((((fc b.ops i)).getD (o.x).toNat default)).kind=1/\((((fc b.ops i)).getD (o.y).toNat default)).kind=1
   .rw [if_pos c];obtain⟨r,E,k3,P⟩:=n c;have hd:=aef s.t (d.k3 c.1) k3 P;have L:nT s o=s.t:=by unfold nT;rw [if_pos c.1,r,E,hd]
    have z:nV s o=aY (wdo o.k ((((fc b.ops i)).getD (o.x).toNat default)).k ((((fc b.ops i)).getD (o.y).toNat default)).k):=by unfold nV;rw [if_neg ah,if_neg ah,if_pos c.1,r,E,hd]
    refine⟨?_,λ_=>⟨DT _ _ _,z⟩,λ_=>Or.inl ⟨by dsimp only;omega,by dsimp only;omega⟩⟩;have M:nR s o=s.regs:=by unfold nR;rw [if_neg ah]
    have N:nE s o=s.evs:=by unfold nE;rw [if_neg ah]
    show SS.mk (nT s ⟨1,0,0,_,0⟩) (nR s ⟨1,0,0,_,0⟩) (s.vals++ [nV s ⟨1,0,0,_,0⟩]) (if(1:Int)=4 then _ else _) (if(1:Int)=6 then _ else _) (nE s ⟨1,0,0,_,0⟩)=SS.mk (nT s o) (nR s o) (s.vals++ [nV s o]) (if o.kind=4 then _ else _) (if o.kind=6 then _ else _) (nE s o);rw [L,z,M,N,if_neg (show¬o.kind=4 by omega),if_neg (show¬o.kind=6 by omega)];rfl
   .rw [if_neg c];refine⟨rfl,λh=>⟨d.k1 h,by unfold nV;rw [if_pos h]⟩,λh=>h⟩
  refine⟨p.1,?_⟩;have H:∀j:Int,0<=j->j<i->(((stp s o).vals).getD (j).toNat default)=((s.vals).getD (j).toNat default):=λj f k=>by
   show(((s.vals++ [nV s o])).getD (j).toNat default)=_;rw [fC,if_pos ah]
  have O:(((stp s o).vals).getD ((i:Int)).toNat default)=nV s o:=by
   show(((s.vals++ [nV s o])).getD ((i:Int)).toNat default)=_;rw [fC,if_neg ah,if_pos ah]
  have u:∀j:Int,0<=j->j<i->(((fc b.ops (i+1))).getD (j).toNat default)=(((fc b.ops i)).getD (j).toNat default):=λj f k=>aoo b.ops ah ah
  have y:(((fc b.ops (i+1))).getD ((i:Int)).toNat default)=fcO (fc b.ops i) o:=by
   rw [show((i:Int)).toNat=i from rfl,J8 b.ops (show i<i+1 by omega),m]
  have q:((b.ops).getD ((i:Int)).toNat default)=o:=by rw [show(i:Int).toNat=i from rfl,m]
  refine⟨λj f k g=> ?_,λj f k g=> ?_⟩
  .by_cases c:j<i
   .rw [u j f c]at g ⊢;rw [H j f c];exact e.c j f c g
   .have:j=(i:Int):=by omega
    subst this;rw [y]at g ⊢;rw [O];exact p.2.1 g
  .by_cases c:j<i
   .rw [u j f c];exact e.m j f c g
   .have:j=(i:Int):=by omega
    subst this;rw [q]at g;rw [y];exact p.2.2 g
def aaA{a b:Int}(c:0<=a/\a<=65535)(d:0<=b/\b<=65535)(h:aY a=aY b):a=b:=by
 have:=jf c;rw [h,jf d]at this;exact(congrArg Prod.fst this).symm
def aop(b:Blk)(f:List IOp):(fcB b f).pc=b.pc/\(fcB b f).len=b.len/\(fcB b f).ops=f:=by
 unfold fcB;split
 .exact⟨rfl,rfl,rfl⟩
 .split<;>exact⟨rfl,rfl,rfl⟩
def SX(f:bQ b):Lk b (dA b)/\(dA b).ops.length=b.ops.length:=by
 have e:dA b=fcB b (fc b.ops b.ops.length):=by unfold dA;rw [if_pos (aI f)]
 obtain⟨C,l,r⟩:=aop b (fc b.ops b.ops.length);have p:=mD b.ops b.ops.length;obtain⟨_,K⟩:=Fy f [] b.ops.length (Nat.le_refl _);have y:∀ {x n:Int},Vl b.ops x n->n<=b.ops.length->Vl (fc b.ops b.ops.length) x n:=λ{x n} ⟨B,G,O⟩ hn=>⟨B,G,K.m x B ah O⟩
 have a:=f.en;have B:=f.ln;have G:=f.pc;have ok:bQ (dA b):=by
  rw [e];refine⟨by rw [l];exact f.ln,by rw [C,l];exact f.pc,by rw [r,p];exact f.sz,λi D z=> ?_,?_⟩
  .rw [r]at z ⊢;rw [p]at z;rw [l];have j:=f.op i D z;rw [J8 b.ops (show i.toNat<b.ops.length by omega)];generalize b.ops.getD i.toNat default=o at j;unfold fcO;split
   .refine⟨by dsimp only;omega,λh=>absurd h (by unfold hX;simp),λ_=>rfl,λh=>absurd h (by unfold hY;simp),λ_=>rfl,λ_=>DT _ _ _,λh=>absurd h (by simp),λh=>absurd h (by simp),λh=>absurd h (by simp),λh=>absurd h (by unfold evO;simp),λ_=>rfl⟩
   .exact⟨j.kd,λh=>y (j.x1 h) ah,j.x0,λh=>y (j.y1 h) ah,j.y0,j.k1,j.k2,j.k3,j.k0,j.a1,j.a0⟩
  .unfold fcB;split
   .rename_i c;have v:=a.x1 ah;have g:=K.c b.x v.1 v.2.1 c.2;exact⟨by dsimp only;omega,λh=>absurd rfl h,λ_=>rfl,λh=>absurd h (by dsimp only;omega),λ_=>a.y0 ah,λ_=>g.1,λh=>absurd h (by simp)⟩
   .split
    .rename_i c;refine⟨by dsimp only;omega,λh=>absurd rfl h,λ_=>rfl,λh=>absurd h (by dsimp only;omega),λ_=>rfl,λ_=> ?_,λh=>absurd h (by simp)⟩;dsimp only;split
     .exact a.k1 ah
     .omega
    .exact⟨a.f,λh=>by dsimp only at h ⊢;rw [p];exact y (a.x1 h) (Int.le_refl _),a.x0,λh=>by dsimp only at h ⊢;rw [p];exact y (a.y1 h) (Int.le_refl _),a.y0,a.k1,a.k0⟩
 refine⟨⟨f,ok,by rw [e,C],by rw [e,l],λu u1 u2 u3=> ?_⟩,by rw [e,r,p]⟩;obtain⟨H,k⟩:=Fy f u b.ops.length (Nat.le_refl _);rw [take_of_length_le ah,take_of_length_le ah]at H;rw [take_of_length_le ah]at k;have N:dH u (dA b)=dH u b:=by unfold dH;rw [e,r];exact H
 unfold bH;rw [if_pos (aI ⟨u1,u2,ok⟩),if_pos (aI ⟨u1,u2,f⟩),N];rw [e,C,l];have D:=(PG u1 u2 f).1;have F:=Ia (b:=b) D
 congr 1
 have k:FI b.ops b.ops.length (dH u b):=k;generalize dH u b=s at k F;unfold fcB;split
 .rename_i c;have v:=a.x1 ah;obtain⟨m,A⟩:=k.c b.x v.1 v.2.1 c.2;have t:(mh b s).x=aY ((((fc b.ops b.ops.length)).getD (b.x).toNat default)).k:=by unfold mh;dsimp only;rw [if_neg ah];exact A
  have I:(mh b s).y=[]:=by unfold mh;dsimp only;rw [if_neg ah]
  have E:symEnd (mh b s) (b.pc+b.len)=⟨s.evs,s.regs,1,[],[],((((fc b.ops b.ops.length)).getD (b.x).toNat default)).k⟩:=by
   unfold symEnd;rw [if_neg (by rw [aI F];simp),if_pos ⟨c.1,by rw [t,jf m]⟩,t,jf m];rfl
  rw [E];unfold symEnd mh;dsimp only;rw [if_neg (by rw [aI ⟨by rw [if_pos rfl];exact dx,by rw [if_neg ah];exact dx⟩];simp),if_neg ah,if_pos ah];rw [if_pos rfl,if_neg ah]
 .split
  .rename_i _ c;have v:=a.x1 ah;have w:=a.y1 c.1;obtain⟨m,A⟩:=k.c b.x v.1 v.2.1 c.2.1;obtain⟨J,M⟩:=k.c b.y w.1 w.2.1 c.2.2;have t:(mh b s).x=aY ((((fc b.ops b.ops.length)).getD (b.x).toNat default)).k:=by unfold mh;dsimp only;rw [if_neg ah];exact A
   have I:(mh b s).y=aY ((((fc b.ops b.ops.length)).getD (b.y).toNat default)).k:=by unfold mh;dsimp only;rw [if_pos c.1];exact M
   have Q:=a.f;have E:symEnd (mh b s) (b.pc+b.len)=⟨s.evs,s.regs,1,[],[],if b.fin=3/\((((fc b.ops b.ops.length)).getD (b.x).toNat default)).k=((((fc b.ops b.ops.length)).getD (b.y).toNat default)).k\/b.fin=4/\((((fc b.ops b.ops.length)).getD (b.x).toNat default)).k< ((((fc b.ops b.ops.length)).getD (b.y).toNat default)).k then b.k else b.pc+b.len⟩:=by
    unfold symEnd;rw [if_neg (by rw [aI F];simp),if_neg (by show¬(b.fin=2/\_);omega),if_neg (by show¬(b.fin≠3/\b.fin≠4);omega)];rw [t,I,jf m,jf J,if_pos (Or.inr ⟨rfl,rfl⟩)];show Sym.mk s.evs s.regs 1 [] [] _=_
    congr 1
    show(if(_/\b.fin=3\/(true=true/\true=true)/\(b.fin=3/\_\/b.fin=4/\_))then b.k else _)=_;by_cases d:b.fin=3/\((((fc b.ops b.ops.length)).getD (b.x).toNat default)).k=((((fc b.ops b.ops.length)).getD (b.y).toNat default)).k\/b.fin=4/\((((fc b.ops b.ops.length)).getD (b.x).toNat default)).k< ((((fc b.ops b.ops.length)).getD (b.y).toNat default)).k
    .rw [if_pos d];exact if_pos (Or.inr ⟨⟨rfl,rfl⟩,d⟩)
    .rw [if_neg d];refine if_neg ?_;rintro(⟨L,P⟩ | ⟨_,q⟩)
     .exact d (Or.inl ⟨P,aaA m J L⟩)
     .exact d q
   rw [E];unfold symEnd mh;dsimp only;rw [if_neg (by rw [aI ⟨by rw [if_pos rfl];exact dx,by rw [if_neg ah];exact dx⟩];simp),if_neg ah,if_pos ah];rw [if_pos rfl,if_neg ah]
  .rfl
def kpS(a:List IOp)(b:List Bool):Nat->List Int×List IOp
 | 0=>([],[])
 | i+1=>((kpS a b i).1++ [((kpS a b i).2.length:Int)],if b.getD i default=true then(kpS a b i).2++ [a.getD i default]else(kpS a b i).2)
def jg(b:Blk)(a:List Bool):Blk:=Fx (kpS b.ops a b.ops.length).1 b (kpS b.ops a b.ops.length).2
def lD:List IOp->Int->Bool
 | [],_=>false
 | o::l,r=>if o.kind=4\/o.kind=5\/o.kind=2/\o.k=r then false else if o.kind=8/\o.k=r then true else lD l r
def pz(a:List IOp)(b:List Bool):∀i,(kpS a b i).1.length=i/\(kpS a b i).2.length<=i
 | 0=>⟨rfl,Nat.le_refl _⟩
 | i+1=>by
  obtain⟨c,d⟩:=pz a b i;unfold kpS;refine⟨by rw [length_append,c];rfl,?_⟩;dsimp only;split
  .rw [length_append];simp only [length_cons,length_nil];omega
  .omega
def Ib(a:List IOp)(b:List Bool){i n:Nat}(h:i<=n):(kpS a b i).2<+:(kpS a b n).2/\(kpS a b i).1<+:(kpS a b n).1:=by
 induction n with
 | zero=>rw [show i=0 by omega];exact⟨prefix_refl _,prefix_refl _⟩
 | succ n d=>
  by_cases c:i=n+1
  .subst c;exact⟨prefix_refl _,prefix_refl _⟩
  .obtain⟨h1,h2⟩:=d ah;refine⟨h1.trans ?_,h2.trans (prefix_append _ _)⟩;show _<+:if b.getD n default=true then _ else _
   split
   .exact prefix_append _ _
   .exact prefix_refl _
def PO(a:List IOp)(b:List Bool){j n:Nat}(h:j<n):(kpS a b n).1.getD j default=((kpS a b j).2.length:Int):=by
 have:=PD (d:=default) (Ib a b (show j+1<=n by omega)).2 (i:=j) (by have:=(pz a b (j+1)).1;omega);rw [show((j:Int)).toNat=j from rfl]at this;rw [this];show((kpS a b j).1++ [_]).getD j default=_;rw [fC,(pz a b j).1,if_neg ah,if_pos rfl]
def Fz(a:List IOp)(b:List Bool){j n:Nat}(h:j<n)(k:b.getD j default=true):(kpS a b j).2.length< (kpS a b n).2.length/\(kpS a b n).2.getD (kpS a b j).2.length default=a.getD j default:=by
 have e:(kpS a b (j+1)).2=(kpS a b j).2++ [a.getD j default]:=by show(if b.getD j default=true then _ else _)=_;rw [if_pos k]
 have p:=(Ib a b (show j+1<=n by omega)).1;have l:=tJ p;rw [e,length_append]at l;simp only [length_cons,length_nil]at l;refine⟨ah,?_⟩;have:=PD (d:=default) p (i:=(kpS a b j).2.length) (by rw [e,length_append];simp);rw [show((((kpS a b j).2.length:Nat):Int)).toNat=(kpS a b j).2.length from rfl]at this;rw [this,e,fC,if_neg ah,if_pos rfl]
def PU(a:List IOp)(b:List Bool):∀ {n m:Nat},m< (kpS a b n).2.length->∃j,j<n/\b.getD j default=true/\(kpS a b j).2.length=m
 | 0,m,h=>absurd h (by simp [kpS])
 | n+1,m,h=>by
  have h:m< (if b.getD n default=true then(kpS a b n).2++ [a.getD n default]else(kpS a b n).2).length:=h;by_cases c:m< (kpS a b n).2.length
  .obtain⟨j,h1,h2,h3⟩:=PU a b c;exact⟨j,ah,h2,h3⟩
  .split at h
   .rename_i k;rw [length_append]at h;simp only [length_cons,length_nil]at h;exact⟨n,ah,k,ah⟩
   .omega
structure KP(b:Blk)(kp:List Bool):Prop where
 x:∀i:Int,0<=i->i<b.ops.length->((kp).getD (i).toNat default)=true->hX ((b.ops).getD (i).toNat default)->((kp).getD ((((b.ops).getD (i).toNat default)).x).toNat default)=true
 y:∀i:Int,0<=i->i<b.ops.length->((kp).getD (i).toNat default)=true->hY ((b.ops).getD (i).toNat default)->((kp).getD ((((b.ops).getD (i).toNat default)).y).toNat default)=true
 ex:b.fin≠1->((kp).getD (b.x).toNat default)=true
 ey:3<=b.fin->((kp).getD (b.y).toNat default)=true
 no:∀i:Int,0<=i->i<b.ops.length->((kp).getD (i).toNat default)=false->(((b.ops).getD (i).toNat default)).kind<=3\/(((b.ops).getD (i).toNat default)).kind=8/\lD (b.ops.drop (i.toNat+1)) (((b.ops).getD (i).toNat default)).k=true
structure KI(b:Blk)(kp:List Bool)(i:Nat)(s s':SS):Prop where
 t:s'.t=s.t
 ld:s'.ld=s.ld
 inn:s'.inn=s.inn
 evs:s'.evs=s.evs
 vl:s'.vals.length=(kpS b.ops kp i).2.length
 v:∀j:Nat,j<i->kp.getD j default=true->s'.vals.getD (kpS b.ops kp j).2.length default=s.vals.getD j default
 r4:s'.regs.length=4/\s.regs.length=4
 rg:∀r:Int,0<=r->r<=3->lD (b.ops.drop i) r=false->((s'.regs).getD (r).toNat default)=((s.regs).getD (r).toNat default)
def axC{a b:List (List au)}(h:a.length=4/\b.length=4)(g:∀r:Int,0<=r->r<=3->((a).getD (r).toNat default)=((b).getD (r).toNat default)):a=b:=by
 refine kV (d:=default) ah λj c e=> ?_
 exact g j c ah
def aaB{z:SS}{o:IOp}(h:z.regs.length=4):(nR z o).length=4:=by
 unfold nR;split
 .rw [length_set];exact h
 .exact h
def SY(L:bQ b)(H:KP b d)(u:List Atom)(G:∀i,i<=b.ops.length->((b.ops.take i).foldl stp (s0 u)).t=u)(F:(s0 u).regs.length=4):∀i:Nat,i<=b.ops.length->
  KI b d i ((b.ops.take i).foldl stp (s0 u)) (((kpS b.ops d i).2.map (ren (kpS b.ops d b.ops.length).1)).foldl stp (s0 u))
 | 0,_=>⟨rfl,rfl,rfl,rfl,rfl,λj h=>absurd h ah,⟨F,F⟩,λ_ _ _ _=>rfl⟩
 | i+1,hi=>by
  have f:=SY L H u G F i ah;have q:i<b.ops.length:=hi;have l:=L.op i ah ah;have u0:=G i ah;have u1:=G (i+1) hi;have O:b.ops.getD i default=b.ops[i]:=getD_lt q;have I:=AO (b.ops.take i) (s0 u);rw [length_take,Nat.min_eq_left ah,show(s0 u).vals.length=0 from rfl,Nat.zero_add]at I;have P:=H.x i ah ah;have N:=H.y i ah ah;have hn:=H.no i ah ah;rw [oZ _ _ q]at u1 ⊢;rw [show(i:Int).toNat=i from rfl,O]at l P N hn;have T:b.ops.drop i=b.ops[i]::b.ops.drop (i+1):=drop_eq_getElem_cons q;have w:∀r,lD (b.ops.drop i) r=if b.ops[i].kind=4\/b.ops[i].kind=5\/b.ops[i].kind=2/\b.ops[i].k=r then false else if b.ops[i].kind=8/\b.ops[i].k=r then true else lD (b.ops.drop (i+1)) r:=λr=>by rw [T];rfl
  have E:(kpS b.ops d (i+1)).2=if d.getD i default=true then(kpS b.ops d i).2++ [b.ops[i]]else(kpS b.ops d i).2:=by rw [<-O];rfl
  rw [E];generalize (b.ops.take i).foldl stp (s0 u)=s at f u0 u1 I ⊢;generalize b.ops[i]=o at*;have J:(o.kind=8->d.getD i default=false)->∀r:Int,0<=r->r<=3->lD (b.ops.drop (i+1)) r=false->∀a:SS,KI b d i s a->((a.regs).getD (r).toNat default)=(((nR s o)).getD (r).toNat default):=λD r m n p a k=>by
   unfold nR;by_cases c:o.kind=8
   .rw [if_pos c];have hk:=l.k2 (Or.inr c);have:=hn (D c);have M:=(this.resolve_left ah).2;rw [rG m hk.1 (by have:=k.r4.2;omega)];by_cases g:r=o.k
    .rw [<-g,p]at M;cases M
    .rw [if_neg g];refine k.rg r m n ?_;rw [w,if_neg ah,if_neg ah];exact p
   .rw [if_neg c];refine k.rg r m n ?_;rw [w];split
    .rfl
    .rw [if_neg ah];exact p
  by_cases v:d.getD i default=true
  .rw [if_pos v,map_append,foldl_append];generalize ((kpS b.ops d i).2.map (ren (kpS b.ops d b.ops.length).1)).foldl stp (s0 u)=a at f ⊢;show KI b d (i+1) (stp s o) (stp a (ren _ o));have vx:∀x:Int,Vl b.ops x i->((d).getD (x).toNat default)=true->((a.vals).getD ((((kpS b.ops d b.ops.length).1).getD (x).toNat default)).toNat default)=((s.vals).getD (x).toNat default):=λx B t=>by
    have V:=B.1;have W:=B.2.1;rw [PO b.ops d (show x.toNat<b.ops.length by omega),show((((kpS b.ops d x.toNat).2.length:Nat):Int)).toNat=(kpS b.ops d x.toNat).2.length from rfl];exact f.v x.toNat ah t
   have y:((d).getD ((i:Int)).toNat default)=true:=v;have A:xOf a (ren (kpS b.ops d b.ops.length).1 o)=xOf s o:=by
    unfold xOf;by_cases c:hX o
    .rw [if_pos (show hX (ren _ o)from c),if_pos c];show((a.vals).getD ((if hX o then(((kpS b.ops d b.ops.length).1).getD (o.x).toNat default)else o.x)).toNat default)=_;rw [if_pos c];exact vx _ (l.x1 c) (P y c)
    .rw [if_neg (show¬hX (ren _ o)from c),if_neg c]
   have K:yOf a (ren (kpS b.ops d b.ops.length).1 o)=yOf s o:=by
    unfold yOf;by_cases c:hY o
    .rw [if_pos (show hY (ren _ o)from c),if_pos c];show((a.vals).getD ((if hY o then(((kpS b.ops d b.ops.length).1).getD (o.y).toNat default)else o.y)).toNat default)=_;rw [if_pos c];exact vx _ (l.y1 c) (N y c)
    .rw [if_neg (show¬hY (ren _ o)from c),if_neg c]
   have Q:aOf a (ren (kpS b.ops d b.ops.length).1 o)=aOf s o:=by
    unfold aOf;rw [f.ld,f.inn];rfl
   have eT:nT a (ren (kpS b.ops d b.ops.length).1 o)=nT s o:=by
    unfold nT;rw [A,K,Q,f.t];rfl
   have R:nV a (ren (kpS b.ops d b.ops.length).1 o)=nV s o:=by
    unfold nV;rw [A,K,Q,f.t];show(if o.kind=1 then _ else if o.kind=2 then((a.regs).getD (o.k).toNat default)else _)=_;by_cases C:o.kind=1
    .rw [if_pos C,if_pos C];rfl
    .rw [if_neg C,if_neg C];by_cases g:o.kind=2
     .have hk:=l.k2 (Or.inl g);rw [if_pos g,if_pos g];exact f.rg o.k hk.1 hk.2 (by rw [w,if_pos (Or.inr (Or.inr ⟨g,rfl⟩))])
     .rw [if_neg g,if_neg g];rfl
   have S:nE a (ren (kpS b.ops d b.ops.length).1 o)=nE s o:=by
    unfold nE;rw [A,K,f.evs];show(if evO o then _++ [(⟨o.kind,o.at_,_,_,if o.kind=4\/o.kind=5 then a.regs else []⟩:Ev)]else _)=_;by_cases c:o.kind=4\/o.kind=5
    .have e:a.regs=s.regs:=axC f.r4 λr m n=>f.rg r m n (by rw [w,if_pos ah])
     rw [e]
    .rw [if_neg c,if_neg c]
   refine⟨by rw [show(stp a (ren (kpS b.ops d b.ops.length).1 o)).t=_ from eT];rfl,?_,?_,S,?_,λj B t=> ?_,?_,λr m n p=> ?_⟩
   .show(if o.kind=4 then a.ld+1 else a.ld)=if o.kind=4 then s.ld+1 else s.ld
    rw [f.ld]
   .show(if o.kind=6 then a.inn+1 else a.inn)=if o.kind=6 then s.inn+1 else s.inn
    rw [f.inn]
   .show(a.vals++ [_]).length=_;rw [E,if_pos v,length_append,length_append,f.vl];rfl
   .show(a.vals++ [nV a _]).getD _ default=(s.vals++ [nV s o]).getD j default;rw [R,fC,fC,f.vl,I];by_cases c:j<i
    .have:=(Fz b.ops d c t).1;rw [if_pos this,if_pos c];exact f.v j c t
    .have e:j=i:=by omega
     subst e;rw [if_neg ah,if_pos rfl,if_neg ah,if_pos rfl]
   .exact⟨aaB f.r4.1,aaB f.r4.2⟩
   .show(((nR a (ren _ o))).getD (r).toNat default)=(((nR s o)).getD (r).toNat default);unfold nR;rw [A];show(((if o.kind=8 then a.regs.set o.k.toNat (xOf s o)else a.regs)).getD (r).toNat default)=_;by_cases c:o.kind=8
    .have hk:=l.k2 (Or.inr c);rw [if_pos c,if_pos c,rG m hk.1 (by have:=f.r4.1;omega),rG m hk.1 (by have:=f.r4.2;omega)];by_cases g:r=o.k
     .rw [if_pos g,if_pos g]
     .rw [if_neg g,if_neg g];refine f.rg r m n ?_;rw [w,if_neg ah,if_neg ah];exact p
    .rw [if_neg c,if_neg c];refine f.rg r m n ?_;rw [w];split
     .rfl
     .rw [if_neg ah];exact p
  .rw [if_neg v];generalize ((kpS b.ops d i).2.map (ren (kpS b.ops d b.ops.length).1)).foldl stp (s0 u)=a at f ⊢;have z:d.getD i default=false:=by simpa using v
   have U:=hn z;refine⟨by rw [f.t,u0,u1],?_,?_,?_,?_,λj B t=> ?_,⟨f.r4.1,?_⟩,λr m n p=>J (λ_=>z) r m n p a f⟩
   .show a.ld=if o.kind=4 then s.ld+1 else s.ld
    rw [if_neg ah,f.ld]
   .show a.inn=if o.kind=6 then s.inn+1 else s.inn
    rw [if_neg ah,f.inn]
   .show a.evs=nE s o;unfold nE;rw [if_neg (by unfold evO;omega),f.evs]
   .rw [f.vl,E,if_neg v]
   .show _=(s.vals++ [nV s o]).getD j default;by_cases c:j<i
    .rw [fC,if_pos ah];exact f.v j c t
    .have e:j=i:=by omega
     subst e;exact absurd t v
   .exact aaB f.r4.2
def aeg{u:List Atom}(a:bQ b)(c:aM u)(h:u.length<=100)(g:(bH u b).1=u):∀i,i<=b.ops.length->((b.ops.take i).foldl stp (s0 u)).t=u:=λi n=>by
 have m:=a.sz;have j:=BA c ah;have hk:=a.k3;have lt:(b.ops.take i).length=i:=by rw [length_take];omega
 obtain⟨k,l⟩:=wE (b.ops.take i) 0 (s0 u) j (λo d=>hk o (mem_of_mem_take d)) ah ah;obtain⟨_,f⟩:=wE (b.ops.drop i) _ _ k (λo d=>hk o (mem_of_mem_drop d)) (by rw [length_drop];omega) (by rw [length_drop];omega);rw [<-foldl_append,take_append_drop]at f;have e:(b.ops.foldl stp (s0 u)).t=u:=by rw [mq c h a]at g;exact g
 rw [e]at f;have p:=(DY c ah 4 ah).pre.trans l;exact(p.eq_of_length (Nat.le_antisymm (tJ p) (tJ f))).symm
def PW(f:IOp->IOp){l:List IOp}{m:Nat}(h:m<l.length):(l.map f).getD m default=f (l.getD m default):=by
 rw [getD_lt (by rw [length_map];exact h),getD_lt h,getElem_map]
def ana(g:bQ b)(H:KP b d):bQ (jg b d):=by
 have le:=(pz b.ops d b.ops.length).2;have y:=g.sz;have l:∀ {x:Int} {j:Nat},Vl b.ops x j->j<=b.ops.length->((d).getD (x).toNat default)=true->Vl ((kpS b.ops d b.ops.length).2.map (ren (kpS b.ops d b.ops.length).1)) (((kpS b.ops d b.ops.length).1).getD (x).toNat default) ((kpS b.ops d j).2.length:Int):=λ{x j} h A k=>by
  have v:=h.1;have z:=h.2.1;have a:=Fz b.ops d (show x.toNat<j by omega) k;have r:=Fz b.ops d (show x.toNat<b.ops.length by omega) k;rw [PO b.ops d (show x.toNat<b.ops.length by omega)];refine⟨ah,ah,?_⟩;rw [show((((kpS b.ops d x.toNat).2.length:Nat):Int)).toNat=(kpS b.ops d x.toNat).2.length from rfl,PW _ r.1,r.2];exact h.2.2
 have f:=g.en;refine⟨g.ln,g.pc,?_,λi w m=> ?_,?_⟩
 .show((kpS b.ops d b.ops.length).2.map _).length<=48;rw [length_map];omega
 .show oW ((kpS b.ops d b.ops.length).2.map _) b.len i (((kpS b.ops d b.ops.length).2.map _).getD i.toNat default);have m:i< ((kpS b.ops d b.ops.length).2.map (ren (kpS b.ops d b.ops.length).1)).length:=m;rw [length_map]at m;obtain⟨j,s,q,t⟩:=PU b.ops d (show i.toNat< (kpS b.ops d b.ops.length).2.length by omega);have a:=Fz b.ops d s q;rw [t]at a;rw [PW _ a.1,a.2];have e:=g.op j ah ah;have p:=H.x j ah ah q;have n:=H.y j ah ah q;rw [show(j:Int).toNat=j from rfl]at e p n;generalize b.ops.getD j default=o at e p n;have u:i=((kpS b.ops d j).2.length:Int):=by omega
  rw [u];refine⟨e.kd,λc=> ?_,λc=> ?_,λc=> ?_,λc=> ?_,e.k1,e.k2,e.k3,e.k0,e.a1,e.a0⟩
  .have c:hX o:=c;show Vl _ (if hX o then _ else _) _;rw [if_pos c];exact l (e.x1 c) ah (p c)
  .have c:¬hX o:=c;show(if hX o then _ else _)=_;rw [if_neg c];exact e.x0 c
  .have c:hY o:=c;show Vl _ (if hY o then _ else _) _;rw [if_pos c];exact l (e.y1 c) ah (n c)
  .have c:¬hY o:=c;show(if hY o then _ else _)=_;rw [if_neg c];exact e.y0 c
 .have ln:(((jg b d).ops.length:Nat):Int)=((kpS b.ops d b.ops.length).2.length:Int):=by show(((kpS b.ops d b.ops.length).2.map _).length:Int)=_;rw [length_map]
  refine⟨f.f,λh=> ?_,λh=> ?_,λh=> ?_,λh=> ?_,f.k1,f.k0⟩
  .have h:b.fin≠1:=h;rw [ln];show Vl _ (if b.fin=1 then _ else _) _;rw [if_neg h];exact l (f.x1 h) (Nat.le_refl _) (H.ex h)
  .have h:b.fin=1:=h;show(if b.fin=1 then _ else _)=_;rw [if_pos h];exact f.x0 h
  .have h:3<=b.fin:=h;rw [ln];show Vl _ (if 3<=b.fin then _ else _) _;rw [if_pos h];exact l (f.y1 h) (Nat.le_refl _) (H.ey h)
  .have h:b.fin<=2:=h;show(if 3<=b.fin then _ else _)=_;rw [if_neg ah];exact f.y0 h
def acO(d:bQ b){a:List Bool}(H:KP b a):Lk b (jg b a):=by
 have ok:=ana d H;refine⟨d,ok,rfl,rfl,λu e f n=> ?_⟩;have o:=BA e ah;have K:=SY d H u (aeg d e f n) o.r4 b.ops.length (Nat.le_refl _);rw [take_length]at K;have K:KI b a b.ops.length (dH u b) (dH u (jg b a)):=K;rw [mq e f d,mq e f ok];have l:(dH u (jg b a)).regs=(dH u b).regs:=axC K.r4 λr j p=>by have:=K.rg r j p;rw [drop_length]at this;exact this rfl
 have m:mh (jg b a) (dH u (jg b a))=mh b (dH u b):=by
  have h:=d.en;have i:∀x:Int,Vl b.ops x b.ops.length->((a).getD (x).toNat default)=true->(((dH u (jg b a)).vals).getD ((((kpS b.ops a b.ops.length).1).getD (x).toNat default)).toNat default)=(((dH u b).vals).getD (x).toNat default):=λx g k=>by
   have q:=g.1;have s:=g.2.1;rw [PO b.ops a (show x.toNat<b.ops.length by omega),show((((kpS b.ops a x.toNat).2.length:Nat):Int)).toNat=(kpS b.ops a x.toNat).2.length from rfl];exact K.v x.toNat ah k
  unfold mh;show Sym.mk (dH u (jg b a)).evs (dH u (jg b a)).regs b.fin (if b.fin=1 then []else(((dH u (jg b a)).vals).getD ((if b.fin=1 then b.x else(((kpS b.ops a b.ops.length).1).getD (b.x).toNat default))).toNat default)) (if 3<=b.fin then(((dH u (jg b a)).vals).getD ((if 3<=b.fin then(((kpS b.ops a b.ops.length).1).getD (b.y).toNat default)else b.y)).toNat default)else []) b.k=_;rw [K.evs,l]
  congr 1
  .by_cases c:b.fin=1
   .rw [if_pos c,if_pos c]
   .rw [if_neg c,if_neg c,if_neg c];exact i _ (h.x1 c) (H.ex c)
  .by_cases c:3<=b.fin
   .rw [if_pos c,if_pos c,if_pos c];exact i _ (h.y1 c) (H.ey c)
   .rw [if_neg c,if_neg c]
 rw [m,K.t];rfl
def fD(a:List IOp):List Bool:=(range a.length).map λi=> !(decide ((a.getD i default).kind=8)&&lD (a.drop (i+1)) (a.getD i default).k)
noncomputable def jA (b:Blk):Blk:=if bp (bQ b)=true then jg b (fD b.ops)else PN
def AP{a:List IOp}{i:Nat}(h:i<a.length):(fD a).getD i default= !(decide ((a.getD i default).kind=8)&&lD (a.drop (i+1)) (a.getD i default).k):=by
 unfold fD;rw [getD_lt (by rw [length_map,length_range];exact h),getElem_map,getElem_range]
def aeh(f:bQ b):KP b (fD b.ops):=by
 have v:∀ {x n:Int},Vl b.ops x n->n<=b.ops.length->(((fD b.ops)).getD (x).toNat default)=true:=λ{x n} h hn=>by
  have l:=h.1;have k:=h.2.1;have g:=h.2.2;rw [AP ah,decide_eq_false (show¬(b.ops.getD x.toNat default).kind=8 from λe=>by unfold mkV at g;omega)];rfl
 have j:=f.en;refine⟨λi d a _ c=>v ((f.op i d a).x1 c) ah,λi d a _ c=>v ((f.op i d a).y1 c) ah,λc=>v (j.x1 c) (Int.le_refl _),λc=>v (j.y1 c) (Int.le_refl _),λi d a c=>Or.inr ?_⟩;rw [AP ah,Bool.not_eq_false',Bool.and_eq_true,decide_eq_true_eq]at c;exact c
def aaC(a:bQ b):Lk b (jA b):=by
 unfold jA;rw [if_pos (aI a)];exact acO a (aeh a)
def us0(b:Blk):List Bool:=(λm:List Bool=>if 3<=b.fin then m.set b.y.toNat true else m) (if b.fin=1 then replicate b.ops.length false else(replicate b.ops.length false).set b.x.toNat true)
def usO(o:IOp)(i:Nat)(m:List Bool):List Bool:=
 if(m.getD i default || decide (4<=o.kind))=true then(λm:List Bool=>if hY o then m.set o.y.toNat true else m) ((λm:List Bool=>if hX o then m.set o.x.toNat true else m) (m.set i true))else m
def us(b:Blk):Nat->List Bool
 | 0=>us0 b
 | k+1=>usO (b.ops.getD (b.ops.length-1-k) default) (b.ops.length-1-k) (us b k)
noncomputable def Ic (b:Blk):List Bool:=if bp (bQ b)=true then us b b.ops.length else []
noncomputable def gU (b:Blk):Blk:=if bp (bQ b)=true then jg b (us b b.ops.length)else PN
def anb(o:IOp)(i:Nat)(m:List Bool):(usO o i m).length=m.length:=by
 unfold usO;dsimp only;repeat' split
 all_goals simp only [length_set]
def ane(b:Blk):(us0 b).length=b.ops.length:=by
 unfold us0;dsimp only;repeat' split
 all_goals simp only [length_set,length_replicate]
theorem zq(b:Blk):∀k,(us b k).length=b.ops.length
 | 0=>ane b
 | k+1=>by unfold us;rw [anb,zq b k]
def AQ{i:Nat}{j:Int}(h:j.toNat<m.length):(m.set j.toNat true).getD i default=(m.getD i default || decide (i=j.toNat)):=by
 by_cases c:i=j.toNat
 .subst c;rw [getD_lt (by rw [length_set];exact h),getElem_set_self,decide_eq_true rfl,Bool.or_true]
 .rw [decide_eq_false c,Bool.or_false];simp only [getD,getElem?_set_ne (Ne.symm c)]
def PX{o:IOp}{i t:Nat}(l:i<m.length)(n:hX o->o.x.toNat<m.length)(g:hY o->o.y.toNat<m.length):(usO o i m).getD t default=true↔m.getD t default=true\/(m.getD i default=true\/4<=o.kind)/\(t=i\/hX o/\t=o.x.toNat\/hY o/\t=o.y.toNat):=by
 unfold usO;dsimp only;by_cases c:(m.getD i default || decide (4<=o.kind))=true
 .rw [if_pos c];rw [Bool.or_eq_true,decide_eq_true_eq]at c;have e:∀t:Nat,(m.set i true).getD t default=true↔m.getD t default=true\/t=i:=λt=>by
   have:=AQ (m:=m) (i:=t) (j:=(i:Int)) l;rw [show((i:Int)).toNat=i from rfl]at this;rw [this,Bool.or_eq_true,decide_eq_true_eq]
  have f:∀t:Nat,((if hX o then(m.set i true).set o.x.toNat true else m.set i true).getD t default=true)↔(m.getD t default=true\/t=i)\/hX o/\t=o.x.toNat:=λt=>by
   by_cases d:hX o
   .rw [if_pos d,AQ (by rw [length_set];exact n d),Bool.or_eq_true,decide_eq_true_eq,e];exact⟨λh=>h.elim Or.inl (λh=>Or.inr ⟨d,h⟩),λh=>h.elim Or.inl (λh=>Or.inr h.2)⟩
   .rw [if_neg d,e];exact⟨Or.inl,λh=>h.elim id (λh=>absurd h.1 d)⟩
  have k:(if hX o then(m.set i true).set o.x.toNat true else m.set i true).length=m.length:=by split<;>simp only [length_set]
  by_cases d:hY o
  .rw [if_pos d,AQ (by rw [k];exact g d),Bool.or_eq_true,decide_eq_true_eq,f];have b:=eq_true c;have a:=eq_true d;generalize hY o=Y at a ⊢;generalize hX o=Z;rw [b,a];grind
  .rw [if_neg d,f];have b:=eq_true c;have a:=eq_false d;generalize hY o=Y at a ⊢;generalize hX o=Z;rw [b,a];grind
 .rw [if_neg c];rw [Bool.or_eq_true,decide_eq_true_eq]at c;simp only [c,false_and,or_false]
def aaD{t:Nat}{j:Int}(h:j.toNat<m.length):(m.set j.toNat true).getD t default=true↔m.getD t default=true\/t=j.toNat:=by rw [AQ h,Bool.or_eq_true,decide_eq_true_eq]
structure UI(b:Blk)(p:Nat)(m:List Bool):Prop where
 k:∀i:Nat,p<=i->i<b.ops.length->4<=(b.ops.getD i default).kind->m.getD i default=true
 x:∀i:Nat,p<=i->i<b.ops.length->m.getD i default=true->hX (b.ops.getD i default)->((m).getD ((b.ops.getD i default).x).toNat default)=true
 y:∀i:Nat,p<=i->i<b.ops.length->m.getD i default=true->hY (b.ops.getD i default)->((m).getD ((b.ops.getD i default).y).toNat default)=true
 ex:b.fin≠1->((m).getD (b.x).toNat default)=true
 ey:3<=b.fin->((m).getD (b.y).toNat default)=true
 wh:∀t:Nat,t<b.ops.length->m.getD t default=true->4<=(b.ops.getD t default).kind\/b.fin≠1/\t=b.x.toNat\/3<=b.fin/\t=b.y.toNat\/∃j:Nat,p<=j/\j<b.ops.length/\t<j/\m.getD j default=true/\(hX (b.ops.getD j default)/\t=(b.ops.getD j default).x.toNat\/hY (b.ops.getD j default)/\t=(b.ops.getD j default).y.toNat)
def acP(k:bQ b)(t:Nat):(us0 b).getD t default=true↔b.fin≠1/\t=b.x.toNat\/3<=b.fin/\t=b.y.toNat:=by
 have e:=k.en;have j:=e.x1;have h:=e.y1;unfold us0;dsimp only;have r:∀t,(replicate b.ops.length false).getD t default=false:=λt=>by
  by_cases c:t<b.ops.length
  .rw [getD_lt (by rw [length_replicate];exact c),getElem_replicate]
  .rw [getD_eq_getElem?_getD,getElem?_eq_none (by rw [length_replicate];omega)];rfl
 have a:∀t:Nat,((if b.fin=1 then replicate b.ops.length false else(replicate b.ops.length false).set b.x.toNat true).getD t default=true)↔b.fin≠1/\t=b.x.toNat:=λt=>by
  by_cases d:b.fin=1
  .rw [if_pos d,r];simp [d]
  .have:=j d;have i:=this.1;have f:=this.2.1;rw [if_neg d,AQ (by rw [length_replicate];omega),r];simp [d]
 have g:(if b.fin=1 then replicate b.ops.length false else(replicate b.ops.length false).set b.x.toNat true).length=b.ops.length:=by split<;>simp only [length_set,length_replicate]
 by_cases d:3<=b.fin
 .have:=h d;have i:=this.1;have f:=this.2.1;rw [if_pos d,AQ (by rw [g];omega),Bool.or_eq_true,decide_eq_true_eq,a];simp only [d,true_and]
 .rw [if_neg d,a];simp only [d,false_and,or_false]
def aoq(u:bQ b):∀k,k<=b.ops.length->UI b (b.ops.length-k) (us b k)
 | 0,_=>by
  have e:=acP u;exact⟨λi a d=>absurd d ah,λi a d=>absurd d ah,λi a d=>absurd d ah,λc=>(e _).2 (Or.inl ⟨c,rfl⟩),λc=>(e _).2 (Or.inr ⟨c,rfl⟩),λt _ h=>((e t).1 h).elim (λh=>Or.inr (Or.inl h)) (λh=>Or.inr (Or.inr (Or.inl h)))⟩
 | k+1,hk=>by
  have l:=aoq u k ah;have E:=zq b k;have s:=u.op ((b.ops.length-1-k:Nat):Int) ah ah;rw [show(((b.ops.length-1-k:Nat):Int)).toNat=b.ops.length-1-k from rfl]at s;generalize D:b.ops.length-1-k=p at s;have z:b.ops.length-k=p+1:=by omega
  rw [z]at l;rw [show b.ops.length- (k+1)=p by omega];have v:p<b.ops.length:=by omega
  show UI b p (usO (b.ops.getD (b.ops.length-1-k) default) (b.ops.length-1-k) (us b k));rw [D];have X:hX (b.ops.getD p default)->(b.ops.getD p default).x.toNat<p:=λc=>by have:=s.x1 c;have C:=this.1;have n:=this.2.1;omega
  have Y:hY (b.ops.getD p default)->(b.ops.getD p default).y.toNat<p:=λc=>by have:=s.y1 c;have C:=this.1;have n:=this.2.1;omega
  generalize us b k=m at l E;have e:∀t:Nat,_↔_:=λt=>PX (o:=b.ops.getD p default) (i:=p) (t:=t) (m:=m) ah (λc=>by have:=X c;omega) (λc=>by have:=Y c;omega)
  have w:∀t:Nat,p<t->((usO (b.ops.getD p default) p m).getD t default=true↔m.getD t default=true):=λt h=>by
   rw [e];constructor
   .rintro(a | ⟨_,a | ⟨a,d⟩ | ⟨a,d⟩⟩)
    .exact a
    .omega
    .have:=X a;omega
    .have:=Y a;omega
   .exact Or.inl
  have mono:∀t:Nat,m.getD t default=true->(usO (b.ops.getD p default) p m).getD t default=true:=λt h=>(e t).2 (Or.inl h)
  have r:(usO (b.ops.getD p default) p m).getD p default=true↔m.getD p default=true\/4<=(b.ops.getD p default).kind:=by
   rw [e];constructor
   .rintro(a | ⟨a,_⟩)
    .exact Or.inl a
    .exact a
   .intro h;exact Or.inr ⟨h,Or.inl rfl⟩
  refine⟨λi a d f=> ?_,λi a d f q=> ?_,λi a d f q=> ?_,λc=>mono _ (l.ex c),λc=>mono _ (l.ey c),λt a d=> ?_⟩
  .by_cases c:i=p
   .subst c;exact r.2 (Or.inr f)
   .exact mono _ (l.k i ah d f)
  .by_cases c:i=p
   .subst c;exact(e _).2 (Or.inr ⟨r.1 f,Or.inr (Or.inl ⟨q,rfl⟩)⟩)
   .exact mono _ (l.x i ah d ((w i ah).1 f) q)
  .by_cases c:i=p
   .subst c;exact(e _).2 (Or.inr ⟨r.1 f,Or.inr (Or.inr ⟨q,rfl⟩)⟩)
   .exact mono _ (l.y i ah d ((w i ah).1 f) q)
  .have old:m.getD t default=true->_:=λh=>l.wh t a h
   have x:m.getD t default=true->4<=(b.ops.getD t default).kind\/b.fin≠1/\t=b.x.toNat\/3<=b.fin/\t=b.y.toNat\/∃j:Nat,p<=j/\j<b.ops.length/\t<j/\(usO (b.ops.getD p default) p m).getD j default=true/\(hX (b.ops.getD j default)/\t=(b.ops.getD j default).x.toNat\/hY (b.ops.getD j default)/\t=(b.ops.getD j default).y.toNat):=λh=>by
    rcases old h with h | h | h | ⟨j,G,F,A,B,y⟩
    .exact Or.inl h
    .exact Or.inr (Or.inl h)
    .exact Or.inr (Or.inr (Or.inl h))
    .exact Or.inr (Or.inr (Or.inr ⟨j,ah,F,A,mono _ B,y⟩))
   rcases(e t).1 d with h | ⟨h,g⟩
   .exact x h
   .rcases g with g | ⟨n,g2⟩ | ⟨n,g2⟩
    .subst g;rcases h with h | h
     .exact x h
     .exact Or.inl h
    .exact Or.inr (Or.inr (Or.inr ⟨p,Nat.le_refl _,v,by have:=X n;omega,r.2 h,Or.inl ⟨n,g2⟩⟩))
    .exact Or.inr (Or.inr (Or.inr ⟨p,Nat.le_refl _,v,by have:=Y n;omega,r.2 h,Or.inr ⟨n,g2⟩⟩))
def axD(a:bQ b):UI b 0 (us b b.ops.length):=by
 have:=aoq a b.ops.length (Nat.le_refl _);rw [Nat.sub_self]at this;exact this
def axE(f:bQ b):KP b (us b b.ops.length):=by
 have h:=axD f;refine⟨λi e d a c=>h.x i.toNat (Nat.zero_le _) ah a c,λi e d a c=>h.y i.toNat (Nat.zero_le _) ah a c,h.ex,h.ey,λi e d c=>Or.inl ?_⟩;by_cases g:(((b.ops).getD (i).toNat default)).kind<=3
 .exact g
 .have:=h.k i.toNat (Nat.zero_le _) ah ah;rw [c]at this;cases this
def J9(a:bQ b):Lk b (gU b):=by
 unfold gU;rw [if_pos (aI a)];exact acO a (axE a)
def aiQ(b:Blk)(a:List Bool):(jg b a).ops.length=(kpS b.ops a b.ops.length).2.length:=length_map _
theorem Ka(o:IOp)(l:List IOp)(r:Int):lD (o::l) r=if o.kind=4\/o.kind=5\/o.kind=2/\o.k=r then false else if o.kind=8/\o.k=r then true else lD l r:=rfl
def S9(a:bQ b):jA b=jg b (fD b.ops):=by unfold jA;rw [if_pos (aI a)]
def Ta(a:bQ b):gU b=jg b (us b b.ops.length):=by unfold gU;rw [if_pos (aI a)]
def Tc(b:Blk)(a:List Bool):(jg b a).ops.length<=b.ops.length:=by rw [aiQ];exact(pz b.ops a b.ops.length).2
def CK(b:Blk):(jA b).ops.length<=b.ops.length:=by
 unfold jA;split
 .exact Tc _ _
 .exact Nat.zero_le _
def wF(b:Blk):(gU b).ops.length<=b.ops.length:=by
 unfold gU;split
 .exact Tc _ _
 .exact Nat.zero_le _
def anf(b:Blk)(f:List IOp):(fcB b f).ops=f:=by
 unfold fcB;split; · rfl
 split<;>rfl
def zu(b:Blk):(dA b).ops.length<=b.ops.length:=by
 unfold dA;split
 .rw [anf,mD];exact Nat.le_refl _
 .exact Nat.zero_le _
def wG(b:Blk):(bK b).ops.length<=b.ops.length:=by
 unfold bK;split
 .exact Nat.le_of_eq (length_map _)
 .exact Nat.zero_le _
noncomputable def o7 (b:Blk):Blk:=gU (jA (gU (dA (bK b))))
def AU(b:Blk):(o7 b).ops.length<=b.ops.length:=Nat.le_trans (wF _) (Nat.le_trans (CK _) (Nat.le_trans (wF _) (Nat.le_trans (zu _) (wG _))))
def aei(f:bQ b):Lk b (o7 b):=by
 have d:=(aaz f).1;have a:=(SX d.oc).1;have e:=J9 a.oc;have c:=aaC e.oc;exact d.trans (a.trans (e.trans (c.trans (J9 c.oc))))
def D5(a:bQ b):dA b=fcB b (fc b.ops b.ops.length):=by unfold dA;rw [if_pos (aI a)]
def Td(a:bQ b):bK b=Fx (cpS b.ops b.ops.length).1 b b.ops:=by unfold bK;rw [if_pos (aI a)]
end Go.TX.F
namespace Go.TX.F
open Go Go.AE Go.TX List
def RB:(∀o:IOp,cO .iop 0 o=o.kind)/\(∀o:IOp,cO .iop 1 o=o.x)/\(∀o:IOp,cO .iop 2 o=o.y)/\(∀o:IOp,cO .iop 3 o=o.k)/\(∀o:IOp,cO .iop 4 o=o.at_)/\
  (∀b:Blk,cO .blk 0 b=b.pc)/\(∀b:Blk,cO .blk 1 b=b.len)/\(∀b:Blk,jQ .blk 2 .iop b=b.ops)/\(∀b:Blk,cO .blk 3 b=b.fin)/\(∀b:Blk,cO .blk 4 b=b.x)/\(∀b:Blk,cO .blk 5 b=b.y)/\(∀b:Blk,cO .blk 6 b=b.k)/\
  (∀x,Co.mk .iop x=⟨x.1,x.2.1,x.2.2.1,x.2.2.2.1,x.2.2.2.2.1⟩)/\(∀x,Co.mk .blk x=⟨x.1,x.2.1,x.2.2.1,x.2.2.2.1,x.2.2.2.2.1,x.2.2.2.2.2.1,x.2.2.2.2.2.2.1⟩)/\
  (∀i:Ins,cO .ins 0 i=i.op)/\(∀i:Ins,cO .ins 1 i=i.d)/\(∀i:Ins,cO .ins 2 i=i.a)/\(∀i:Ins,cO .ins 3 i=i.k)/\(∀x,Co.mk .ins x=⟨x.1,x.2.1,x.2.2.1,x.2.2.2.1⟩)/\
  (∀e:Ev,cO .ev 0 e=e.kind)/\(∀e:Ev,cO .ev 1 e=e.at_)/\(∀e:Ev,jQ .ev 2 .mono e=e.x)/\(∀e:Ev,jQ .ev 3 .mono e=e.y)/\(∀e:Ev,jQ .ev 4 .poly e=e.regs)/\(∀x,Co.mk .ev x=⟨x.1,x.2.1,x.2.2.1,x.2.2.2.1,x.2.2.2.2.1⟩)/\
  (∀s:Sym,jQ .sym 0 .ev s=s.events)/\(∀s:Sym,jQ .sym 1 .poly s=s.regs)/\(∀s:Sym,cO .sym 2 s=s.fin)/\(∀s:Sym,jQ .sym 3 .mono s=s.x)/\(∀s:Sym,jQ .sym 4 .mono s=s.y)/\(∀s:Sym,cO .sym 5 s=s.k)/\
  (∀x,Co.mk .sym x=⟨x.1,x.2.1,x.2.2.1,x.2.2.2.1,x.2.2.2.2.1,x.2.2.2.2.2.1⟩)/\(∀x,Co.mk .bool x=x.1)/\(∀x:Bool,LM .bool 0 x=x):=
 ⟨λ_=>rfl,λ_=>rfl,λ_=>rfl,λ_=>rfl,λ_=>rfl,λ_=>rfl,λ_=>rfl,λ_=>rfl,λ_=>rfl,λ_=>rfl,λ_=>rfl,λ_=>rfl,λ_=>rfl,λ_=>rfl,λ_=>rfl,λ_=>rfl,λ_=>rfl,λ_=>rfl,λ_=>rfl,λ_=>rfl,λ_=>rfl,λ_=>rfl,λ_=>rfl,λ_=>rfl,λ_=>rfl,λ_=>rfl,λ_=>rfl,λ_=>rfl,λ_=>rfl,λ_=>rfl,λ_=>rfl,λ_=>rfl,λ_=>rfl,λ_=>rfl⟩
abbrev hK(o:IOp):Prop:=o.kind=1\/o.kind=2\/o.kind=3\/o.kind=8
def axF{p1 f1}(a:Y1 p1 f1)(o:IOp):
  ahf.F (p1,f1,()) (o,()) (λy=>y=(decide (hX o),decide (hY o),decide (hK o),decide (evO o),())):=by
 dsimp only [ahf,gm];simp (disch:=omega) only [RR,RB,a];refine Prod.ext ?_ (Prod.ext ?_ (Prod.ext ?_ (Prod.ext ?_ rfl)))<;>rw [Bool.eq_iff_iff]<;>simp [hX,hY,hK,evO,inB,or_assoc,and_assoc]
def axG{p1 f1}(a:Y1 p1 f1)(o:IOp):
  ahg.F (p1,f1,()) (o,()) (λy=>y=(decide (mkV o),())):=by
 dsimp only [ahg,gm];simp (disch:=omega) only [RR,RB,a];refine Prod.ext ?_ rfl;rw [Bool.eq_iff_iff];simp [mkV,inB]
def axH{p1 f1}(a:Y1 p1 f1)(o:IOp):
  ahd.F (p1,f1,()) (o,()) (λy=>y=(decide (evO o),())):=by
 dsimp only [ahd,gm];simp (disch:=omega) only [RR,RB,a];refine Prod.ext ?_ rfl;rw [Bool.eq_iff_iff];simp [evO,inB]
def axI{p1 f1}{c:IOp×Unit->Bool}{a:IOp×Unit->fA}(e:∀o,c (o,())=true/\a (o,())=(decide (mkV o),()))(d:Y1 p1 f1)(b:Blk)(x n:Int)(h:0<=n)(g:n<=b.ops.length)(f:b.ops.length<1000000000):
  ahh.F (c,a,p1,f1,()) (b,x,n,()) (λy=>y=(bp (Vl b.ops x n),())):=by
 dsimp only [ahh,gm];simp (disch:=omega) only [RR,RB,d,e,bB,jJ];refine⟨ah,ah,?_⟩;refine Prod.ext ?_ rfl;dsimp only;rw [Bool.eq_iff_iff,aF,Bool.and_eq_true,bB,decide_eq_true_eq];unfold Vl;constructor
 .rintro⟨⟨a1,a2⟩,a3⟩;exact⟨a1,ah,a3⟩
 .rintro⟨a1,a2,a3⟩;exact⟨⟨a1,ah⟩,a3⟩
def Te{b:List IOp}{len i:Int}{o:IOp}:oW b len i o↔(1<=o.kind/\o.kind<=8)/\(hX o/\Vl b o.x i\/¬hX o/\o.x=0)/\(hY o/\Vl b o.y i\/¬hY o/\o.y=0)/\
  (hK o/\(o.kind=1/\(0<=o.k/\o.k<=65535)\/(o.kind=2\/o.kind=8)/\(0<=o.k/\o.k<=3)\/o.kind=3/\(1<=o.k/\o.k<=5))\/¬hK o/\o.k=0)/\(evO o/\(0<=o.at_/\o.at_<len)\/¬evO o/\o.at_=0):=by
 constructor
 .rintro⟨kd,x1,x0,y1,y0,k1,k2,k3,k0,a1,a0⟩;refine⟨kd,?_,?_,?_,?_⟩
  .by_cases h:hX o
   .exact Or.inl ⟨h,x1 h⟩
   .exact Or.inr ⟨h,x0 h⟩
  .by_cases h:hY o
   .exact Or.inl ⟨h,y1 h⟩
   .exact Or.inr ⟨h,y0 h⟩
  .unfold hK;omega
  .by_cases h:evO o
   .exact Or.inl ⟨h,a1 h⟩
   .exact Or.inr ⟨h,a0 h⟩
 .rintro⟨kd,x,y,k,a⟩;refine⟨kd,λh=> ?_,λh=> ?_,λh=> ?_,λh=> ?_,λh=> ?_,λh=> ?_,λh=> ?_,λh c=> ?_,λh=> ?_,λh=> ?_⟩
  .rcases x with x | x
   .exact x.2
   .exact absurd h x.1
  .rcases x with x | x
   .exact absurd x.1 h
   .exact x.2
  .rcases y with y | y
   .exact y.2
   .exact absurd h y.1
  .rcases y with y | y
   .exact absurd y.1 h
   .exact y.2
  .unfold hK at k;omega
  .unfold hK at k;omega
  .unfold hK at k;omega
  .unfold hK at k;omega
  .rcases a with a | a
   .exact a.2
   .exact absurd h a.1
  .rcases a with a | a
   .exact absurd a.1 h
   .exact a.2
abbrev Y52(c:Blk×ni->Bool)(a:Blk×ni->fA):Prop:=∀b x n,0<=n->n<=b.ops.length->b.ops.length<1000000000->c (b,x,n,())=true/\a (b,x,n,())=(bp (Vl b.ops x n),())
abbrev Y53(b:IOp×Unit->Bool)(a:IOp×Unit->Bool×Bool×Bool×fA):Prop:=∀o,b (o,())=true/\a (o,())=(decide (hX o),decide (hY o),decide (hK o),decide (evO o),())
def axJ{p3 f3 p2 f2 p4 f4 p1 f1 p5 f5 p6 f6}(D:Y52 p3 f3)(E:Y53 p2 f2)(F:Y9 p4 f4)(G:Y1 p1 f1)(B:Y16 p5 f5)(C:Y17 p6 f6)(b:Blk)(i:Int)(A:0<=i)(H:i<b.ops.length)(z:b.ops.length<1000000000)(I:1<=b.len/\b.len<=8):
  ahi.F (p3,f3,p2,f2,p4,f4,p1,f1,p5,f5,p6,f6,()) (b,i,()) (λy=>y=(bp (oW b.ops b.len i ((b.ops).getD (i).toNat default)),())):=by
 have p:=λz1 z2 z3 z4 j t=>(D z1 z2 z3 z4 j t).1
 have l:=λz1 z2 z3 z4 j t=>(D z1 z2 z3 z4 j t).2
 have r:=λz1=>(E z1).1
 have v:=λz1=>(E z1).2
 have u:=λz1=>(F z1).1
 have s:=λz1=>(F z1).2
 have d:=λz1 z2 z3=>(G z1 z2 z3).1
 have w:=λz1 z2 z3=>(G z1 z2 z3).2
 have n:=λz1=>(B z1).1
 have q:=λz1=>(B z1).2
 have m:=λz1=>(C z1).1
 have f:=λz1=>(C z1).2
 have aaE:=λx=>p b x i A ah z
 have aaF:=λx=>l b x i A ah z
 dsimp only [ahi,gm];simp (disch:=omega) only [RR,RB,d,w,r,v,aaE,aaF,u,s,n,q,m,f,jJ];refine⟨ah,ah,λh=> ?_,λh=> ?_⟩
 .rw [aT (λg=>h g.kd)]
 .have h:=bB.1 h;refine Prod.ext ?_ rfl;dsimp only;rw [Bool.eq_iff_iff,aF,Te];generalize ((b.ops).getD (i).toNat default)=o at h ⊢;simp only [Bool.and_eq_true,Bool.or_eq_true,Bool.not_eq_true',decide_eq_true_eq,decide_eq_false_iff_not,aF,bB,h,true_and,and_true];have e:∀ {a:Int},(0<=a/\a<=b.len-1)↔(0<=a/\a<b.len):=λ{a}=>by omega
  have k:(bif decide (o.kind=1)then inB o.k 0 65535 else bif decide (o.kind=2)then inB o.k 0 3 else bif decide (o.kind=3)then inB o.k 1 5 else(decide (o.kind=8)&&inB o.k 0 3))=true↔(o.kind=1/\(0<=o.k/\o.k<=65535)\/(o.kind=2\/o.kind=8)/\(0<=o.k/\o.k<=3)\/o.kind=3/\(1<=o.k/\o.k<=5)):=by
   rcases(by omega:o.kind=1\/o.kind=2\/o.kind=3\/o.kind=8\/(o.kind≠1/\o.kind≠2/\o.kind≠3/\o.kind≠8))with c | c | c | c | ⟨c1,c2,c3,c4⟩
   .simp [c,inB]
   .simp [c,inB]
   .simp [c,inB]
   .simp [c,inB]
   .simp [c1,c2,c3,c4]
  rw [k];simp only [e,and_assoc]
def axK(b:Blk):ahj.F () (b,()) (λy=>y=(decide (b.fin≠1),decide (3<=b.fin),decide (b.fin≠2),())):=by
 dsimp only [ahj,gm];simp (disch:=omega) only [RR,RB];refine Prod.ext ?_ (Prod.ext rfl (Prod.ext ?_ rfl))<;>simp
def NS{b:Blk}:DW b↔(1<=b.fin/\b.fin<=4)/\(b.fin≠1/\Vl b.ops b.x b.ops.length\/¬b.fin≠1/\b.x=0)/\(3<=b.fin/\Vl b.ops b.y b.ops.length\/¬3<=b.fin/\b.y=0)/\(b.fin≠2/\(0<=b.k/\b.k<=65535)\/¬b.fin≠2/\b.k=0):=by
 constructor
 .rintro⟨f,x1,x0,y1,y0,k1,k0⟩;refine⟨f,?_,?_,ah⟩
  .by_cases h:b.fin=1
   .exact Or.inr ⟨λg=>g h,x0 h⟩
   .exact Or.inl ⟨h,x1 h⟩
  .by_cases h:3<=b.fin
   .exact Or.inl ⟨h,y1 h⟩
   .exact Or.inr ⟨h,y0 ah⟩
 .rintro⟨f,x,y,k⟩;refine⟨f,λh=> ?_,λh=> ?_,λh=> ?_,λh=> ?_,λh=>by omega,λh=>by omega⟩
  .rcases x with x | x
   .exact x.2
   .exact absurd h x.1
  .rcases x with x | x
   .exact absurd h x.1
   .exact x.2
  .rcases y with y | y
   .exact y.2
   .exact absurd h y.1
  .rcases y with y | y
   .exact absurd y.1 ah
   .exact y.2
abbrev Y54(c:iK->Bool)(a:iK->Bool×Bool×fA):Prop:=∀b,c (b,())=true/\a (b,())=(decide (b.fin≠1),decide (3<=b.fin),decide (b.fin≠2),())
def axL{p2 f2 p3 f3 p4 f4 p1 f1}(n:Y54 p2 f2)(m:Y52 p3 f3)(o:Y9 p4 f4)(p:Y1 p1 f1)(b:Blk)(l:b.ops.length<1000000000):
  ahk.F (p2,f2,p3,f3,p4,f4,p1,f1,()) (b,()) (λy=>y=(bp (DW b),())):=by
 have f:=λz1=>(n z1).1
 have j:=λz1=>(n z1).2
 have e:=λz1 z2 z3 z4 c h=>(m z1 z2 z3 z4 c h).1
 have d:=λz1 z2 z3 z4 c h=>(m z1 z2 z3 z4 c h).2
 have i:=λz1=>(o z1).1
 have g:=λz1=>(o z1).2
 have a:=λz1 z2 z3=>(p z1 z2 z3).1
 have k:=λz1 z2 z3=>(p z1 z2 z3).2
 have aaE:=λx=>e b x b.ops.length ah (Int.le_refl _) l
 have aaF:=λx=>d b x b.ops.length ah (Int.le_refl _) l
 dsimp only [ahk,gm];simp (disch:=omega) only [RR,RB,a,k,f,j,aaE,aaF,i,g];refine Prod.ext ?_ rfl;dsimp only;rw [Bool.eq_iff_iff,aF,NS];simp only [Bool.and_eq_true,Bool.or_eq_true,Bool.not_eq_true',decide_eq_true_eq,decide_eq_false_iff_not,aF,bB,and_assoc]
def axM{p1 f1}{m:iK->Bool}{q:iK->fA}{l:Blk×dY->Bool}{r:Blk×dY->fA}(t:∀b,b.ops.length<1000000000->m (b,())=true/\q (b,())=(bp (DW b),()))(p:∀(b:Blk) (i:Int),0<=i->i<b.ops.length->b.ops.length<1000000000->1<=b.len/\b.len<=8->l (b,i,())=true/\r (b,i,())=(bp (oW b.ops b.len i ((b.ops).getD (i).toNat default)),()))(u:Y1 p1 f1)(b:Blk)(e:b.ops.length<1000000000):
  ahl.F (m,q,l,r,p1,f1,()) (b,()) (λy=>y=(bp (bQ b),())):=by
 dsimp only [ahl,gm];simp (disch:=omega) only [RR,RB,u];by_cases a:1<=b.len/\b.len<=8
 .have hl':=bB.2 a;simp (disch:=omega) only [RR,hl',bB,jJ];refine⟨λh=> ?_,λh=> ?_⟩
  .rw [aT (λg=> ?_)];have x:=g.pc;have v:=g.sz;omega
  .refine ay (λ(y:Int×Int×iK)=>y.1=b.ops.length/\y.2.2.1=b/\0<=y.2.1/\y.2.1<=b.ops.length/\All y.2.1 (λi=>oW b.ops b.len i ((b.ops).getD (i).toNat default))) (λy=>(b.ops.length-y.2.1).toNat) ⟨rfl,rfl,by simp,by simp,All.zero⟩ ?_;rintro⟨(n:Int),(i:Int),(c:Blk),⟨⟩⟩ hI;dsimp only at hI ⊢;obtain⟨rfl,rfl,k,w,o⟩:=hI;simp (disch:=omega) only [RR,t c e];refine⟨λd=>⟨(p c i k d e a).1,?_⟩,λd=> ?_⟩
   .rw [(p c i k d e a).2];dsimp only;refine⟨λf=> ?_,λf=>⟨⟨ah,ah,o.snoc (aF.1 f)⟩,ah⟩⟩;rw [aT (λg=>gI.1 f (g.op i k d))]
   .by_cases he:DW c
    .rw [aI he,aI (show bQ c from⟨a,ah,ah,λj s z=>o j s ah,he⟩)]
    .rw [aT he,aT (λg=>he g.en)]
 .have hl':=jJ.2 a;simp (disch:=omega) only [RR,hl'];rw [aT (λg=>a g.ln)];exact⟨rfl,λh=>h.1.1.elim⟩
def arO{p1 f1}(a:Y1 p1 f1)(k:Int):
  Ym.F (p1,f1,()) (k,()) (λy=>y=(decide ((1<=k/\k<=4)\/k=6),())):=by
 dsimp only [Ym,gm];simp (disch:=omega) only [RR,a];refine Prod.ext ?_ rfl;rw [Bool.eq_iff_iff];simp [inB]
def arP{b:dY->Bool}{c:dY->fA}(d:∀k,b (k,())=true/\c (k,())=(decide ((1<=k/\k<=4)\/k=6),()))(a:List IOp)(x n:Int)(e:n<=a.length):
  Yn.F (b,c,()) (a,x,n,()) (λy=>y=(bp (Vl a x n),())):=by
 dsimp only [Yn,gm];simp (disch:=omega) only [RR,RB,d];refine⟨by simp only [Bool.and_eq_false_iff,decide_eq_false_iff_not];omega,by simp only [Bool.and_eq_false_iff,decide_eq_false_iff_not];omega,?_⟩;refine Prod.ext ?_ rfl;dsimp only;rw [Bool.eq_iff_iff,aF,Bool.and_eq_true,Bool.and_eq_true,decide_eq_true_eq,decide_eq_true_eq,decide_eq_true_eq,and_assoc];rfl
abbrev Y55(c:aBl->Bool)(b:aBl->fA):Prop:=∀(a:List IOp) (x n:Int),n<=a.length->c (a,x,n,())=true/\b (a,x,n,())=(bp (Vl a x n),())
def arQ{p4 f4 p1 f1 p3 f3}(p:Y9 p4 f4)(q:Y1 p1 f1)(n:Y55 p3 f3)(b:List IOp)(i len:Int)(s:0<=i)(t:i<b.length)(z:1<=len/\len<=8):Yp.F (p4,f4,p1,f1,p3,f3,()) (b,i,len,()) (λy=>y=(bp (oW b len i ((b).getD (i).toNat default)),())):=by
 have l:=λz1=>(p z1).1
 have k:=λz1=>(p z1).2
 have f:=λz1 z2 z3=>(q z1 z2 z3).1
 have m:=λz1 z2 z3=>(q z1 z2 z3).2
 have j:=λz1 z2 z3 z4=>(n z1 z2 z3 z4).1
 have g:=λz1 z2 z3 z4=>(n z1 z2 z3 z4).2
 have aaE:=λx=>j b x i ah
 have aaF:=λx=>g b x i ah
 have e:∀ {a:Int},(0<=a/\a<=len-1)↔(0<=a/\a<len):=λ{a}=>by omega
 dsimp only [Yp,gm];simp (disch:=omega) only [RR,RB,f,m,aaE,aaF,l,k];refine⟨ah,ah,?_⟩;rw [show bp (oW b len i ((b).getD (i).toNat default))=bp (_)from ig Te];generalize ((b).getD (i).toNat default)=o;have d:∀ {c:Bool} {P:Prop},(c=true↔P)->(c,())=(bp P,()):=λ{c P} h=>Prod.ext (by dsimp only;rw [Bool.eq_iff_iff,aF];exact h) rfl
 refine⟨λc=> ?_,λu=>⟨λc=> ?_,λv=>⟨λc=> ?_,λw=> ?_⟩⟩⟩
 .refine d ?_;simp only [Bool.and_eq_true,decide_eq_true_eq,aF,bB,c,hX,hY,hK,evO,e];simp [and_assoc]
 .refine d ?_;simp only [Bool.and_eq_true,decide_eq_true_eq,aF,bB,c,hX,hY,hK,evO,e];simp [and_assoc]
 .refine d ?_;simp only [Bool.and_eq_true,decide_eq_true_eq,aF,bB,c,hX,hY,hK,evO,e];simp [and_assoc]
 .by_cases c4:o.kind=4\/o.kind=7
  .have c5:o.kind≠8:=by omega
   rcases c4 with c | c<;>simp (disch:=omega) only [RR,c,Int.reduceEq]<;>(refine d ?_)<;>simp only [Bool.and_eq_true,decide_eq_true_eq,aF,bB,c,hX,hY,hK,evO,e]<;>simp [and_assoc]
  .by_cases c:o.kind=5
   .simp (disch:=omega) only [RR,c,Int.reduceEq];refine d ?_;simp only [Bool.and_eq_true,decide_eq_true_eq,aF,bB,c,hX,hY,hK,evO,e];simp [and_assoc]
   .by_cases c':o.kind=6
    .simp (disch:=omega) only [RR,c',Int.reduceEq];refine d ?_;simp only [Bool.and_eq_true,decide_eq_true_eq,aF,bB,c',hX,hY,hK,evO,e];simp [and_assoc]
    .by_cases c8:o.kind=8
     .simp (disch:=omega) only [RR,c8,Int.reduceEq];refine d ?_;simp only [Bool.and_eq_true,decide_eq_true_eq,aF,bB,c8,hX,hY,hK,evO,e];simp [and_assoc]
     .have n4:¬o.kind=4:=λh=>c4 (Or.inl h)
      have r:¬o.kind=7:=λh=>c4 (Or.inr h)
      simp (disch:=omega) only [RR,n4,r,c,c',c8];rw [aT (λh=>by have:=h.1;omega)]
def arR{p4 f4 p3 f3}(j:Y9 p4 f4)(i:Y55 p3 f3)(b:Blk):Yq.F (p4,f4,p3,f3,()) (b,()) (λy=>y=(bp (DW b),())):=by
 have g:=λz1=>(j z1).1
 have f:=λz1=>(j z1).2
 have e:=λz1 z2 z3 z4=>(i z1 z2 z3 z4).1
 have d:=λz1 z2 z3 z4=>(i z1 z2 z3 z4).2
 have aaE:=λx=>e b.ops x b.ops.length (Int.le_refl _)
 have aaF:=λx=>d b.ops x b.ops.length (Int.le_refl _)
 dsimp only [Yq,gm];simp (disch:=omega) only [RR,RB,aaE,aaF,g,f];rw [show bp (DW b)=bp (_)from ig NS];have a:∀ {c:Bool} {P:Prop},(c=true↔P)->(c,())=(bp P,()):=λ{c P} h=>Prod.ext (by dsimp only;rw [Bool.eq_iff_iff,aF];exact h) rfl
 refine⟨λc=> ?_,λk=>⟨λc=> ?_,λl=> ?_⟩⟩
 .refine a ?_;simp only [Bool.and_eq_true,decide_eq_true_eq,aF,bB,c];simp [and_assoc]
 .refine a ?_;simp only [Bool.and_eq_true,decide_eq_true_eq,aF,bB,c];simp [and_assoc]
 .by_cases c:b.fin=3
  .simp (disch:=omega) only [RR,c,Int.reduceEq];refine a ?_;simp only [Bool.and_eq_true,decide_eq_true_eq,aF,bB,c];simp [and_assoc]
  .by_cases c4:b.fin=4
   .simp (disch:=omega) only [RR,c4,Int.reduceEq];refine a ?_;simp only [Bool.and_eq_true,decide_eq_true_eq,aF,bB,c4];simp [and_assoc]
   .simp (disch:=omega) only [RR,c,c4];rw [aT (λh=>by have:=h.1;omega)]
def arS{p1 f1}{m:iK->Bool}{p:iK->fA}{l:aBl->Bool}{q:aBl->fA}(t:Y1 p1 f1)(s:∀b,m (b,())=true/\p (b,())=(bp (DW b),()))(o:∀(a:List IOp) (i len:Int),0<=i->i<a.length->1<=len/\len<=8->l (a,i,len,())=true/\q (a,i,len,())=(bp (oW a len i ((a).getD (i).toNat default)),()))(b:Blk)(u:b.ops.length<1000000000):
  Yr.F (p1,f1,m,p,l,q,()) (b,()) (λy=>y=(bp (bQ b),())):=by
 dsimp only [Yr,gm];simp (disch:=omega) only [RR,RB,t];by_cases d:1<=b.len/\b.len<=8
 .have hl':=bB.2 d;simp (disch:=omega) only [RR,hl',bB,jJ];refine⟨λh=> ?_,λh=> ?_⟩
  .rw [aT (λg=> ?_)];have x:=g.pc;have v:=g.sz;omega
  .refine ay (λ(y:Int×iK)=>y.2.1=b/\0<=y.1/\y.1<=b.ops.length/\All y.1 (λi=>oW b.ops b.len i ((b.ops).getD (i).toNat default))) (λy=>(b.ops.length-y.1).toNat) ⟨rfl,by simp,by simp,All.zero⟩ ?_;rintro⟨(i:Int),(c:Blk),⟨⟩⟩ hI;dsimp only at hI ⊢;obtain⟨rfl,k,w,n⟩:=hI;simp (disch:=omega) only [RR,s c];refine⟨λe=>⟨(o c.ops i c.len k e d).1,?_⟩,λe=> ?_⟩
   .rw [(o c.ops i c.len k e d).2];dsimp only;refine⟨λf=> ?_,λf=>⟨⟨ah,ah,n.snoc (aF.1 f)⟩,ah⟩⟩;rw [aT (λg=>gI.1 f (g.op i k e))]
   .by_cases he:DW c
    .rw [aI he,aI (show bQ c from⟨d,ah,ah,λj r z=>n j r ah,he⟩)]
    .rw [aT he,aT (λg=>he g.en)]
 .have hl':=jJ.2 d;simp (disch:=omega) only [RR,hl'];rw [aT (λg=>d g.ln)];exact⟨rfl,λh=>h.1.1.elim⟩
def arT{p4 f4}(c:Y9 p4 f4)(r a b:Int):
  XE.F (p4,f4,()) (r,a,b,()) (λy=>y=(inB a 0 65535&&inB b 0 65535&& (decide (r=1/\a=b\/r=2/\a<b)),())):=by
 dsimp only [XE,gm];simp (disch:=omega) only [RR,c];refine Prod.ext ?_ rfl;rw [Bool.eq_iff_iff];simp
def arU{p1 f1}(e:Y13 p1 f1)(a:List (List au))(b:ShP a):
  XF.F (p1,f1,()) (a,()) (λy=>y=(a,())):=by
 have d:=b.1;dsimp only [XF,gm];refine ay (λ(y:List (List au)×Int×Int×lX)=>y.1=a/\y.2.1=a.length/\y.2.2.2.1=a.take y.2.2.1.toNat/\0<=y.2.2.1/\y.2.2.1<=a.length) (λy=>(a.length-y.2.2.1).toNat) ⟨rfl,rfl,by simp,by simp,by simp⟩ ?_;rintro⟨(l:List (List au)),(m:Int),(i:Int),(o:List (List au)),⟨⟩⟩ hI;dsimp only at hI ⊢;obtain⟨rfl,rfl,rfl,f,g⟩:=hI;simp (disch:=omega) only [RR,e _ (b.at _)];refine⟨λc=>⟨ah,ah,?_,⟨bg f c rfl,ah,ah⟩,ah⟩,λc=>by rw [take_of_length_le ah]⟩;have:=length_take_le' i.toNat l;simp only [length_cons,length_nil];omega
abbrev Y56(c:lX->Bool)(b:lX->lX):Prop:=∀a,ShP a->c (a,())=true/\b (a,())=(a,())
def axN{p1 f1 p2 f2}(b:Y13 p1 f1)(f:Y56 p2 f2)(s:Sym)(a:ShY s):
  ahJ.F (p1,f1,p2,f2,()) (s,()) (λy=>y=(s.fin,s.k,s.events,s.regs,s.x,s.y,())):=by
 have e:=a.e.1;dsimp only [ahJ,gm];simp (disch:=omega) only [RR,RB,b _ a.x,b _ a.y,f _ a.r];refine ay (λ(y:List Ev×Int×Int×Int×Int×Int×Int×List Ev×List (List au)×ql)=>y.1=s.events/\y.2.1=s.events.length/\y.2.2.2.2.2.1=s.fin/\y.2.2.2.2.2.2.1=s.k/\y.2.2.2.2.2.2.2.1=s.events.take y.2.2.1.toNat/\y.2.2.2.2.2.2.2.2.1=s.regs/\y.2.2.2.2.2.2.2.2.2.1=s.x/\y.2.2.2.2.2.2.2.2.2.2.1=s.y/\0<=y.2.2.1/\y.2.2.1<=s.events.length) (λy=>(s.events.length-y.2.2.1).toNat) ⟨rfl,rfl,rfl,rfl,by simp,rfl,rfl,rfl,by simp,by simp⟩ ?_;rintro⟨(l:List Ev),(m:Int),(i:Int),(j:Int),(p:Int),(k:Int),(n:Int),(o:List Ev),(r:List (List au)),(u:List au),(v:List au),⟨⟩⟩ hI;dsimp only at hI ⊢;obtain⟨rfl,rfl,rfl,rfl,rfl,rfl,rfl,rfl,g,h⟩:=hI;have c:=a.e.at i.toNat;simp (disch:=omega) only [RR,RB,b _ c.1,b _ c.2.1,f _ c.2.2];refine⟨λd=>⟨ah,ah,?_,⟨bg g d rfl,ah,ah⟩,ah⟩,λd=>by rw [take_of_length_le ah]⟩;have:=length_take_le' i.toNat s.events;simp only [length_cons,length_nil];omega
def arV{p1 f1}{d:yt->Bool}{c:yt->List Atom×dY}(g:Y28 p1 f1)(i:∀(t:List Atom) a,t.length<1000000000->ShA a->d (t,a,())=true/\c (t,a,())=((bE t a).1,(bE t a).2,()))(b k:Int)(t:List Atom)(e:Bool)(j:t.length<1000000000):
  Xh.F (p1,f1,d,c,()) (b,k,t,e,()) (λy=>y=if(bE t ⟨b,k,[],[]⟩).2<0 then([],t,true,())else(iO (bE t ⟨b,k,[],[]⟩).2,(bE t ⟨b,k,[],[]⟩).1,e,())):=by
 have f:ShA ⟨b,k,[],[]⟩:=⟨rD,rD⟩;dsimp only [Xh,gm];simp (disch:=omega) only [RR,g,i _ _ j f];exact⟨λh=>by rw [if_pos h],λh=>by rw [if_neg h]⟩
theorem Ie(t:List Atom)(n:Nat):rN t (n+1)=((bE (rN t n).1 ⟨1,n,[],[]⟩).1,(rN t n).2++ [iO (bE (rN t n).1 ⟨1,n,[],[]⟩).2]):=rfl
abbrev Y57(b:Int×Int×aBq->Bool)(a:Int×Int×aBq->List au×aBq):Prop:=∀kd k (t:List Atom) fl,t.length<1000000000->b (kd,k,t,fl,())=true/\a (kd,k,t,fl,())=if(bE t ⟨kd,k,[],[]⟩).2<0 then([],t,true,())else(iO (bE t ⟨kd,k,[],[]⟩).2,(bE t ⟨kd,k,[],[]⟩).1,fl,())
def arW{p1 f1}(h:Y57 p1 f1)(t:List Atom)(a:Bool)(b:aM t)(d:t.length<=196):Xi.F (p1,f1,()) (t,a,()) (λy=>y=((rN t 4).1,a,(rN t 4).2,())):=by
 dsimp only [Xi,gm];refine ay (λ(y:Int×List Atom×Bool×lX)=>0<=y.1/\y.1<=4/\y.2.2.1=a/\y.2.1=(rN t y.1.toNat).1/\y.2.2.2.1=(rN t y.1.toNat).2) (λy=>(4-y.1).toNat) ⟨by simp,by simp,rfl,rfl,rfl⟩ ?_;rintro⟨(i:Int),(u:List Atom),(g:Bool),(r:List (List au)),⟨⟩⟩ hI;dsimp only at hI ⊢;obtain⟨k,j,rfl,rfl,rfl⟩:=hI;have ok:=DY b d i.toNat ah;have l:=ok.tl;have m:=ok.r4;simp (disch:=omega) only [RR,h _ _ (rN t i.toNat).1 _ ah,length_cons,length_nil];refine⟨λf=> ?_,λf=> ?_⟩
 .have hp:=PE b d (n:=i.toNat) ah;rw [show((i.toNat:Nat):Int)=i by omega]at hp;rw [if_neg ah];have e:(i+1).toNat=i.toNat+1:=by omega
  have c:((i.toNat:Nat):Int)=i:=by omega
  refine⟨ah,⟨ah,ah,rfl,?_,?_⟩,ah⟩
  .rw [e,Ie,c]
  .rw [e,Ie,c]
 .rw [show i.toNat=4 by omega]
def arX(a:List (List au))(c:0<a.length)(b:a.length<1000000000):Xk.F () (a,()) (λy=>y=(a,a,())):=by
 dsimp only [Xk,gm];simp (disch:=omega) only [RR,length_nil];exact⟨ah,ah,rfl⟩
abbrev Y58(b:aBq->Bool)(a:aBq->List Atom×Bool×lX):Prop:=∀(t:List Atom) fl,aM t->t.length<=196->b (t,fl,())=true/\a (t,fl,())=((rN t 4).1,fl,(rN t 4).2,())
def axO{p2 f2 p1 f1}(c:Y31 p2 f2)(b:Y58 p1 f1):
  ahB.F (p2,f2,p1,f1,()) () (λy=>y.1=t4):=by
 have a:ShT t4:=acN.1.sh;unfold t4 at a ⊢;dsimp only [ahB,gm];simp (disch:=omega) only [RR,b [] false AL (by simp),c _ a]
abbrev Y59(d:aAV->Bool)(c:aAV->fA):Prop:=∀r a b,d (r,a,b,())=true/\c (r,a,b,())=(inB a 0 65535&&inB b 0 65535&& (decide (r=1/\a=b\/r=2/\a<b)),())
def axP{p1 f1 p2 f2 p3 f3 p5 f5 p6 f6}{i:aBe->Bool}{o:aBe->Int×Int×List Ev×List (List au)×ql}(p:Y27 p1 f1)(j:Y11 p2 f2)(v:Y8 p3 f3)(z:∀s,ShY s->i (s,())=true/\o (s,())=(s.fin,s.k,s.events,s.regs,s.x,s.y,()))(r:Y14 p5 f5)(u:Y59 p6 f6)(s:Sym)(n:Int)(e:ShY s)(A:0<=s.fin)(B:s.fin<=4):ahK.F (p1,f1,p2,f2,p3,f3,i,o,p5,f5,p6,f6,()) (s,n,()) (λy=>y=(symEnd s n,())):=by
 dsimp only [ahK,gm];simp (disch:=omega) only [RR,RB,p _ e.x,p _ e.y,j _ e.x,j _ e.y,v _ _ e.x,z s e,r _ _ e.x,u];have f:jR s.x s.y=0↔s.x=s.y:=jO;have w:(dz s.x).2=true->inB (dz s.x).1 0 65535=true:=λh=>bB.2 (wD h).2.2
 have x:(dz s.y).2=true->inB (dz s.y).1 0 65535=true:=λh=>bB.2 (wD h).2.2
 unfold symEnd;refine⟨λh=> ?_,λh=>⟨λg=> ?_,λg=>⟨λk=> ?_,λk=>⟨λl=>⟨λm=> ?_,λm=> ?_⟩,λl=>⟨λm=> ?_,λm=> ?_⟩⟩⟩⟩⟩
 .rw [if_pos (by rw [fH,Bool.and_eq_false_iff];exact h)];rfl
 all_goals rw [if_neg (by rw [fH,h.1,h.2];simp)]
 .rw [if_pos g]
 all_goals rw [if_neg (show¬(s.fin=2/\(dz s.x).2=true) by
  rintro⟨a,b⟩;rw [decide_eq_true a,b]at g;cases g)]
 .rw [if_pos k]
 all_goals rw [if_neg (show¬(s.fin≠3/\s.fin≠4) by
  rintro⟨a,b⟩;rw [decide_eq_false a,decide_eq_false b]at k;cases k)]
 .rw [if_pos (by rw [<-f];exact l),if_neg];rintro(⟨c,d⟩ | ⟨⟨c,d⟩,t⟩)
  .have:=m.1;rw [decide_eq_true (f.2 c),decide_eq_true d]at this;cases this
  .have:=m.2;rw [c,d,w c,x d,decide_eq_true ah]at this;cases this
 .rw [if_pos (by rw [<-f];exact l),if_pos];rcases m with⟨c,d⟩ | ⟨c,_,t⟩
  .exact Or.inl ⟨f.1 c,d⟩
  .exact Or.inr ⟨c,ah⟩
 all_goals rw [if_neg (show¬(s.x=s.y\/(dz s.x).2=true/\(dz s.y).2=true) by
  rintro(q | ⟨c,d⟩)
  .exact l.1 (f.2 q)
  .have:=l.2;rw [c,d]at this;cases this)]
 .rw [if_pos m]
 .rw [if_neg];rintro⟨a,b⟩;rw [decide_eq_true a,decide_eq_true b]at m;cases m
variable{t:List Atom}{b:Blk}{i:Nat}{V:List (List au)}{ev:List Ev}
noncomputable def SW (t:List Atom) (b:Blk) (i:Nat):SS:=(b.ops.take i).foldl stp (s0 t)
structure At(t:List Atom)(b:Blk)(i:Nat)(ld inn:Int)(tb:List Atom)(V:List (List au))(ev:List Ev)(rg:List (List au)):Prop where
 ld:ld=(SW t b i).ld
 inn:inn=(SW t b i).inn
 tb:tb=(SW t b i).t
 V:V=(SW t b i).vals++replicate (b.ops.length-i) []
 ev:ev=(SW t b i).evs
 rg:rg=(SW t b i).regs
def At.aAc{d a:Int}{c:List Atom}{e:List (List au)}(h:At t b i d a c V ev e)(f:(SW t b i).vals.length=i)(g:i<=b.ops.length):V.length=b.ops.length:=by
 rw [h.V,length_append,length_replicate,f];omega
def acQ(t:List Atom):∀(l:List IOp) (s:SS),(l.foldl stp s).evs.length<=s.evs.length+l.length
 | [],s=>Nat.le_refl _
 | o::r,s=>by
  rw [foldl_cons,length_cons];have b:=acQ t r (stp s o);have a:(stp s o).evs.length<=s.evs.length+1:=by
   show(nE s o).length<=_;unfold nE;split
   .rw [length_append];exact Nat.le_refl _
   .omega
  omega
theorem aiR(i:Nat)(a:i<=b.ops.length):(SW t b i).evs.length<=i:=by
 have:=acQ t (b.ops.take i) (s0 t);rw [length_take,Nat.min_eq_left a]at this;show((b.ops.take i).foldl stp (s0 t)).evs.length<=i;have e:(s0 t).evs.length=0:=rfl;omega
def acR(a:i<b.ops.length):SW t b (i+1)=stp (SW t b i) (b.ops.getD i default):=by
 unfold SW;rw [oZ _ _ a,getD_lt a]
def At.next{c a:Int}{k:List Atom}{l:List (List au)}(h:At t b i c a k V ev l)(r:(SW t b i).vals.length=i)(p:i<b.ops.length){o:IOp}(m:b.ops.getD i default=o)
  {ld' aiS:Int} {tb':List Atom} {V':List (List au)} {ev':List Ev} {rg':List (List au)} (g:ld'=if o.kind=4 then c+1 else c) (d:aiS=if o.kind=6 then a+1 else a) (n:tb'=nT (SW t b i) o) (f:V'=V.set i (nV (SW t b i) o)) (j:ev'=nE (SW t b i) o) (q:rg'=nR (SW t b i) o):At t b (i+1) ld' aiS tb' V' ev' rg':=by
 have e:=acR (t:=t) p;rw [m]at e;refine⟨?_,?_,?_,?_,?_,?_⟩<;>rw [e]
 .rw [g,h.ld];rfl
 .rw [d,h.inn];rfl
 .exact n
 .rw [f,h.V];show _=((SW t b i).vals++ [nV (SW t b i) o])++_;rw [set_append_right _ _ ah,r,Nat.sub_self,show b.ops.length-i=(b.ops.length- (i+1))+1 by omega,replicate_succ,set_cons_zero,append_assoc];rfl
 .exact j
 .exact q
abbrev Y60(c:iK->Bool)(a:iK->fA):Prop:=∀b,b.ops.length<1000000000->c (b,())=true/\a (b,())=(bp (bQ b),())
abbrev Y61(b:IOp×Unit->Bool)(a:IOp×Unit->fA):Prop:=∀o,b (o,())=true/\a (o,())=(decide (evO o),())
abbrev Y62(b:Sym×dY->Bool)(a:Sym×dY->aBe):Prop:=∀s n,ShY s->0<=s.fin->s.fin<=4->b (s,n,())=true/\a (s,n,())=(symEnd s n,())
set_option maxHeartbeats 1000000 in
theorem axQ{p1 f1 p2 f2 p3 f3 p4 f4 p5 f5 p6 f6 p7 f7 p8 f8 p9 f9 p10 f10 p11 f11}{Z:lX->Bool}{O:lX->List (List au)×lX}(U1:Y54 p1 f1)(U2:Y60 p2 f2)(z:Y61 p3 f3)(A:Y53 p4 f4)(U5:Y22 p5 f5)(U6:Y62 p6 f6)(U7:Y29 p7 f7)(U8:Y31 p8 f8)(U9:Y30 p9 f9)(D:Y57 p10 f10)(a7:Y58 p11 f11)(M:∀a:List (List au),0<a.length->a.length<1000000000->Z (a,())=true/\O (a,())=(a,a,()))(t:List Atom)(b:Blk)(ht:ShT t)(hb:b.ops.length<1000000000):ahL.F (p1,f1,p2,f2,p3,f3,p4,f4,p5,f5,p6,f6,p7,f7,p8,f8,p9,f9,p10,f10,p11,f11,Z,O,()) (t,b,()) (λy=>y=((bH t b).1,(bH t b).2,())):=by
 have b0:=ht.1;dsimp only [ahL,gm];simp (disch:=omega) only [RR,RB,U7 t ht,U2 b hb];by_cases c:aM t/\t.length<=100/\bQ b
 case neg=>
  refine⟨λ_=> ?_,λh=> ?_⟩
  .unfold bH;rw [aT c];rfl
  .exact absurd ⟨aF.1 h.1.1,ah,aF.1 h.2⟩ c
 obtain⟨Q,c2,w⟩:=c;simp (disch:=omega) only [RR,aI Q,aI w,a7 t false Q ah];have sz:=w.sz;have a8:=w.op;have W:=w.k3;have i0:=BA Q ah;have a0:∀j:Nat,j<=b.ops.length->SI (t.length+4) j (SW t b j):=λj hj=>by
  have:=(wE (b.ops.take j) 0 (s0 t) i0 (λo r=>W o (mem_of_mem_take r)) (by rw [length_take];omega) (by rw [length_take];omega)).1;rw [length_take,Nat.min_eq_left hj,Nat.zero_add]at this;exact this
 refine⟨λh=>absurd h ah,λ_=>⟨ah,ah,?_⟩⟩
 refine ay (λ(y:Int×Int×List IOp×Int×Int×Blk×Int×Int×List Atom×Bool×Int×Int×List (List au)×List Ev×lX)=>y.2.2.2.2.2.1=b/\y.2.2.1=b.ops/\y.2.2.2.1=b.ops.length/\y.2.2.2.2.2.2.2.2.2.1=false/\y.2.2.2.2.2.2.2.2.2.2.1=b.fin/\y.2.2.2.2.2.2.2.2.2.2.2.1=b.k/\
   0<=y.2.2.2.2.1/\y.2.2.2.2.1<=b.ops.length/\At t b y.2.2.2.2.1.toNat y.1 y.2.1 y.2.2.2.2.2.2.2.2.1 y.2.2.2.2.2.2.2.2.2.2.2.2.1 y.2.2.2.2.2.2.2.2.2.2.2.2.2.1 y.2.2.2.2.2.2.2.2.2.2.2.2.2.2.1) (λy=>(b.ops.length-y.2.2.2.2.1).toNat)
  ⟨rfl,rfl,rfl,rfl,rfl,rfl,by simp,by simp,⟨rfl,rfl,rfl,rfl,rfl,rfl⟩⟩ ?_
 rintro⟨(ld:Int),(b1:Int),(b4:List IOp),(n:Int),(i:Int),(d:Blk),(z1:Int),(z2:Int),(tb:List Atom),(fl:Bool),(fin:Int),(kk:Int),(V:List (List au)),(ev:List Ev),(rg:List (List au)),⟨⟩⟩ hI;dsimp only at hI ⊢;obtain⟨e1,e2,e3,e4,e5,e6,h1,h2,hA⟩:=hI;subst e1 e2 e3 e4 e5 e6;have hl:V.length=d.ops.length:=hA.aAc (a0 i.toNat ah).vl ah;have l:=a0 i.toNat ah;obtain⟨a1,a2,a3,K,T,a6⟩:=hA;have tl:tb.length<1000000000:=by rw [a3];have:=l.tl;omega
 have r4:rg.length=4:=by rw [a6];exact l.r4
 have b3:ev.length<=i.toNat:=by rw [T];exact aiR i.toNat ah
 by_cases q:i<d.ops.length
 case neg=>
  have en:=w.en;have hf:=en.f;have b2:=w.pc;have a9:=w.ln;have U:i.toNat=d.ops.length:=by omega
  have eS:SW t d i.toNat=dH t d:=by unfold SW dH;rw [U,take_of_length_le (Nat.le_refl _)]
  rw [eS]at a1 a2 a3 K T a6 l;have eV:V=(dH t d).vals:=by rw [K,U,Nat.sub_self];simp
  clear K
  have pk:=Ia (b:=d) l;have eR:=mq Q c2 w;have sh:ShY (mh d (dH t d)):=by
   have i0:=BA Q ah;have hs:=PK d.ops 0 (s0 t) i0 W ah ah ⟨by simp [s0],λe he=>absurd he (by simp [s0])⟩;exact⟨⟨by have:=hs.1;show(d.ops.foldl stp (s0 t)).evs.length<_;omega,hs.2⟩,l.regs,pk.1.sh,pk.2.sh⟩
  have st:=l.tok.sh;obtain⟨v,u⟩:=U6 (mh d (dH t d)) (d.pc+d.len) sh (by show 0<=d.fin;omega) hf.2;subst a1 a2 a3 T a6 eV;have x1:=en.x1;have y1:=en.y1;have sl:=l.vl;have E:mh d (dH t d)=⟨(dH t d).evs,(dH t d).regs,d.fin,if d.fin=1 then []else(((dH t d).vals).getD (d.x).toNat default),if 3<=d.fin then(((dH t d).vals).getD (d.y).toNat default)else [],d.k⟩:=rfl;rw [E]at v u;rcases(by omega:d.fin=1\/d.fin=2\/3<=d.fin)with c | c | c
  .have F:¬3<=d.fin:=by omega
   rw [if_pos c,if_neg F]at v u;simp (disch:=omega) only [RR,RB,q,U1,decide_eq_false F,c,ne_eq,not_true_eq_false,decide_false,U8 _ st];rw [c]at v u;rw [eR,E,if_pos c,if_neg F,c];exact⟨λh=>absurd h ah,λ_=>⟨v,by rw [u]⟩⟩
  .have n1:d.fin≠1:=by omega
   have F:¬3<=d.fin:=by omega
   obtain⟨g,G,_⟩:=x1 n1;rw [if_neg n1,if_neg F]at v u;simp (disch:=omega) only [RR,RB,q,U1,decide_eq_true n1,decide_eq_false F,U8 _ st];rw [eR,E,if_neg n1,if_neg F];exact⟨g,ah,g,ah,v,by rw [u]⟩
  .have n1:d.fin≠1:=by omega
   obtain⟨g,G,_⟩:=x1 n1;obtain⟨J,w2,_⟩:=y1 c;rw [if_neg n1,if_pos c]at v u;simp (disch:=omega) only [RR,RB,q,U1,decide_eq_true n1,decide_eq_true c,U8 _ st];rw [eR,E,if_neg n1,if_pos c];exact⟨g,ah,g,ah,J,ah,J,ah,v,by rw [u]⟩
 have f:=a8 i h1 q;have nxt:=λ{ld' aiS:Int} {tb':List Atom} {V':List (List au)} {ev':List Ev} {rg':List (List au)}=>At.next (t:=t) (b:=d) (i:=i.toNat) (o:=((d.ops).getD (i).toNat default)) ⟨a1,a2,a3,K,T,a6⟩ l.vl ah rfl (ld':=ld') (aiS:=aiS) (tb':=tb') (V':=V') (ev':=ev') (rg':=rg')
 have x:(i+1).toNat=i.toNat+1:=by omega
 have vx:∀j:Int,0<=j->j<i->((V).getD (j).toNat default)=(((SW t d i.toNat).vals).getD (j).toNat default):=λj j1 j2=>by
  have:=l.vl;rw [K,getD_lt (by rw [length_append];omega),getD_lt ah,getElem_append_left]
 have Y:hX ((d.ops).getD (i).toNat default)->((V).getD ((((d.ops).getD (i).toNat default)).x).toNat default)=xOf (SW t d i.toNat) ((d.ops).getD (i).toNat default):=λh=>by
  unfold xOf;rw [if_pos h];exact vx _ (f.x1 h).1 (f.x1 h).2.1
 have ey:hY ((d.ops).getD (i).toNat default)->((V).getD ((((d.ops).getD (i).toNat default)).y).toNat default)=yOf (SW t d i.toNat) ((d.ops).getD (i).toNat default):=λh=>by
  unfold yOf;rw [if_pos h];exact vx _ (f.y1 h).1 (f.y1 h).2.1
 have v0:V.set i.toNat []=V:=by
  have:=l.vl;rw [K,set_append_right _ _ ah,this,Nat.sub_self,show d.ops.length-i.toNat=(d.ops.length- (i.toNat+1))+1 by omega,replicate_succ,set_cons_zero]
 obtain⟨sn,so⟩:=J6 (o:=((d.ops).getD (i).toNat default)) l f.k3 ah ah;have gl:=l.ld;have gi:=l.inn;have P:=(l.x ((d.ops).getD (i).toNat default)).1.sh;have S:=(l.y ((d.ops).getD (i).toNat default)).1.sh;generalize hs:SW t d i.toNat=s at*;generalize r:((d.ops).getD (i).toNat default)=o at*;have L:=f.kd;subst a1 a2 a3 T a6;have H:o.kind≠4->s.ld=if o.kind=4 then s.ld+1 else s.ld:=λh=>by rw [if_neg h]
 have C:o.kind≠6->s.inn=if o.kind=6 then s.inn+1 else s.inn:=λh=>by rw [if_neg h]
 have R:o.kind≠3->o.kind≠4->o.kind≠6->s.t=nT s o:=λh3 h4 h6=>by unfold nT;rw [if_neg h3,if_neg ah]
 have B:o.kind≠8->s.regs=nR s o:=λh=>by unfold nR;rw [if_neg h]
 have E0:¬evO o->s.evs=nE s o:=λh=>by unfold nE;rw [if_neg h]
 have V0:o.kind=5\/o.kind=7\/o.kind=8->V=V.set i.toNat (nV s o):=λh=>by
  rw [show nV s o=[] by unfold nV;rw [if_neg ah,if_neg ah,if_neg ah,if_neg ah],v0]
 have P0:∀L k,0<=(bE s.t ⟨L,k,[],[]⟩).2->f10 (L,k,s.t,false,())=(iO (bE s.t ⟨L,k,[],[]⟩).2,(bE s.t ⟨L,k,[],[]⟩).1,false,()):=λL k h=>by
  rw [(D _ _ _ _ tl).2,if_neg ah]
 have y0:¬hY o->yOf s o=[]:=λh=>by unfold yOf;rw [if_neg h]
 have x0:¬hX o->xOf s o=[]:=λh=>by unfold xOf;rw [if_neg h]
 rcases(by omega:o.kind=1\/o.kind=2\/o.kind=3\/o.kind=4\/o.kind=5\/o.kind=6\/o.kind=7\/o.kind=8)with c | c | c | c | c | c | c | c
 .have dX:decide (hX o)=false:=decide_eq_false (by unfold hX;omega);have m:decide (hY o)=false:=decide_eq_false (by unfold hY;omega);have p:decide (evO o)=false:=decide_eq_false (by unfold evO;omega);have N:At t d (i.toNat+1) s.ld s.inn s.t (V.set i.toNat (aY o.k)) s.evs s.regs:=nxt (H ah) (C ah) (R ah ah ah) (by unfold nV;rw [if_pos c]) (E0 (by unfold evO;omega)) (B ah);simp (disch:=omega) only [RR,RB,r,q,A,z,dX,m,p,c,Int.reduceEq,length_cons,length_nil,U5]
  repeat' apply And.intro
  all_goals first | omega | (rw [x];exact N)
 .have dX:decide (hX o)=false:=decide_eq_false (by unfold hX;omega);have m:decide (hY o)=false:=decide_eq_false (by unfold hY;omega);have p:decide (evO o)=false:=decide_eq_false (by unfold evO;omega);have k2:=f.k2 (Or.inl c);have N:At t d (i.toNat+1) s.ld s.inn s.t (V.set i.toNat ((s.regs).getD (o.k).toNat default)) s.evs s.regs:=nxt (H ah) (C ah) (R ah ah ah) (by unfold nV;rw [if_neg ah,if_pos c]) (E0 (by unfold evO;omega)) (B ah);simp (disch:=omega) only [RR,RB,r,q,A,z,dX,m,p,c,Int.reduceEq,length_cons,length_nil,r4]
  repeat' apply And.intro
  all_goals first | omega | (rw [x];exact N)
 .have dX:decide (hX o)=true:=decide_eq_true (by unfold hX;omega);have m:decide (hY o)=true:=decide_eq_true (by unfold hY;omega);have p:decide (evO o)=false:=decide_eq_false (by unfold evO;omega);have g:=f.x1 (by unfold hX;omega);have G:=f.y1 (by unfold hY;omega);have u1:=g.2.1;have u2:=G.2.1;have J:=g.1;have w2:=G.1;obtain⟨d1,d2,d3⟩:=(U9 s.t o.k _ _ tl P S).2;have d4:=(so.d c).ok;have N:At t d (i.toNat+1) s.ld s.inn (tDo s.t o.k (xOf s o) (yOf s o)).1 (V.set i.toNat (tDo s.t o.k (xOf s o) (yOf s o)).2) s.evs s.regs:=nxt (H ah) (C ah) (by unfold nT;rw [if_pos c]) (by unfold nV;rw [if_neg ah,if_neg ah,if_pos c]) (E0 (by unfold evO;omega)) (B ah);simp (disch:=omega) only [RR,RB,r,q,A,z,dX,m,p,c,Int.reduceEq,length_cons,length_nil,Y (by unfold hX;omega),ey (by unfold hY;omega),(U9 s.t o.k _ _ tl P S).1,d1,d2,d3,d4]
  repeat' apply And.intro
  all_goals first | omega | (rw [x];exact N)
 .have dX:decide (hX o)=true:=decide_eq_true (by unfold hX;omega);have m:decide (hY o)=false:=decide_eq_false (by unfold hY;omega);have p:decide (evO o)=true:=decide_eq_true (by unfold evO;omega);have g:=f.x1 (by unfold hX;omega);have u1:=g.2.1;have J:=g.1;have I:aOf s o=⟨2,s.ld,[],[]⟩:=by unfold aOf;rw [if_pos c]
  have X:=so.p (Or.inl c);rw [I]at X;have N:At t d (i.toNat+1) (s.ld+1) s.inn (bE s.t ⟨2,s.ld,[],[]⟩).1 (V.set i.toNat (iO (bE s.t ⟨2,s.ld,[],[]⟩).2)) (s.evs++ [⟨4,o.at_,xOf s o,[],s.regs⟩]) s.regs:=nxt (by rw [if_pos c]) (C ah) (by unfold nT;rw [if_neg ah,if_pos (Or.inl c),I]) (by unfold nV;rw [if_neg ah,if_neg ah,if_neg ah,if_pos (Or.inl c),I]) (by unfold nE;rw [if_pos (by unfold evO;omega),if_pos (Or.inl c),c,y0 (by unfold hY;omega)]) (B ah);simp (disch:=omega) only [RR,RB,r,q,A,z,dX,m,p,c,Int.reduceEq,length_cons,length_nil,Y (by unfold hX;omega),M s.regs ah ah,(D 2 s.ld s.t false tl).1,P0 2 s.ld X]
  repeat' apply And.intro
  all_goals first | omega | (rw [x];exact N)
 .have dX:decide (hX o)=true:=decide_eq_true (by unfold hX;omega);have m:decide (hY o)=true:=decide_eq_true (by unfold hY;omega);have p:decide (evO o)=true:=decide_eq_true (by unfold evO;omega);have g:=f.x1 (by unfold hX;omega);have G:=f.y1 (by unfold hY;omega);have u1:=g.2.1;have u2:=G.2.1;have J:=g.1;have w2:=G.1;have N:At t d (i.toNat+1) s.ld s.inn s.t V (s.evs++ [⟨5,o.at_,xOf s o,yOf s o,s.regs⟩]) s.regs:=nxt (H ah) (C ah) (R ah ah ah) (V0 ah) (by unfold nE;rw [if_pos (by unfold evO;omega),if_pos (Or.inr c),c]) (B ah);simp (disch:=omega) only [RR,RB,r,q,A,z,dX,m,p,c,Int.reduceEq,length_cons,length_nil,Y (by unfold hX;omega),ey (by unfold hY;omega),M s.regs ah ah]
  repeat' apply And.intro
  all_goals first | omega | (rw [x];exact N)
 .have dX:decide (hX o)=false:=decide_eq_false (by unfold hX;omega);have m:decide (hY o)=false:=decide_eq_false (by unfold hY;omega);have p:decide (evO o)=true:=decide_eq_true (by unfold evO;omega);have I:aOf s o=⟨3,s.inn,[],[]⟩:=by unfold aOf;rw [if_neg ah]
  have X:=so.p (Or.inr c);rw [I]at X;have N:At t d (i.toNat+1) s.ld (s.inn+1) (bE s.t ⟨3,s.inn,[],[]⟩).1 (V.set i.toNat (iO (bE s.t ⟨3,s.inn,[],[]⟩).2)) (s.evs++ [⟨6,o.at_,[],[],[]⟩]) s.regs:=nxt (H ah) (by rw [if_pos c]) (by unfold nT;rw [if_neg ah,if_pos (Or.inr c),I]) (by unfold nV;rw [if_neg ah,if_neg ah,if_neg ah,if_pos (Or.inr c),I]) (by unfold nE;rw [if_pos (by unfold evO;omega),if_neg ah,c,x0 (by unfold hX;omega),y0 (by unfold hY;omega)]) (B ah);simp (disch:=omega) only [RR,RB,r,q,A,z,dX,m,p,c,Int.reduceEq,length_cons,length_nil,(D 3 s.inn s.t false tl).1,P0 3 s.inn X]
  repeat' apply And.intro
  all_goals first | omega | (rw [x];exact N)
 .have dX:decide (hX o)=true:=decide_eq_true (by unfold hX;omega);have m:decide (hY o)=false:=decide_eq_false (by unfold hY;omega);have p:decide (evO o)=true:=decide_eq_true (by unfold evO;omega);have g:=f.x1 (by unfold hX;omega);have u1:=g.2.1;have J:=g.1;have N:At t d (i.toNat+1) s.ld s.inn s.t V (s.evs++ [⟨7,o.at_,xOf s o,[],[]⟩]) s.regs:=nxt (H ah) (C ah) (R ah ah ah) (V0 ah) (by unfold nE;rw [if_pos (by unfold evO;omega),if_neg ah,c,y0 (by unfold hY;omega)]) (B ah);simp (disch:=omega) only [RR,RB,r,q,A,z,dX,m,p,c,Int.reduceEq,length_cons,length_nil,Y (by unfold hX;omega)]
  repeat' apply And.intro
  all_goals first | omega | (rw [x];exact N)
 .have dX:decide (hX o)=true:=decide_eq_true (by unfold hX;omega);have m:decide (hY o)=false:=decide_eq_false (by unfold hY;omega);have p:decide (evO o)=false:=decide_eq_false (by unfold evO;omega);have g:=f.x1 (by unfold hX;omega);have u1:=g.2.1;have J:=g.1;have k2:=f.k2 (Or.inr c);have N:At t d (i.toNat+1) s.ld s.inn s.t V s.evs (s.regs.set o.k.toNat (xOf s o)):=nxt (H ah) (C ah) (R ah ah ah) (V0 ah) (E0 (by unfold evO;omega)) (by unfold nR;rw [if_pos c]);simp (disch:=omega) only [RR,RB,r,q,A,z,dX,m,p,c,Int.reduceEq,length_cons,length_nil,Y (by unfold hX;omega),r4]
  repeat' apply And.intro
  all_goals first | omega | (rw [x];exact N)
end Go.TX.F
namespace Go.TX.F
open Go Go.AE Go.TX List
abbrev Y63(a:aAY->Bool)(b:aAY->fA):Prop:=∀i,a (i,())=true
def KB(l:List Ins):Prop:=∀i∈l,i.k<1000
variable{b:List Int}
structure InD(m:Int)(b:List Int)(p:Int)(y:Int×Int×Int×Bp):Prop where
 b:y.2.2.2.2.1=b
 lo:p<=y.2.2.2.2.2.1
 hi:y.2.2.2.2.2.1<=p+m
 k:0<=y.2.2.2.1/\y.2.2.2.1<=255
abbrev arY:List Int->Prop
 | []=>True
 | x::l=>(0<=x/\x<=255)/\arY l
def Tf:∀(l:List Int) (n:Nat),arY l->0<=l.getD n default/\l.getD n default<=255
 | [],n,_=>by simp only [getD_nil];decide
 | x::l,0,h=>h.1
 | x::l,n+1,h=>Tf l n h.2
def pkR{e:Bp->Bp}(f:Bt b)(a:∀n b p,Bt b->0<=p->p<1000000000->Pk n b p (e (n,b,p,()))):
  (∀n p,0<=p->p<1000000000->(e (n,b,p,())).2.1=b)/\(∀n p,0<=p->p<1000000000->(e (n,b,p,())).2.2.1=p+1)/\
  (∀n p,0<=p->p<1000000000->(0<=(e (n,b,p,())).1)=True)/\(∀n p k,0<=p->p<1000000000->n<=k->0<k->((e (n,b,p,())).1<k)=True)/\
  (∀n p k,0<=p->p<1000000000->n<=k+1->0<=k->((e (n,b,p,())).1<=k)=True):=
 ⟨λn p d c=>(a n b p f d c).1,λn p d c=>(a n b p f d c).2.1,λn p d c=>eq_true (a n b p f d c).2.2.1,
  λn p k d c h g=>eq_true (by have:=(a n b p f d c).2.2;omega),λn p k d c h g=>eq_true (by have:=(a n b p f d c).2.2;omega)⟩
def pkS{a:Bp->Bool}{c:Bp->Bp}(g:Bt b)(U:∀n b p,Bt b->0<=p->p<1000000000->a (n,b,p,())=true/\Pk n b p (c (n,b,p,()))):=pkR g λn b p e d f=>(U n b p e d f).2
def arZ{p1 f1}(a:Y38 p1 f1)(b:List Int)(p:Int)(e:Bt b)(d:0<=p)(c:p<900000000):VN.F (p1,f1,()) (b,p,()) (λy=>InD 20 b p y):=by
 have R:=pkS e a;have P:=λn p d c=>(a n b p e d c).1
 dsimp only [VN,gm];simp (disch:=omega) only [RR,R,P,length_cons,length_nil]
 repeat' (first | (refine⟨?_,?_⟩) | intro _)
 all_goals try omega
 all_goals refine⟨rfl,by dsimp only;omega,by dsimp only;omega,?_⟩
 all_goals dsimp only
 all_goals first | omega | (refine Tf _ _ ?_;simp (disch:=omega) only [arY,R,Int.reduceLE,and_self,true_and,and_true]) | (simp (disch:=omega) only [R,Int.reduceLE,and_self,true_and,and_true])
abbrev Y70(c:eG->Bool)(a:eG->Int×Int×Int×Bp):Prop:=∀b p,Bt b->0<=p->p<900000000->c (b,p,())=true/\InD 20 b p (a (b,p,()))
def ar0{p1 f1 p2 f2 p3 f3}(d:Y70 p1 f1)(f:Y38 p2 f2)(h:Y63 p3 f3)(b:List Int)(p:Int)(c:Bt b)(a:0<=p)(e:p<800000000):VU.F (p1,f1,p2,f2,p3,f3,()) (b,p,()) (λy=>InD 30 b p y):=by
 obtain⟨i,j,k,g⟩:=(d b p c a ah).2;have R:=pkS c f;have P:=λn p a e=>(f n b p c a e).1
 dsimp only [VU,gm];simp (disch:=omega) only [RR,(d b p c a ah).1,h,i,R,P];refine⟨λ_=>⟨rfl,by dsimp only;omega,by dsimp only;omega,?_⟩,λ_=>⟨rfl,j,by dsimp only;omega,g⟩⟩;dsimp only;simp (disch:=omega) only [R,Int.reduceLE,and_self]
structure LiD(b:List Int)(p:Int)(y:O1):Prop where
 b:y.1=b
 lo:p<=y.2.1
 hi:y.2.1<=p+1000
 len:(y.2.2.1.length:Int)<=20
 k:KB y.2.2.1
 l1:1<=y.2.2.1.length
def KB.app{l:List Ins}{i:Ins}(h:KB l)(b:i.k<=255):KB (l++ [i]):=λx a=>by
 rw [mem_append,mem_singleton]at a;rcases a with a | rfl
 .exact h x a
 .omega
abbrev Y71(c:eG->Bool)(a:eG->Int×Int×Int×Bp):Prop:=∀b p,Bt b->0<=p->p<800000000->c (b,p,())=true/\InD 30 b p (a (b,p,()))
def ar1{p1 f1 p2 f2}(h:Y71 p1 f1)(f:Y38 p2 f2)(b:List Int)(p:Int)(a:Bt b)(e:0<=p)(i:p<700000000):YF.F (p1,f1,p2,f2,()) (b,p,()) (λy=>LiD b p y):=by
 obtain⟨t,m,u,F⟩:=(f 8 b p a e ah).2;dsimp only [YF,gm];simp (disch:=omega) only [RR,(f 8 b p a e ah).1,t,m]
 refine ay (λ(y:Int×O1)=>0<=y.1/\y.1<=8/\y.2.1=b/\p<=y.2.2.1/\y.2.2.1+40*y.1<=p+400/\(y.2.2.2.1.length:Int)+y.1<=8/\KB y.2.2.2.1) (λy=>y.1.toNat)
  ⟨u,by dsimp only;omega,rfl,by dsimp only;omega,by dsimp only;omega,by dsimp only [length_nil];omega,λx s=>by cases s⟩ ?_
 rintro⟨(k:Int),(d:List Int),(q:Int),(l:List Ins),⟨⟩⟩ hI;dsimp only at hI ⊢;obtain⟨w,D,rfl,k3,G,A,g⟩:=hI;have R:=pkS a f;have P:=λn p e i=>(f n d p a e i).1
 obtain⟨v,E,B,o⟩:=(h d q a ah ah).2;obtain⟨j,C,z,r⟩:=(h d (q+1) a ah ah).2;simp (disch:=omega) only [RR,RB,(h d q a ah ah).1,(h d (q+1) a ah ah).1,v,j,R,P,length_cons,length_nil,length_append];refine⟨λc=>⟨ah,⟨ah,ah,ah,ah,ah,g.app o.2⟩,ah⟩,λc=>⟨λ_=>⟨ah,rfl,by dsimp only;omega,by dsimp only;omega,?_,?_,?_⟩,λ_=>⟨λ_=>⟨ah,rfl,by dsimp only;omega,by dsimp only;omega,?_,?_,?_⟩,λ_=>⟨ah,rfl,by dsimp only;omega,by dsimp only;omega,?_,?_,?_⟩⟩⟩⟩
 .dsimp only;rw [length_append];simp only [length_cons,length_nil];omega
 .refine g.app ?_;dsimp only;simp (disch:=omega) only [R]
 .dsimp only;rw [length_append];simp only [length_cons,length_nil];omega
 .dsimp only;rw [length_append];simp only [length_cons,length_nil];omega
 .exact g.app (by dsimp only;omega)
 .dsimp only;rw [length_append];simp only [length_cons,length_nil];omega
 .dsimp only;rw [length_append];simp only [length_cons,length_nil];omega
 .exact g.app r.2
 .dsimp only;rw [length_append];simp only [length_cons,length_nil];omega
end Go.TX.F
namespace Go.TX.F
open Go Go.AE Go.TX List
variable{α:Type}{k:Nat}
def ar2(b:Blk)(a:b.ops.length<1000000):Yl.F () (b,()) (λy=>y=(b.pc,b.len,b.fin,b.x,b.y,b.k,b.ops,())):=by
 dsimp only [Yl,gm];simp (disch:=omega) only [RR,RB,nil_append,length_nil];omega
def kn(a:List IOp)(k:Int):Int×Bool:=if 0<=k/\k<a.length/\(((a).getD (k).toNat default)).kind=1 then((((a).getD (k).toNat default)).k,true)else(0,false)
abbrev bk7(b:Blk):bf:=(b.pc,b.len,b.fin,b.x,b.y,b.k,b.ops,())
structure FE(b:Blk):Prop where
 f:1<=b.fin/\b.fin<=4
 x:b.fin≠1->0<=b.x/\b.x<b.ops.length
 y:3<=b.fin->0<=b.y/\b.y<b.ops.length
 y0:b.fin<=2->b.y=0
 p:0<=b.pc/\b.pc<=100/\0<=b.len/\b.len<=100
def ar3(a:List IOp)(k:Int):YA.F () (a,k,()) (λy=>y=((kn a k).1,(kn a k).2,())):=by
 dsimp only [YA,gm];simp (disch:=omega) only [RR,RB]
 grind [kn]
def ar4(b:Blk)(k:Int):YB.F () (b,k,()) (λy=>y=(b.pc,b.len,b.ops,1,0,0,k,())):=by
 dsimp only [YB,gm];simp (disch:=omega) only [RR,RB]
abbrev Y72(c:List IOp×dY->Bool)(b:List IOp×dY->Int×fA):Prop:=∀a k,c (a,k,())=true/\b (a,k,())=((kn a k).1,(kn a k).2,())
theorem ar5{p2 f2}{m:Blk×dY->Bool}{j:Blk×dY->Int×Int×List IOp×Int×aAV}(w:∀b k,m (b,k,())=true/\j (b,k,())=(b.pc,b.len,b.ops,1,0,0,k,()))(u:Y72 p2 f2)(b:Blk)(h:FE b):YC.F (m,j,p2,f2,()) (b,()) (λy=>y=(fcB b b.ops,())):=by
 have z:=h.p;have A:=h.f;have r:b.fin≠1->kn b.ops b.x=if(((b.ops).getD (b.x).toNat default)).kind=1 then((((b.ops).getD (b.x).toNat default)).k,true)else(0,false):=λc=>by
  have:=h.x c
  grind [kn]
 have v:3<=b.fin->kn b.ops b.y=if(((b.ops).getD (b.y).toNat default)).kind=1 then((((b.ops).getD (b.y).toNat default)).k,true)else(0,false):=λc=>by
  have:=h.y c
  grind [kn]
 have B:=h.y0;have a:∀p l o f x y k,Co.mk .blk (p,l,o,f,x,y,k,())=Blk.mk p l o f x y k:=λ_ _ _ _ _ _ _=>rfl
 dsimp only [YC,gm];simp (disch:=omega) only [RR,RB,w,u,a,Bool.and_eq_false_iff];by_cases s:b.fin=1
 .have e:fcB b b.ops=b:=by unfold fcB;rw [if_neg ah,if_neg ah]
  simp_all
 .rw [r s];by_cases t:b.fin=2
  .by_cases d:(((b.ops).getD (b.x).toNat default)).kind=1
   .grind [fcB,default,absurd]
   .have e:fcB b b.ops=b:=by unfold fcB;rw [if_neg (λg=>d g.2),if_neg ah]
    simp_all
  .rw [v ah];refine⟨λh=>absurd h.1 t,λ_=> ?_⟩;by_cases d:(((b.ops).getD (b.x).toNat default)).kind=1/\(((b.ops).getD (b.y).toNat default)).kind=1
   .grind [fcB,default,Bool.true_eq_false,Prod.mk.injEq,Blk.mk.injEq]
   .have e:fcB b b.ops=b:=by unfold fcB;rw [if_neg ah,if_neg (λg=>d g.2)]
    rw [e];have n:¬((if(((b.ops).getD (b.x).toNat default)).kind=1 then((((b.ops).getD (b.x).toNat default)).k,true)else((0:Int),false)).2=true/\(if(((b.ops).getD (b.y).toNat default)).kind=1 then((((b.ops).getD (b.y).toNat default)).k,true)else((0:Int),false)).2=true):=λ⟨q,i⟩=>by
     split at q
     .split at i
      .exact d ⟨by assumption,by assumption⟩
      .cases i
     .cases q
    exact⟨λh=>absurd ⟨h.1.1.2,h.1.2⟩ n,λ_=>⟨λh=>absurd ⟨h.1.1.2,h.1.2⟩ n,λ_=>⟨λh=>absurd ⟨h.1.2,h.2⟩ n,λ_=>rfl⟩⟩⟩
def ar6{p1 f1}(e:Y1 p1 f1)(o:IOp)(al:List Int)(hk:1<=o.kind/\o.kind<=8)(b:hX o->0<=o.x/\o.x< (al.length:Int))(a:hY o->0<=o.y/\o.y< (al.length:Int)):Yt.F (p1,f1,()) (o,al,()) (λy=>y=(ren al o,())):=by
 dsimp only [Yt,gm];simp (disch:=omega) only [RR,RB,e,bB,jJ];have X:((3<=o.kind/\o.kind<=5)\/o.kind=7)\/o.kind=8->hX o:=λc=>by unfold hX;omega
 have f:(¬(3<=o.kind/\o.kind<=5)/\¬o.kind=7)/\¬o.kind=8->¬hX o:=λc g=>by unfold hX at g;omega
 unfold ren;refine⟨λc=>⟨(b (X c)).1,(b (X c)).2,λd=>⟨(a d).1,(a d).2,?_⟩,λd=> ?_⟩,λc=>⟨λd=>⟨(a d).1,(a d).2,?_⟩,λd=> ?_⟩⟩
 .grind
 .grind
 all_goals simp_all [if_neg,if_pos,hY]
def ar7(a:List IOp)(k:Int)(f:0<=k)(e:k<a.length)(c:(a.length:Int)<1000000):Yy.F () (a,k,()) (λy=>y=(lD (a.drop (k.toNat+1)) (((a).getD (k).toNat default)).k,())):=by
 dsimp only [Yy,gm];simp (disch:=omega) only [RR,RB];refine ay (λ(y:aBl)=>y.1=a/\y.2.1=k/\0<=y.2.2.1/\y.2.2.1<=a.length/\lD (a.drop (k.toNat+1)) (((a).getD (k).toNat default)).k=lD (a.drop y.2.2.1.toNat) (((a).getD (k).toNat default)).k) (λy=>((a.length:Int)-y.2.2.1).toNat) ⟨rfl,rfl,by dsimp only;omega,by dsimp only;omega,by dsimp only;rw [show(k+1).toNat=k.toNat+1 by omega]⟩ ?_;rintro⟨(l:List IOp),(h:Int),(j:Int),⟨⟩⟩ hI;dsimp only at hI ⊢;obtain⟨rfl,rfl,g,d,b⟩:=hI;rw [b];simp (disch:=omega) only [RR,RB,Bool.and_eq_false_iff]
 grind [lD,default,drop_eq_getElem_cons,Ka,getD_lt,drop_of_length_le]
abbrev Y73(c:iK->Bool)(a:iK->iK):Prop:=∀b,b.ops.length<1000000->c (b,())=true/\a (b,())=(dA b,())
abbrev Y74(c:iK->Bool)(a:iK->bf):Prop:=∀b,b.ops.length<1000000->c (b,())=true/\a (b,())=bk7 (bK b)
abbrev Y75(c:iK->Bool)(a:iK->bf):Prop:=∀b,b.ops.length<1000000->c (b,())=true/\a (b,())=bk7 (gU b)
abbrev Y76(c:iK->Bool)(a:iK->bf):Prop:=∀b,b.ops.length<1000000->c (b,())=true/\a (b,())=bk7 (jA b)
theorem ar8{p1 f1 p2 f2 p3 f3 p4 f4}(j:Y73 p1 f1)(k:Y74 p2 f2)(d:Y75 p3 f3)(i:Y76 p4 f4)(b:Blk)(h:b.ops.length<1000000):YE.F (p1,f1,p2,f2,p3,f3,p4,f4,()) (b,()) (λy=>y=bk7 (o7 b)):=by
 have g:(bK b).ops.length<1000000:=Nat.lt_of_le_of_lt (wG b) h;have e:=Nat.lt_of_le_of_lt (zu (bK b)) g;have f:=Nat.lt_of_le_of_lt (wF (dA (bK b))) e;have l:=Nat.lt_of_le_of_lt (CK (gU (dA (bK b)))) f;have a:∀c:Blk,Co.mk .blk (c.pc,c.len,c.ops,c.fin,c.x,c.y,c.k,())=c:=λ_=>rfl
 dsimp only [YE,gm];simp (disch:=omega) only [RR,k b h,a,j _ g,d _ e,i _ f,d _ l];rfl
def PZ{d:α}{f l:List α}(a:f.length=k)(h:k<l.length):(f++l.drop k).getD k d=l.getD k d:=by grind
def aiT{d:α}{f l:List α}{k j:Nat}(a:f.length=k)(h:j<k):(f++l.drop k).getD j d=f.getD j d:=by grind
def AV{x:α}{f l:List α}(a:f.length=k)(h:k<l.length):(f++l.drop k).set k x=(f++ [x])++l.drop (k+1):=by
 rw [set_append_right _ _ ah,a,Nat.sub_self,drop_eq_getElem_cons h,set_cons_zero,append_assoc];rfl
def Kc{d:α}{f l:List α}(h:k<l.length):f++l.drop k=(f++ [l.getD k d])++l.drop (k+1):=by simp_all
def AX{f l:List α}(a:f.length=k)(h:k<=l.length):(f++l.drop k).length=l.length:=by simp_all
def bQ.fe{b:Blk}(ok:bQ b){f:List IOp}(h:f.length=b.ops.length):FE ⟨b.pc,b.len,f,b.fin,b.x,b.y,b.k⟩:=by
 have a:=ok.en;have d:=ok.pc;have e:=ok.ln;exact⟨a.f,λc=>⟨(a.x1 c).1,by dsimp only;rw [h];exact(a.x1 c).2.1⟩,λc=>⟨(a.y1 c).1,by dsimp only;rw [h];exact(a.y1 c).2.1⟩,a.y0,by dsimp only;omega⟩
abbrev Y77(c:iK->Bool)(a:iK->bf):Prop:=∀b,b.ops.length<1000000->c (b,())=true/\a (b,())=(b.pc,b.len,b.fin,b.x,b.y,b.k,b.ops,())
theorem ar9{p1 f1 p2 f2 p4 f4 p5 f5}{r:iK->Bool}{u:iK->iK}(G:Y60 p1 f1)(C:Y24 p2 f2)(t:∀b,FE b->r (b,())=true/\u (b,())=(fcB b b.ops,()))(F:Y72 p4 f4)(A:Y77 p5 f5)(b:Blk)(w:b.ops.length<1000000):YD.F (p1,f1,p2,f2,r,u,p4,f4,p5,f5,()) (b,()) (λy=>y=(dA b,())):=by
 have j:∀p l o f x y k,Co.mk .blk (p,l,o,f,x,y,k,())=Blk.mk p l o f x y k:=λ_ _ _ _ _ _ _=>rfl
 dsimp only [YD,gm];simp (disch:=omega) only [RR,RB,G b ah,A b w,j];refine⟨λh=>by unfold dA;rw [h,if_neg (by decide)];rfl,λh=> ?_⟩;have ok:=aF.1 h;rw [D5 ok];refine ay (λ(y:aBm)=>0<=y.1/\y.1<=b.ops.length/\y.2.2.2.2.2.2.2=(b.pc,b.len,b.fin,b.x,b.y,b.k,fc b.ops y.1.toNat++b.ops.drop y.1.toNat,())) (λy=>((b.ops.length:Int)-y.1).toNat) ⟨by dsimp only;omega,by dsimp only;omega,rfl⟩ ?_;rintro⟨(k:Int),u1,u2,u3,u4,u5,u6,b1,b2,b3,b4,b5,b6,(B:List IOp),⟨⟩⟩ hI;dsimp only at hI ⊢;simp only [Prod.mk.injEq,and_true]at hI;obtain⟨i,K,rfl,rfl,rfl,rfl,rfl,rfl,rfl⟩:=hI;have m:=mD b.ops k.toNat;have H:=AX (l:=b.ops) m ah;simp (disch:=omega) only [RR,RB,F,C,H,j];refine⟨λh=> ?_,λh=> ?_⟩
 .have o:=ok.op k i h;have z:=PZ (d:=default) (l:=b.ops) m ah;have n:∀x:Int,Vl b.ops x k->kn (fc b.ops k.toNat++b.ops.drop k.toNat) x=if((((fc b.ops k.toNat)).getD (x).toNat default)).kind=1 then(((((fc b.ops k.toNat)).getD (x).toNat default)).k,true)else(0,false):=λx v=>by
   have I:=v.1;have L:=v.2.1;unfold kn;rw [aiT m ah];simp only [show 0<=x/\x< ((fc b.ops k.toNat++b.ops.drop k.toNat).length:Int)from⟨I,ah⟩,true_and]
  have J:fc b.ops (k+1).toNat=fc b.ops k.toNat++ [fcO (fc b.ops k.toNat) ((b.ops).getD (k).toNat default)]:=by rw [show(k+1).toNat=k.toNat+1 by omega];rfl
  rw [z];have hk:=Kc (d:=default) (f:=fc b.ops k.toNat) (l:=b.ops) (k:=k.toNat) ah;have D:=λx=>AV (x:=x) (l:=b.ops) m ah
  rw [J,show(k+1).toNat=k.toNat+1 by omega];generalize ((b.ops).getD (k).toNat default)=q at o hk ⊢;have vx:=λc=>o.x1 c
  have vy:=λc=>o.y1 c
  refine⟨i,h,i,h,λc=>⟨i,h,i,h,⟨ah,ah,?_⟩,ah⟩,λc=>⟨⟨ah,ah,?_⟩,ah⟩⟩
  .have k1:=n _ (o.x1 (by unfold hX;omega));have E:=n _ (o.y1 (Or.inl c.1.1));rw [k1,E]at c ⊢;by_cases g:((((fc b.ops k.toNat)).getD (q.x).toNat default)).kind=1
   .by_cases a:((((fc b.ops k.toNat)).getD (q.y).toNat default)).kind=1
    .rw [if_pos g,if_pos a,D];have e:fcO (fc b.ops k.toNat) q=⟨1,0,0,wdo q.k ((((fc b.ops k.toNat)).getD (q.x).toNat default)).k ((((fc b.ops k.toNat)).getD (q.y).toNat default)).k,0⟩:=by unfold fcO;rw [if_pos ⟨c.1.1,g,a⟩]
     rw [e]
    .rw [if_neg a]at c;exact absurd c.2 (by decide)
   .rw [if_neg g]at c;exact absurd c.1.2 (by decide)
  .have e:fcO (fc b.ops k.toNat) q=q:=by
    unfold fcO;refine if_neg ?_;rintro⟨s,g,a⟩;rw [n _ (o.x1 (by unfold hX;omega)),n _ (o.y1 (Or.inl s)),if_pos g,if_pos a,decide_eq_true s]at c;cases c
   rw [e,hk]
 .have e:fc b.ops k.toNat++b.ops.drop k.toNat=fc b.ops b.ops.length:=by rw [drop_of_length_le ah,append_nil,show k.toNat=b.ops.length by omega]
  rw [e];have fe:=ok.fe (mD b.ops b.ops.length);rw [(t _ fe).2];exact⟨(t _ fe).1,rfl⟩
def aiU{a b:List Bool}(h:a.length=b.length)(g:∀t:Nat,t<a.length->(a.getD t default=true↔b.getD t default=true)):a=b:=by grind [ext_getElem,getD_lt]
def aiV{b:Blk}(d:bQ b):∀k,k<=b.ops.length->∀i:Nat,b.ops.length-k<=i->i<b.ops.length->4<=(b.ops.getD i default).kind->(us b k).getD i default=true
 | 0,_,i,h1,h2,_=>absurd h2 ah
 | k+1,hk,i,h1,h2,h3=>by
  have g:=zq b k;have a:=d.op ((b.ops.length-1-k:Nat):Int) ah ah;rw [show(((b.ops.length-1-k:Nat):Int)).toNat=b.ops.length-1-k from rfl]at a;refine(PX ah (λc=> ?_) (λc=> ?_)).2 ?_
  .have:=a.x1 c;have f:=this.1;have e:=this.2.1;omega
  .have:=a.y1 c;have f:=this.1;have e:=this.2.1;omega
  .by_cases c:b.ops.length-k<=i
   .exact Or.inl (aiV d k ah i c h2 h3)
   .rw [show i=b.ops.length-1-k by omega]at h3 ⊢;exact Or.inr ⟨Or.inr h3,Or.inl rfl⟩
theorem asa{p1 f1 p2 f2}(L:Y60 p1 f1)(J:Y1 p2 f2)(b:Blk)(Q:b.ops.length<1000000):Yw.F (p1,f1,p2,f2,()) (b,()) (λy=>y=(Ic b,())):=by
 dsimp only [Yw,gm];simp (disch:=omega) only [RR,RB,L b ah];unfold Ic;refine⟨λh=>by rw [h,if_neg (by decide)],λh=> ?_⟩;rw [if_pos h];have ok:=aF.1 h;have N:=ok.sz;have K:=ok.en;refine ay (λ(y:Int×Blk×I4)=>0<=y.1/\y.1<=b.ops.length/\y.2.1=b/\(y.2.2.1.length:Int)=y.1/\∀t:Nat,t<y.2.2.1.length->(y.2.2.1.getD t default=true↔4<=(b.ops.getD t default).kind)) (λy=>((b.ops.length:Int)-y.1).toNat) ⟨by dsimp only;omega,by dsimp only;omega,rfl,rfl,λt h=>absurd h (by simp)⟩ ?_;rintro⟨(k:Int),(f:Blk),(u:List Bool),⟨⟩⟩ hI;dsimp only at hI ⊢;obtain⟨G,O,rfl,V,z⟩:=hI;simp (disch:=omega) only [RR,RB,length_append,length_cons,length_nil];refine⟨λh=>⟨G,h,ah,⟨ah,ah,ah,λt l=> ?_⟩,ah⟩,λh=> ?_⟩
 .rw [fC];rcases(by omega:t<u.length\/t=u.length)with c | c
  .rw [if_pos c];exact z t c
  .rw [if_neg ah,if_pos c,decide_eq_true_eq,c,show k.toNat=u.length by omega]
 have s:¬f.fin=1->0<=f.x/\f.x<u.length:=λc=>by have:=ok.en.x1 c;exact⟨this.1,by have:=this.2.1;omega⟩
 have w:f.fin=3\/f.fin=4->0<=f.y/\f.y<u.length:=λc=>by have:=ok.en.y1 ah;exact⟨this.1,by have:=this.2.1;omega⟩
 have R:=K.f;have u0:=acP ok;have M:u.length=f.ops.length:=by omega
 rw [M]at z;refine⟨λc=>⟨(s c).1,(s c).2,(s c).1,(s c).2,λn=>⟨(w n).1,by rw [length_set];exact(w n).2,(w n).1,by rw [length_set];exact(w n).2,?_⟩,λn=> ?_⟩,λc=>⟨λn=>absurd n ah,λn=> ?_⟩⟩
 all_goals
  refine ay (λ(y:Int×Blk×I4)=> -1<=y.1/\y.1<f.ops.length/\y.2.1=f/\y.2.2.1.length=f.ops.length/\∀t:Nat,t<f.ops.length->(y.2.2.1.getD t default=true↔(us f (f.ops.length-1-y.1).toNat).getD t default=true\/4<=(f.ops.getD t default).kind)) (λy=>(y.1+1).toNat) ⟨by dsimp only;omega,by dsimp only;omega,rfl,by simp only [length_set];omega,λt l=> ?_⟩ ?_
  .dsimp only;rw [show(f.ops.length-1- ((f.ops.length:Int)-1)).toNat=0 by omega];show _↔(us0 f).getD t default=true\/_;have q:=z t l;have r:=u0 t
   first
    | (rw [aaD (by rw [length_set];have:=w n;omega),aaD (by have:=s c;omega),q,r];grind)
    | (rw [aaD (by have:=s c;omega),q,r];grind)
    | (rw [q,r];grind)
  rintro⟨(j:Int),(a:Blk),(C:List Bool),⟨⟩⟩ hI;dsimp only at hI ⊢;obtain⟨W,x,rfl,v,p⟩:=hI;simp (disch:=omega) only [RR,RB,J,bB,jJ,length_set];have S:=zq a (a.ops.length-1-j).toNat;have i:0<=j->∀t:Nat,((us a (a.ops.length-1- (j-1)).toNat).getD t default=true↔(us a (a.ops.length-1-j).toNat).getD t default=true\/((us a (a.ops.length-1-j).toNat).getD j.toNat default=true\/4<=(((a.ops).getD (j).toNat default)).kind)/\(t=j.toNat\/hX (((a.ops).getD (j).toNat default))/\t=(((a.ops).getD (j).toNat default)).x.toNat\/hY (((a.ops).getD (j).toNat default))/\t=(((a.ops).getD (j).toNat default)).y.toNat)):=λg t=>by
   have o:=ok.op j g x;rw [show(a.ops.length-1- (j-1)).toNat=(a.ops.length-1-j).toNat+1 by omega];show(usO (a.ops.getD (a.ops.length-1- (a.ops.length-1-j).toNat) default) (a.ops.length-1- (a.ops.length-1-j).toNat) _).getD t default=true↔_;rw [show a.ops.length-1- (a.ops.length-1-j).toNat=j.toNat by omega];exact PX ah (λc=>by have:=o.x1 c;have A:=this.1;have B:=this.2.1;omega) (λc=>by have:=o.y1 c;have A:=this.1;have B:=this.2.1;omega)
  have D:¬0<=j->(us a (a.ops.length-1-j).toNat)=us a a.ops.length:=λg=>by rw [show(a.ops.length-1-j).toNat=a.ops.length by omega]
  generalize us a (a.ops.length-1-j).toNat=U at i p D;refine⟨λg=> ?_,λg=>congrArg (λm:List Bool=>(m,())) (aiU (b:=us a a.ops.length) (by rw [zq];exact v) λt l=> ?_)⟩
  .have o:=ok.op j g x;have X:hX (((a.ops).getD (j).toNat default))->0<=(((a.ops).getD (j).toNat default)).x/\(((a.ops).getD (j).toNat default)).x<C.length:=λc=>by have:=o.x1 c;have A:=this.1;have B:=this.2.1;omega
   have Y:hY (((a.ops).getD (j).toNat default))->0<=(((a.ops).getD (j).toNat default)).y/\(((a.ops).getD (j).toNat default)).y<C.length:=λc=>by have:=o.y1 c;have A:=this.1;have B:=this.2.1;omega
   have i:=i g;have H:=p j.toNat ah;have P:=o.kd;generalize ((a.ops).getD (j).toNat default)=q at*;have F:((3<=q.kind/\q.kind<=5)\/q.kind=7)\/q.kind=8↔hX q:=by unfold hX;omega
   have cn:(¬(3<=q.kind/\q.kind<=5)/\¬q.kind=7)/\¬q.kind=8↔¬hX q:=by unfold hX;omega
   have E:q.kind=3\/q.kind=5↔hY q:=Iff.rfl;have I:¬q.kind=3/\¬q.kind=5↔¬hY q:=by unfold hY;omega
   rw [F,cn,E,I];generalize hX q=Z at*;generalize hY q=T at*;refine⟨g,x,g,ah,g,ah,λc=>⟨⟨ah,ah,v,λt l=> ?_⟩,ah⟩,λc=>⟨λd=>⟨(X d).1,(X d).2,(X d).1,(X d).2,λe=>⟨(Y e).1,(Y e).2,(Y e).1,(Y e).2,⟨ah,ah,v,λt l=> ?_⟩,ah⟩,λe=>⟨⟨ah,ah,v,λt l=> ?_⟩,ah⟩⟩,λd=>⟨λe=>⟨(Y e).1,(Y e).2,(Y e).1,(Y e).2,⟨ah,ah,v,λt l=> ?_⟩,ah⟩,λe=>⟨⟨ah,ah,v,λt l=> ?_⟩,ah⟩⟩⟩⟩
   .rw [i,p t l];rw [c]at H;grind
   .rw [aaD (by rw [length_set];have:=Y e;omega),aaD (by have:=X d;omega),i,p t l];grind
   .rw [aaD (by have:=X d;omega),i,p t l];grind
   .rw [aaD (by have:=Y e;omega),i,p t l];grind
   .rw [i,p t l];grind
  .rw [p t ah,D g];exact⟨λh=>h.elim id (aiV ok _ (Nat.le_refl _) t ah ah),Or.inl⟩
end Go.TX.F
namespace Go.TX.F
open Go Go.AE Go.TX List
def ang{a:List IOp}{b:List Bool}{len:Int}{k n:Nat}{o:IOp}(c:oW a len k o)(h:k<n):ren (kpS a b (k+1)).1 o=ren (kpS a b n).1 o:=by
 have p:=(Ib a b (show k+1<=n by omega)).2;have l:=(pz a b (k+1)).1;have e:∀x:Int,Vl a x k->(((kpS a b (k+1)).1).getD (x).toNat default)=(((kpS a b n).1).getD (x).toNat default):=λx v=>by
  have i:=v.1;have d:=v.2.1;exact(PD p ah).symm
 have f:=c.x1;have g:=c.y1
 grind [ren]
abbrev Y78(b:IOp×bn->Bool)(a:IOp×bn->IOp×Unit):Prop:=∀o al,(1<=o.kind/\o.kind<=8)->(hX o->0<=o.x/\o.x< (al.length:Int))->(hY o->0<=o.y/\o.y< (al.length:Int))->b (o,al,())=true/\a (o,al,())=(ren al o,())
theorem asb{p1 f1}(p:Y78 p1 f1)(b:Blk)(i:List Bool)(ok:bQ b)(hk:i.length=b.ops.length):Yv.F (p1,f1,()) (b,i,()) (λy=>y=bk7 (jg b i)):=by
 have x:=ok.sz;dsimp only [Yv,gm];simp (disch:=omega) only [RR,RB];refine ay (λ(y:List Bool×Int×Blk×Int×Int×Int×Int×Int×Int×List IOp×bn)=>y.1=i/\0<=y.2.1/\y.2.1<=b.ops.length/\y.2.2.1=b/\y.2.2.2.2.2.2.2.2.2.1=(kpS b.ops i y.2.1.toNat).2.map (ren (kpS b.ops i b.ops.length).1)/\y.2.2.2.2.2.2.2.2.2.2.1=(kpS b.ops i y.2.1.toNat).1) (λy=>((b.ops.length:Int)-y.2.1).toNat) ⟨rfl,by dsimp only;omega,by dsimp only;omega,rfl,rfl,rfl⟩ ?_;rintro⟨(d:List Bool),(k:Int),(a:Blk),u1,u2,u3,u4,u5,u6,(out:List IOp),(A:List Int),⟨⟩⟩ hI;dsimp only at hI ⊢;obtain⟨rfl,j,z,rfl,rfl,rfl⟩:=hI;obtain⟨u,v⟩:=pz a.ops d k.toNat;have t:=(pz a.ops d (k+1).toNat).1;have m:(kpS a.ops d (k+1).toNat).1=(kpS a.ops d k.toNat).1++ [((kpS a.ops d k.toNat).2.length:Int)]:=by rw [show(k+1).toNat=k.toNat+1 by omega];rfl
 have r:k<a.ops.length->ren (kpS a.ops d (k+1).toNat).1 ((a.ops).getD (k).toNat default)=ren (kpS a.ops d a.ops.length).1 ((a.ops).getD (k).toNat default):=λh=>by
  rw [show(k+1).toNat=k.toNat+1 by omega];exact ang (by rw [show((k.toNat:Nat):Int)=k by omega];exact ok.op k j h) ah
 have s:(kpS a.ops d (k+1).toNat).2=if d.getD k.toNat default=true then(kpS a.ops d k.toNat).2++ [((a.ops).getD (k).toNat default)]else(kpS a.ops d k.toNat).2:=by rw [show(k+1).toNat=k.toNat+1 by omega];rfl
 have fin:¬k<a.ops.length->kpS a.ops d k.toNat=kpS a.ops d a.ops.length:=λh=>by grind
 have w:jg a d=Fx (kpS a.ops d a.ops.length).1 a (kpS a.ops d a.ops.length).2:=rfl;rw [w];generalize kpS a.ops d a.ops.length=N at r fin ⊢;generalize q:kpS a.ops d (k+1).toNat=T at t m r s ⊢;generalize kpS a.ops d k.toNat=S at u v m s fin ⊢;have l:=ok.en;have g:¬k<a.ops.length->¬a.fin=1->0<=a.x/\a.x< (S.1.length:Int):=λh c=>by have:=l.x1 c;exact⟨this.1,by have:=this.2.1;omega⟩
 have f:¬k<a.ops.length->a.fin=3\/a.fin=4->0<=a.y/\a.y< (S.1.length:Int):=λh c=>by have:=l.y1 ah;exact⟨this.1,by have:=this.2.1;omega⟩
 simp (disch:=omega) only [RR,RB,length_append,length_cons,length_nil,length_map,jw,<-m];refine⟨λh=> ?_,λh=> ?_⟩
 .have op:=ok.op k j h;have o:hX (((a.ops).getD (k).toNat default))->0<=(((a.ops).getD (k).toNat default)).x/\(((a.ops).getD (k).toNat default)).x< (T.1.length:Int):=λc=>⟨(op.x1 c).1,by have:=(op.x1 c).2.1;omega⟩
  have n:hY (((a.ops).getD (k).toNat default))->0<=(((a.ops).getD (k).toNat default)).y/\(((a.ops).getD (k).toNat default)).y< (T.1.length:Int):=λc=>⟨(op.y1 c).1,by have:=(op.y1 c).2.1;omega⟩
  have P:=(p _ T.1 op.kd o n).1;rw [(p _ T.1 op.kd o n).2,q,s,r h];refine⟨ah,j,ah,λc=>⟨j,h,P,ah,⟨ah,ah,?_⟩,ah⟩,λc=>⟨⟨ah,ah,?_⟩,ah⟩⟩
  .rw [if_pos c,map_append];exact⟨rfl,rfl⟩
  .rw [c,if_neg (by decide)];exact⟨rfl,rfl⟩
 .have g:=g h;have f:=f h;rw [fin h]at g f ⊢;unfold bk7 Fx;refine⟨λc=>⟨(g c).1,(g c).2,(g c).1,(g c).2,λe=>⟨(f e).1,(f e).2,(f e).1,(f e).2,?_⟩,λe=> ?_⟩,λc=>⟨λe=>⟨(f e).1,(f e).2,(f e).1,(f e).2,?_⟩,λe=> ?_⟩⟩
  .rw [if_neg c,if_pos ah]
  .rw [if_neg c,if_neg (by have:=l.f;omega)]
  .exact absurd e ah
  .rw [if_pos c,if_neg ah]
abbrev Y79(c:iK->Bool)(a:iK->I4):Prop:=∀b,b.ops.length<1000000->c (b,())=true/\a (b,())=(Ic b,())
abbrev Y80(d:Blk×I4->Bool)(c:Blk×I4->bf):Prop:=∀b a,bQ b->a.length=b.ops.length->d (b,a,())=true/\c (b,a,())=bk7 (jg b a)
def asc{p1 f1 p2 f2 p3 f3}(a:Y60 p1 f1)(c:Y79 p2 f2)(e:Y80 p3 f3)(b:Blk)(d:b.ops.length<1000000):Yx.F (p1,f1,p2,f2,p3,f3,()) (b,()) (λy=>y=bk7 (gU b)):=by
 dsimp only [Yx,gm];simp (disch:=omega) only [RR,RB,a b ah,c b d];unfold gU Ic;refine⟨λh=>by rw [h,if_neg (by decide)];rfl,λh=> ?_⟩
 grind [aF,zq]
def ase{p1 f1 p2 f2}{f:List IOp×dY->Bool}{j:List IOp×dY->fA}(m:Y60 p1 f1)(i:Y80 p2 f2)(g:∀a k,0<=k->k<a.length->(a.length:Int)<1000000->f (a,k,())=true/\j (a,k,())=(lD (a.drop (k.toNat+1)) (((a).getD (k).toNat default)).k,()))(b:Blk)(p:b.ops.length<1000000):Yz.F (p1,f1,p2,f2,f,j,()) (b,()) (λy=>y=bk7 (jA b)):=by
 dsimp only [Yz,gm];simp (disch:=omega) only [RR,RB,m b ah];unfold jA;refine⟨λh=>by rw [h,if_neg (by decide)];rfl,λh=> ?_⟩;have ok:=aF.1 h;rw [if_pos h];have l:(fD b.ops).length=b.ops.length:=by unfold fD;simp_all
 refine ay (λ(y:Int×Blk×Int×Int×Int×Int×Int×Int×I4)=>0<=y.1/\y.1<=b.ops.length/\y.2.1=b/\y.2.2.2.2.2.2.2.2.1=(fD b.ops).take y.1.toNat) (λy=>((b.ops.length:Int)-y.1).toNat) ⟨by dsimp only;omega,by dsimp only;omega,rfl,rfl⟩ ?_;rintro⟨(k:Int),(c:Blk),u1,u2,u3,u4,u5,u6,(n:List Bool),⟨⟩⟩ hI;dsimp only at hI ⊢;obtain⟨e,o,rfl,rfl⟩:=hI;have tl:((fD c.ops).take k.toNat).length=k.toNat:=by rw [length_take];omega
 simp (disch:=omega) only [RR,RB,length_append,length_cons,length_nil,tl];refine⟨λh=>⟨e,h,Or.inr ((g _ _ e h ah).1),ah,⟨ah,ah,?_⟩,ah⟩,λh=> ?_⟩
 .rw [(g _ _ e h ah).2,show(k+1).toNat=k.toNat+1 by omega,take_succ_eq_append_getElem ah,<-getD_lt (d:=default) (show k.toNat< (fD c.ops).length by omega),AP ah];refine congrArg (λx=>(fD c.ops).take k.toNat++ [x]) ?_;rw [Bool.not_and]
 .rw [take_of_length_le ah,(i _ _ ok l).2];exact⟨(i _ _ ok l).1,rfl⟩
def asf{ops:List IOp}{len:Int}{k n:Nat}{o:IOp}(a:oW ops len k o)(h:k<=n):ren (cpS ops k).1 o=ren (cpS ops n).1 o:=by
 have l:=(tK ops k).1;have e:∀x:Int,Vl ops x k->(((cpS ops k).1).getD (x).toNat default)=(((cpS ops n).1).getD (x).toNat default):=λx v=>by
  have f:=v.1;have b:=v.2.1
  grind [aay]
 have c:=a.x1;have d:=a.y1
 grind [ren]
theorem asg{p1 f1 p2 f2 p3 f3}(Z:Y60 p1 f1)(U:Y78 p2 f2)(Q:Y77 p3 f3)(b:Blk)(L:b.ops.length<1000000):Yu.F (p1,f1,p2,f2,p3,f3,()) (b,()) (λy=>y=bk7 (bK b)):=by
 dsimp only [Yu,gm];simp (disch:=omega) only [RR,RB,Z b ah,Q b L,jw];unfold bK;refine⟨λh=>by rw [h,if_neg (by decide)];rfl,λh=> ?_⟩;have ok:=aF.1 h;rw [if_pos h];have a0:=ok.sz;refine ay (λ(y:Int×Int×Int×Int×Int×Int×Int×Int×Int×Int×Int×Int×Int×List Int×List Int×mF)=>0<=y.1/\y.1<=b.ops.length/\y.2.2.2.2.2.2.2=(b.pc,b.len,b.fin,b.x,b.y,b.k,(cpS b.ops y.1.toNat).1,(cpS b.ops y.1.toNat).2,(b.ops.take y.1.toNat).map (ren (cpS b.ops b.ops.length).1)++b.ops.drop y.1.toNat,())) (λy=>((b.ops.length:Int)-y.1).toNat) ⟨by dsimp only;omega,by dsimp only;omega,rfl⟩ ?_;rintro⟨(k:Int),u1,u2,u3,u4,u5,u6,b1,b2,b3,b4,b5,b6,(al:List Int),(la:List Int),(ops:List IOp),⟨⟩⟩ hI;dsimp only at hI ⊢;simp only [Prod.mk.injEq,and_true]at hI;obtain⟨D,h2,rfl,rfl,rfl,rfl,rfl,rfl,rfl,rfl,rfl⟩:=hI;obtain⟨l1,l2⟩:=tK b.ops k.toNat;have r:=λh:k<b.ops.length=>asf (ops:=b.ops) (k:=k.toNat) (n:=b.ops.length) (by rw [show((k.toNat:Nat):Int)=k by omega];exact ok.op k D h) ah
 have H:((b.ops.take k.toNat).map (ren (cpS b.ops b.ops.length).1)).length=k.toNat:=by simp_all
 have I:=AX (l:=b.ops) H ah;have C:=λh:k<b.ops.length=>PZ (d:=default) (l:=b.ops) H ah
 have A:=λx (h:k<b.ops.length)=>AV (x:=x) (l:=b.ops) H ah
 have B:=λh:k<b.ops.length=>(bg (d:=default) (l:=b.ops) D h rfl)
 have u:k<b.ops.length->cpS b.ops (k+1).toNat=((cpS b.ops k.toNat).1++ [cpN (cpS b.ops k.toNat) k ((b.ops).getD (k).toNat default)],cpL (cpS b.ops k.toNat) k ((b.ops).getD (k).toNat default)):=λh=>by
  rw [show(k+1).toNat=k.toNat+1 by omega,show k=((k.toNat:Nat):Int) by omega];rfl
 have fin:¬k<b.ops.length->cpS b.ops k.toNat=cpS b.ops b.ops.length:=λh=>by grind
 have E:=ok.en;by_cases h:k<b.ops.length
 .have o:=ok.op k D h;have r:=r h;have C:=C h;have u:=u h;have A:=λx=>A x h
  have B:=B h;have X:hX (((b.ops).getD (k).toNat default))->0<=(((b.ops).getD (k).toNat default)).x/\(((b.ops).getD (k).toNat default)).x< ((cpS b.ops k.toNat).1.length:Int):=λc=>⟨(o.x1 c).1,by have:=(o.x1 c).2.1;omega⟩
  have M:hY (((b.ops).getD (k).toNat default))->0<=(((b.ops).getD (k).toNat default)).y/\(((b.ops).getD (k).toNat default)).y< ((cpS b.ops k.toNat).1.length:Int):=λc=>⟨(o.y1 c).1,by have:=(o.y1 c).2.1;omega⟩
  obtain⟨P,F⟩:=U _ _ o.kd X M;have J:=o.k2;have V:(((b.ops).getD (k).toNat default)).kind=8->(ren (cpS b.ops b.ops.length).1 ((b.ops).getD (k).toNat default)).x=(((cpS b.ops k.toNat).1).getD ((((b.ops).getD (k).toNat default)).x).toNat default):=λc=>by rw [<-r];exact if_pos (by unfold hX;omega)
  rw [r]at F;generalize hN:(cpS b.ops b.ops.length).1=N at*;generalize t:cpS b.ops (k+1).toNat=T at u ⊢;generalize cpS b.ops k.toNat=S at*;simp (disch:=omega) only [RR,RB,I,C,P,F,A,length_append,length_cons,length_nil,length_set,jw,h];generalize hq:((b.ops).getD (k).toNat default)=q at*;have j:(ren N q).kind=q.kind:=rfl;have f:(ren N q).k=q.k:=rfl;generalize Y:ren N q=R at*;have G:∀v w,v=cpN S k q->w=cpL S k q->(b.pc,b.len,b.fin,b.x,b.y,b.k,S.1++ [v],w,((b.ops.take k.toNat).map (ren N)++ [R])++b.ops.drop (k.toNat+1),())=(b.pc,b.len,b.fin,b.x,b.y,b.k,T.1,T.2,(b.ops.take (k+1).toNat).map (ren N)++b.ops.drop (k+1).toNat,()):=λv w W O=>by
   rw [u,W,O,<-B,map_append,show(k+1).toNat=k.toNat+1 by omega,<-Y];rfl
  have K:∀i:Int,0<=i->i<S.2.length->S.2.set i.toNat ((S.2).getD (i).toNat default)=S.2:=λi i0 i1=>by rw [getD_lt (show i.toNat<S.2.length by omega),set_getElem_self]
  by_cases a:R.kind=2
  .have kk:=J (Or.inl (j▸a));by_cases m:0<=((S.2).getD (R.k).toNat default)
   .have g:=G (((S.2).getD (R.k).toNat default)) (S.2.set R.k.toNat ((S.2).getD (R.k).toNat default)) (by unfold cpN;rw [<-j,<-f];rw [if_pos ⟨a,m⟩]) (by unfold cpL;rw [<-j,<-f];rw [if_pos a,if_pos m,K _ ah ah]);simp only [a,m,show¬((2:Int)=8) by decide,true_and,and_true,true_implies,false_implies,not_true_eq_false,not_false_eq_true,false_or,decide_true,Bool.and_self,Bool.true_eq_false,t,g];omega
   .have g:=G k (S.2.set R.k.toNat k) (by unfold cpN;rw [<-j,<-f];rw [if_neg (λq=>m q.2)]) (by unfold cpL;rw [<-j,<-f];rw [if_pos a,if_neg m]);simp only [a,m,show¬((2:Int)=8) by decide,true_and,and_true,and_false,true_implies,false_implies,not_true_eq_false,not_false_eq_true,false_or,decide_true,decide_false,Bool.and_false,t,g];omega
  .by_cases c8:R.kind=8
   .have kk:=J (Or.inr (j▸c8));have g:=G k (S.2.set R.k.toNat ((S.1).getD (q.x).toNat default)) (by unfold cpN;rw [<-j,<-f];rw [if_neg (λq=>a q.1)]) (by unfold cpL;rw [<-j,<-f];rw [if_neg a,if_pos c8]);rw [<-V (j▸c8)]at g;simp only [c8,show¬((8:Int)=2) by decide,false_and,true_and,and_true,and_false,true_implies,false_implies,not_true_eq_false,not_false_eq_true,true_or,decide_false,Bool.false_and,t,g];omega
   .have g:=G k S.2 (by unfold cpN;rw [<-j,<-f];rw [if_neg (λq=>a q.1)]) (by unfold cpL;rw [<-j,<-f];rw [if_neg a,if_neg c8]);simp only [a,c8,false_and,true_and,and_true,and_false,true_implies,false_implies,not_true_eq_false,not_false_eq_true,true_or,decide_false,Bool.false_and,t,g];omega
 .have e:=fin h;have p:¬b.fin=1->0<=b.x/\b.x< ((cpS b.ops k.toNat).1.length:Int):=λc=>by have:=E.x1 c;exact⟨this.1,by have:=this.2.1;omega⟩
  have s:b.fin=3\/b.fin=4->0<=b.y/\b.y< ((cpS b.ops k.toNat).1.length:Int):=λc=>by have:=E.y1 ah;exact⟨this.1,by have:=this.2.1;omega⟩
  have ff:=E.f;have z:(b.ops.take k.toNat).map (ren (cpS b.ops b.ops.length).1)++b.ops.drop k.toNat=b.ops.map (ren (cpS b.ops b.ops.length).1):=by rw [take_of_length_le ah,drop_of_length_le ah,append_nil]
  have I:(b.ops.map (ren (cpS b.ops b.ops.length).1)).length=b.ops.length:=length_map _;rw [z];rw [e]at p s ⊢;unfold bk7 Fx;generalize (cpS b.ops b.ops.length).1=N at*;simp (disch:=omega) only [RR,RB,I,h];refine⟨λc=>⟨(p c).1,(p c).2,(p c).1,(p c).2,λa=>⟨(s a).1,(s a).2,(s a).1,(s a).2,?_⟩,λa=> ?_⟩,λc=>⟨λa=>absurd a ah,λa=> ?_⟩⟩
  .rw [if_neg c,if_pos ah]
  .rw [if_neg c,if_neg ah]
  .rw [if_pos c,if_neg ah]
variable{b:Blk}
structure BkD(m:Int)(n:Nat)(b:List Int)(p:Int)(y:uy):Prop where
 b:y.2.2.2.2.2.2.1=b
 lo:p<=y.2.2.2.2.2.2.2.1
 hi:y.2.2.2.2.2.2.2.1<=p+m
 len:y.2.2.2.2.2.2.2.2.1.length<=n
abbrev Y81(c:iK->Bool)(a:iK->bf):Prop:=∀b,b.ops.length<1000000->c (b,())=true/\a (b,())=bk7 (o7 b)
abbrev Y82(c:eG->Bool)(a:eG->O1):Prop:=∀b p,Bt b->0<=p->p<700000000->c (b,p,())=true/\LiD b p (a (b,p,()))
def ash{p2 f2 p3 f3 p4 f4 p5 f5}{B:l6->Bool}{o:l6->bf}(F:∀a l,(l.length:Int)<1000->KB l->B (a,l,())=true/\((o (a,l,())).2.2.2.2.2.2.1.length:Int)<=5000)(D:Y81 p2 f2)(C:Y74 p3 f3)(E:Y38 p4 f4)(z:Y82 p5 f5)(b:List Int)(p:Int)(i:Bt b)(j:0<=p)(x:p<600000000):YG.F (B,o,p2,f2,p3,f3,p4,f4,p5,f5,()) (b,p,()) (λy=>BkD 2000 5000 b p y):=by
 have k:=λz1 z2 z3 z4=>(F z1 z2 z3 z4).1
 have w:=λz1 z2 z3 z4=>(F z1 z2 z3 z4).2
 have s:=λz1 z2=>(D z1 z2).1
 have g:=λz1 z2=>(D z1 z2).2
 have q:=λz1 z2=>(C z1 z2).1
 have f:=λz1 z2=>(C z1 z2).2
 have v:=λz1 z2 z3 z4 d u=>(E z1 z2 z3 z4 d u).1
 have t:=λz1 z2 z3 z4 d u=>(E z1 z2 z3 z4 d u).2
 have m:=λz1 z2 z3 z4 d=>(z z1 z2 z3 z4 d).1
 have r:=λz1 z2 z3 z4 d=>(z z1 z2 z3 z4 d).2
 replace g:=λc h=>show(f2 (c,())).2.2.2.2.2.2.1.length<=c.ops.length by rw [g c h];exact AU c
 replace f:=λc h=>show(f3 (c,())).2.2.2.2.2.2.1.length<=c.ops.length by rw [f c h];exact wG c
 obtain⟨J,O,M,N,A⟩:=r b p i j ah;have R:=pkR i t;have P:=λn p j x=>v n b p i j x
 have L:=λa=>w a _ (show((f5 (b,p,())).2.2.1.length:Int)<1000 by omega) A
 have K:=λc (h:c.ops.length<=5000)=>s c ah
 have H:=λc (h:c.ops.length<=5000)=>g c ah
 have G:=λc (h:c.ops.length<=5000)=>q c ah
 have I:=λc (h:c.ops.length<=5000)=>f c ah
 dsimp only [YG,gm];simp (disch:=omega) only [RR,m b p i j ah,J,R,P,k _ _ (show((f5 (b,p,())).2.2.1.length:Int)<1000 by omega) A,length_cons,length_nil];have e:∀a,(o (a,(f5 (b,p,())).2.2.1,())).2.2.2.2.2.2.1.length<=5000:=λa=>by have:=L a;omega
 refine⟨λ_=>⟨K _ (e _),rfl,by dsimp only;omega,by dsimp only;omega,Nat.le_trans (H _ (e _)) (e _)⟩,λ_=>⟨λ_=>⟨G _ (e _),rfl,by dsimp only;omega,by dsimp only;omega,Nat.le_trans (I _ (e _)) (e _)⟩,λ_=>⟨rfl,by dsimp only;omega,by dsimp only;omega,e _⟩⟩⟩
def Wk(c:Blk):Prop:=∀i:Nat,i<c.ops.length->(c.ops.getD i default).kind=3->0<=(c.ops.getD i default).y/\(c.ops.getD i default).y<=i
def Ig:Wk PN:=λ_ h=>absurd h (Nat.not_lt_zero _)
def aiW(e:bQ b):∀i:Nat,i<=b.ops.length->(∀j:Int,0<=j->j<i->0<=(((cpS b.ops i).1).getD (j).toNat default)/\(((cpS b.ops i).1).getD (j).toNat default)<=j)/\∀r:Int,0<=r->r<=3->(((cpS b.ops i).2).getD (r).toNat default)<i
 | 0,_=>⟨λj g d=>absurd d ah,λr g d=>by
   show([-1, -1, -1, -1]:List Int).getD r.toNat default<_;rcases(by omega:r=0\/r=1\/r=2\/r=3)with h | h | h | h<;>subst h<;>decide⟩
 | i+1,hi=>by
  obtain⟨A,B⟩:=aiW e i ah;have ok:=e.op i ah ah;obtain⟨n,p⟩:=tK b.ops i;rw [show((i:Int)).toNat=i from rfl]at ok;unfold cpS;generalize b.ops.getD i default=o at ok ⊢;refine⟨λj l m=> ?_,λr a f=> ?_⟩
  .dsimp only;rw [fC];split
   .exact A j l ah
   .rw [if_pos ah];unfold cpN;split
    .rename_i c;have k:=ok.k2 (Or.inl c.1);have:=B o.k k.1 k.2;omega
    .omega
  .have:=B r a f;dsimp only;unfold cpL;split
   .rename_i c;have k:=ok.k2 (Or.inl c);split
    .omega
    .rw [rG a k.1 ah];split<;>omega
   split
   .rename_i c;have k:=ok.k2 (Or.inr c);have v:=ok.x1 (by unfold hX;omega);have:=A o.x v.1 v.2.1;have:=v.2.1;rw [rG a k.1 ah];split<;>omega
   .omega
def aaG(b:Blk):Wk (bK b):=by
 unfold bK;split
 .rename_i h;have d:bQ b:=aF.1 h;intro i c a;have c:i<b.ops.length:=by simpa [Fx]using c
  unfold Fx at a ⊢;dsimp only at a ⊢;rw [PW _ c]at a ⊢;have v:=(d.op i ah ah).y1 (Or.inl a);have:=(aiW d b.ops.length (Nat.le_refl _)).1 _ v.1 (by have:=v.2.1;omega);have:=v.2.1;unfold ren;dsimp only;rw [if_pos (show hY (b.ops.getD i default)from Or.inl a)];rw [show((i:Int)).toNat=i from rfl]at*;omega
 .exact Ig
def Tg(a:Wk b):Wk (dA b):=by
 unfold dA;split
 .intro i hi h3;rw [(aop _ _).2.2]at hi h3 ⊢;rw [mD]at hi;rw [J8 _ hi]at h3 ⊢;unfold fcO at h3 ⊢;split at h3
  .exact absurd h3 (by dsimp only;decide)
  .rename_i c;rw [if_neg c];exact a i hi h3
 .exact Ig
def acS(e:Wk b)(a:List Bool):Wk (jg b a):=by
 intro m hm c;have hm:m< (kpS b.ops a b.ops.length).2.length:=by simpa [jg,Fx]using hm
 unfold jg Fx at c ⊢;dsimp only at c ⊢;rw [PW _ hm]at c ⊢;obtain⟨j,d,f,rfl⟩:=PU b.ops a hm;rw [(Fz b.ops a d f).2]at c ⊢;obtain⟨g,y1⟩:=e j d c;unfold ren;dsimp only;rw [if_pos (show hY (b.ops.getD j default)from Or.inl c),PO b.ops a (show(b.ops.getD j default).y.toNat<b.ops.length by omega)];have:=tJ (Ib b.ops a (show(b.ops.getD j default).y.toNat<=j by omega)).1;omega
def aej(b:Blk):Wk (o7 b):=by
 have k:=λ{c:Blk} (h:Wk c)=>show Wk (gU c) by unfold gU;split;exact acS h _;exact Ig
 have s:=λ{c:Blk} (h:Wk c)=>show Wk (jA c) by unfold jA;split;exact acS h _;exact Ig
 exact k (s (k (Tg (aaG b))))
def asi{p1 f1 p2 f2}(i:Y38 p1 f1)(r:Y77 p2 f2)(c:Blk)(b:List Int)(p:Int)(ok:Wk c)(hc:c.ops.length<1000000)(f:Bt b)(g:0<=p)(d:p<600000000):YK.F (p1,f1,p2,f2,()) (c,b,p,()) (λy=>BkD 1000000 c.ops.length b p y):=by
 dsimp only [YK,gm];simp (disch:=omega) only [RR,RB,r c hc];refine ay (λ(y:Int×List Int×aBm)=>0<=y.1/\y.1<=c.ops.length/\y.2.1=b/\p<=y.2.2.1/\y.2.2.1<=p+y.1/\y.2.2.2.2.2.2.2.2.2.2.2.2.2.2.2.1.length=c.ops.length/\∀j:Int,y.1<=j->((y.2.2.2.2.2.2.2.2.2.2.2.2.2.2.2.1).getD (j).toNat default)=((c.ops).getD (j).toNat default)) (λy=>((c.ops.length:Int)-y.1).toNat) ⟨by dsimp only;omega,by dsimp only;omega,rfl,by dsimp only;omega,by dsimp only;omega,rfl,λ_ _=>rfl⟩ ?_;rintro⟨(k:Int),(l:List Int),(q:Int),u1,u2,u3,u4,u5,u6,b1,b2,b3,b4,b5,b6,(o:List IOp),⟨⟩⟩ hI;dsimp only at hI ⊢;obtain⟨t,w,rfl,k3,z,m,a⟩:=hI;have e:=a k (Int.le_refl _);have R:=pkS f i;have P:=λn p g d=>(i n l p f g d).1
 simp (disch:=omega) only [RR,RB,e,R,P,length_set,Bool.and_eq_false_iff];refine⟨λh=> ?_,λh=>⟨rfl,k3,by dsimp only;omega,Nat.le_of_eq m⟩⟩;have u:((c.ops).getD (k).toNat default).kind=3->0<=((c.ops).getD (k).toNat default).y/\((c.ops).getD (k).toNat default).y<=k:=λs=>by have:=ok k.toNat ah s;omega
 have S:∀(X:List IOp) v (j:Int),k+1<=j->(X.set k.toNat v).getD j.toNat default=X.getD j.toNat default:=λX v j x=>by
  simp only [getD,getElem?_set_ne (show k.toNat≠j.toNat by omega)]
 repeat' (first | (refine⟨?_,?_⟩) | intro _)
 all_goals first | omega | rfl | exact a _ ah | (simp (disch:=omega) only [S];exact a _ ah)
end Go.TX.F
namespace Go.TX.F
open Go Go.AE Go.TX List
def asj{p1 f1 p2 f2}(a:Y38 p1 f1)(g:Y77 p2 f2)(c:Blk)(b:List Int)(p:Int)(hc:c.ops.length<1000000)(e:Bt b)(d:0<=p)(f:p<900000000):Pj.F (p1,f1,p2,f2,()) (c,b,p,()) (λy=>BkD 20 c.ops.length b p y/\y.1=c.pc):=by
 have R:=pkS e a;have P:=λn p d f=>(a n b p e d f).1
 by_cases z:(c.ops.length:Int)=0
 .dsimp only [Pj,gm];simp (disch:=omega) only [RR,RB,g c hc,z];exact⟨rfl,by dsimp only;omega,by dsimp only;omega,Nat.le_refl _⟩
 have B:=((a c.ops.length b p e d ah).2).2.2;have W:IntKind.i64.wrap ((f1 (c.ops.length,b,p,())).1-1)=(f1 (c.ops.length,b,p,())).1-1:=w64 ah ah;dsimp only [Pj,gm];simp (disch:=omega) only [RR,RB,g c hc,R,P,z,length_set,W]
 repeat' (first | (refine And.intro ?_ ?_) | intro _)
 all_goals first | omega | exact⟨rfl,by dsimp only;omega,by dsimp only;omega,by dsimp only [aiw];simp only [length_set,length_take,length_drop];omega⟩ | exact⟨rfl,by dsimp only;omega,by dsimp only;omega,by simp only [length_drop,length_take];omega⟩ | exact⟨rfl,by dsimp only;omega,by dsimp only;omega,Nat.le_refl _⟩ | rfl
abbrev Y83(d:Blk×eG->Bool)(a:Blk×eG->uy):Prop:=∀c b p,c.ops.length<1000000->Bt b->0<=p->p<900000000->d (c,b,p,())=true/\BkD 20 c.ops.length b p (a (c,b,p,()))/\(a (c,b,p,())).1=c.pc
abbrev Y84(c:eG->Bool)(a:eG->uy):Prop:=∀b p,Bt b->0<=p->p<600000000->c (b,p,())=true/\BkD 2000 5000 b p (a (b,p,()))
abbrev Y86(d:Blk×eG->Bool)(a:Blk×eG->uy):Prop:=∀c b p,Wk c->c.ops.length<1000000->Bt b->0<=p->p<600000000->d (c,b,p,())=true/\BkD 1000000 c.ops.length b p (a (c,b,p,()))
abbrev Y88(d:List (List au)×lX->Bool)(c:List (List au)×lX->fA):Prop:=∀a b,ShP a->d (a,b,())=true/\c (a,b,())=(bp (a=b),())
abbrev Y89(c:List Atom×iK->Bool)(a:List Atom×iK->List Atom×aBe):Prop:=∀t b,ShT t->b.ops.length<1000000000->c (t,b,())=true/\a (t,b,())=((bH t b).1,(bH t b).2,())
theorem aiX(x y:IOp):avW .iop x y=decide (x=y):=rfl
def nU{P:Prop}[Decidable P]:decide P=bp P:=by unfold bp;congr
def asl(a b:List IOp)(m:a.length<1000000000):WT.F () (a,b,()) (λy=>y=(bp (a=b),())):=by
 dsimp only [WT,gm];simp (disch:=omega) only [RR];refine⟨λh=> ?_,λh=> ?_⟩
 .rw [aT (λe=>h (by rw [e]))]
 have f:a.length=b.length:=by omega
 refine ay (λ(y:List IOp×aBl)=>y.1=a/\y.2.1=b/\y.2.2.1=a.length/\0<=y.2.2.2.1/\y.2.2.2.1<=a.length/\All y.2.2.2.1 (λi=>a.getD i.toNat default=b.getD i.toNat default)) (λy=>(a.length-y.2.2.2.1).toNat) ⟨rfl,rfl,rfl,by simp,by simp,All.zero⟩ ?_;rintro⟨(k:List IOp),(o:List IOp),(n:Int),(i:Int),⟨⟩⟩ hI;dsimp only at hI ⊢;obtain⟨rfl,rfl,rfl,l,j,d⟩:=hI;simp (disch:=omega) only [RR,aiX];refine⟨λg=>⟨ah,ah,ah,ah,λc=> ?_,λc=>⟨⟨ah,ah,d.snoc c⟩,ah⟩⟩,λg=> ?_⟩
 .rw [aT];intro e;rw [e]at c;exact c rfl
 .rw [aI (kV f (d.le ah))]
abbrev Y92(d:List IOp×mF->Bool)(c:List IOp×mF->fA):Prop:=∀a b,a.length<1000000000->d (a,b,())=true/\c (a,b,())=(bp (a=b),())
def axR{p1 f1}(c:Y92 p1 f1)(a b:Blk)(d:a.ops.length<1000000000):ahm.F (p1,f1,()) (a,b,()) (λy=>y=(bp (a=b),())):=by
 dsimp only [ahm,gm];simp (disch:=omega) only [RR,RB,c _ _ d];simp only [nU,<-fH];refine Prod.ext (ig ?_) rfl;cases a;cases b;simp only [Blk.mk.injEq];constructor<;>(intro h;simp only [h,and_self])
def asn{p1 f1}(c:Y14 p1 f1)(a b:List au)(d:Sh a):XG.F (p1,f1,()) (a,b,()) (λy=>y=(decide (jR a b=0),())):=by
 dsimp only [XG,gm];simp (disch:=omega) only [RR,c _ _ d]
def aso{p1 f1}(l:Y14 p1 f1)(a b:List (List au))(g:ShP a):XH.F (p1,f1,()) (a,b,()) (λy=>y=(bp (a=b),())):=by
 have d:=g.1;dsimp only [XH,gm];simp (disch:=omega) only [RR];refine⟨λh=> ?_,λh=> ?_⟩
 .rw [aT (λe=>h (by rw [e]))]
 have k:a.length=b.length:=by omega
 refine ay (λ(y:List (List au)×List (List au)×ni)=>y.1=b/\y.2.1=a/\y.2.2.1=a.length/\0<=y.2.2.2.1/\y.2.2.2.1<=a.length/\All y.2.2.2.1 (λi=>a.getD i.toNat default=b.getD i.toNat default)) (λy=>(a.length-y.2.2.2.1).toNat) ⟨rfl,rfl,rfl,by simp,by simp,All.zero⟩ ?_;rintro⟨(p:List (List au)),(q:List (List au)),(n:Int),(i:Int),⟨⟩⟩ hI;dsimp only at hI ⊢;obtain⟨rfl,rfl,rfl,o,m,f⟩:=hI;simp (disch:=omega) only [RR,l _ _ (g.at _),jO];refine⟨λj=>⟨ah,ah,ah,ah,λc=> ?_,λc=>⟨⟨ah,ah,f.snoc c⟩,ah⟩⟩,λj=> ?_⟩
 .rw [aT];intro e;rw [e]at c;exact c rfl
 .rw [aI (kV k (f.le ah))]
def asq{p1 f1}(c:Y88 p1 f1)(a b:List (List au))(d:ShP a):XI.F (p1,f1,()) (a,b,()) (λy=>y=(bp (a=b),())):=by
 dsimp only [XI,gm];simp (disch:=omega) only [RR,c _ _ d]
def axS{p1 f1 p2 f2}(d:Y14 p1 f1)(e:Y88 p2 f2)(a b:Ev)(c:ShE a):ahM.F (p1,f1,p2,f2,()) (a,b,()) (λy=>y=(bp (a=b),())):=by
 dsimp only [ahM,gm];simp (disch:=omega) only [RR,RB,d _ _ c.1,d _ _ c.2.1,e _ _ c.2.2,jO];simp only [nU,<-fH];refine Prod.ext (ig ?_) rfl;cases a;cases b;simp only [Ev.mk.injEq];constructor<;>(intro h;simp only [h,and_self])
abbrev Y93(d:Ev×Ev×Unit->Bool)(c:Ev×Ev×Unit->fA):Prop:=∀a b,ShE a->d (a,b,())=true/\c (a,b,())=(bp (a=b),())
def asr{p1 f1}(k:Y93 p1 f1)(a b:List Ev)(d:aiO a):XJ.F (p1,f1,()) (a,b,()) (λy=>y=(bp (a=b),())):=by
 have g:=d.1;dsimp only [XJ,gm];simp (disch:=omega) only [RR];refine⟨λh=> ?_,λh=> ?_⟩
 .rw [aT (λe=>h (by rw [e]))]
 have j:a.length=b.length:=by omega
 refine ay (λ(y:List Ev×List Ev×ni)=>y.1=b/\y.2.1=a/\y.2.2.1=a.length/\0<=y.2.2.2.1/\y.2.2.2.1<=a.length/\All y.2.2.2.1 (λi=>a.getD i.toNat default=b.getD i.toNat default)) (λy=>(a.length-y.2.2.2.1).toNat) ⟨rfl,rfl,rfl,by simp,by simp,All.zero⟩ ?_;rintro⟨(o:List Ev),(p:List Ev),(n:Int),(i:Int),⟨⟩⟩ hI;dsimp only at hI ⊢;obtain⟨rfl,rfl,rfl,q,m,f⟩:=hI;simp (disch:=omega) only [RR,k _ _ (d.at _),aF,gI];refine⟨λl=>⟨ah,ah,ah,ah,λc=> ?_,λc=>⟨⟨ah,ah,f.snoc c⟩,ah⟩⟩,λl=> ?_⟩
 .rw [aT];intro e;rw [e]at c;exact c rfl
 .rw [aI (kV j (f.le ah))]
def axT{p1 f1 p2 f2}{d:List Ev×List Ev×Unit->Bool}{f:List Ev×List Ev×Unit->fA}(e:Y14 p1 f1)(i:Y88 p2 f2)(g:∀b a,aiO b->d (b,a,())=true/\f (b,a,())=(bp (b=a),()))(a b:Sym)(c:ShY a):ahN.F (p1,f1,p2,f2,d,f,()) (a,b,()) (λy=>y=(bp (a=b),())):=by
 dsimp only [ahN,gm];simp (disch:=omega) only [RR,RB,e _ _ c.x,e _ _ c.y,i _ _ c.r,g _ _ c.e,jO];simp only [nU,<-fH];refine Prod.ext (ig ?_) rfl;cases a;cases b;simp only [Sym.mk.injEq];constructor<;>(intro h;simp only [h,and_self])
abbrev Y94(d:aAO->Bool)(c:aAO->fA):Prop:=∀a b,a.ops.length<1000000000->d (a,b,())=true/\c (a,b,())=(bp (a=b),())
abbrev Y95(d:Sym×aBe->Bool)(c:Sym×aBe->fA):Prop:=∀a b,ShY a->d (a,b,())=true/\c (a,b,())=(bp (a=b),())
def axU{p1 f1 p2 f2 p4 f4 p5 f5}{d:Unit->Bool}{j:Unit->List Atom×lX}(i:Y60 p1 f1)(n:Y94 p2 f2)(m:d ()=true/\(j ()).1=t4)(f:Y89 p4 f4)(l:Y95 p5 f5)(b c:Blk)(a:b.ops.length<1000000000)(hc:c.ops.length<1000000000):ahO.F (p1,f1,p2,f2,d,j,p4,f4,p5,f5,()) (b,c,()) (λy=>y=(chk b c,())):=by
 have k:ShT t4:=acN.1.sh;have y1:=DZ t4 b;dsimp only [ahO,gm];simp (disch:=omega) only [RR,RB,i b a,i c hc,n b c a,m,f t4 b k a,f _ c y1.2 hc,l _ _ y1.1,aF,gI];unfold chk;refine⟨λh=> ?_,λh=>⟨λe=> ?_,λe=> ?_⟩⟩
 .rw [aT];rintro⟨q,o,r,p,_⟩;simp_all
 .rw [aI];exact⟨h.1.1.1,h.1.1.2,h.1.2,h.2,Or.inl e⟩
 .refine Prod.ext (ig ?_) rfl;exact⟨λg=>⟨h.1.1.1,h.1.1.2,h.1.2,h.2,Or.inr g⟩,λg=>g.2.2.2.2.resolve_left e⟩
abbrev Y96(d:aAO->Bool)(a:aAO->fA):Prop:=∀b c,b.ops.length<1000000000->c.ops.length<1000000000->d (b,c,())=true/\a (b,c,())=(chk b c,())
theorem mkB(p l o f x y k):Co.mk .blk (p,l,o,f,x,y,k,())=Blk.mk p l o f x y k:=rfl
structure anh(nm:List Int)(fin x y:Int)(ops:List IOp):Prop where
 op:∀i:Int,0<=i->i<ops.length->(hX ((ops).getD (i).toNat default)->0<=(((ops).getD (i).toNat default)).x/\(((ops).getD (i).toNat default)).x<nm.length)/\(hY ((ops).getD (i).toNat default)->0<=(((ops).getD (i).toNat default)).y/\(((ops).getD (i).toNat default)).y<nm.length)
 x:fin≠1->0<=x/\x<nm.length
 y:3<=fin->0<=y/\y<nm.length
 l:ops.length<1000000000
def axV(b:Blk)(a:b.ops.length<1000000000):ahe.F () (b,()) (λy=>y=bk7 b):=by
 dsimp only [ahe,gm];simp (disch:=omega) only [RR,RB];omega
def axW(i c d e b f g:Int)(a:List IOp)(h:0<=i/\i<a.length):aib.F () (i,c,d,e,b,f,g,a,()) (λy=>y=(decide ((((a).getD (i).toNat default)).kind=1),c,d,e,b,f,g,a,())):=by
 dsimp only [aib,gm];simp (disch:=omega) only [RR,RB];omega
def axX{p1 f1 p2 f2}(J:Y54 p1 f1)(I:Y53 p2 f2)(nm:List Int)(u len fin x y k:Int)(a:List IOp)(h:anh nm fin x y a):ah6.F (p1,f1,p2,f2,()) (nm,u,len,fin,x,y,k,a,()) (λz=>z=(u,len,fin,(if fin=1 then x else((nm).getD (x).toNat default)),(if 3<=fin then((nm).getD (y).toNat default)else y),k,a.map (ren nm),())):=by
 have N:=h.l;dsimp only [ah6,gm];simp (disch:=omega) only [RR,RB];refine ay (λ(z:List Int×El)=>z.1=nm/\z.2.1=a.length/\0<=z.2.2.1/\z.2.2.1<=a.length/\z.2.2.2=(u,len,fin,x,y,k,(a.take z.2.2.1.toNat).map (ren nm)++a.drop z.2.2.1.toNat,())) (λz=>((a.length:Int)-z.2.2.1).toNat) ⟨rfl,rfl,by dsimp only;omega,by dsimp only;omega,rfl⟩ ?_;rintro⟨(g:List Int),(n:Int),(i:Int),(s:Int),(p:Int),(b:Int),(v:Int),(w:Int),(A:Int),(B:List IOp),⟨⟩⟩ hI;dsimp only at hI ⊢;simp only [Prod.mk.injEq,and_true]at hI;obtain⟨rfl,rfl,j,M,rfl,rfl,rfl,rfl,rfl,rfl,rfl⟩:=hI;have m:((a.take i.toNat).map (ren g)).length=i.toNat:=by rw [length_map,length_take];omega
 have K:=AX (l:=a) m ah;by_cases c:i<a.length
 .obtain⟨ox,oy⟩:=h.op i j c;have H:=PZ (d:=default) (l:=a) m ah;have C:=λq=>AV (x:=q) (l:=a) m ah
  have mk:=Kc (d:=default) (f:=(a.take i.toNat).map (ren g)) (l:=a) (k:=i.toNat) ah;have F:=bg (d:=default) (l:=a) j c rfl;have D:∀q:IOp,(((a.take i.toNat).map (ren g)++ [q])++a.drop (i.toNat+1)).getD i.toNat default=q:=λq=>by
   rw [getD_lt (by rw [length_append,length_append,m];simp only [length_cons,length_nil];omega),getElem_append_left (by rw [length_append,m];simp),getElem_append_right ah];simp only [m,Nat.sub_self,getElem_cons_zero]
  have E:∀q r:IOp,(((a.take i.toNat).map (ren g)++ [q])++a.drop (i.toNat+1)).set i.toNat r=((a.take i.toNat).map (ren g)++ [r])++a.drop (i.toNat+1):=λq r=>by
   rw [set_append_left _ _ (by rw [length_append,m];simp),set_append_right _ _ ah,m,Nat.sub_self];rfl
  have L:∀q:IOp,(((a.take i.toNat).map (ren g)++ [q])++a.drop (i.toNat+1)).length=a.length:=λq=>by
   rw [length_append,length_append,m,length_drop];simp only [length_cons,length_nil];omega
  rw [mk]at H K C ⊢;generalize ((a).getD (i).toNat default)=o at*;simp (disch:=omega) only [RR,RB,I,D,E,L,c];have G:∀q:IOp,q=ren g o->(s,p,b,v,w,A,(a.take i.toNat).map (ren g)++ [q]++a.drop (i.toNat+1),())=(s,p,b,v,w,A,(a.take (i+1).toNat).map (ren g)++a.drop (i+1).toNat,()):=λq e=>by
   rw [e,<-F,map_append,show(i+1).toNat=i.toNat+1 by omega];rfl
  refine⟨j,j,λd=>⟨(ox d).1,(ox d).2,j,j,λe=>⟨(oy e).1,(oy e).2,j,j,⟨ah,ah,G _ ?_⟩,ah⟩,λe=>⟨⟨ah,ah,G _ ?_⟩,ah⟩⟩,λd=>⟨λe=>⟨(oy e).1,(oy e).2,j,j,⟨ah,ah,G _ ?_⟩,ah⟩,λe=>⟨⟨ah,ah,G _ ?_⟩,ah⟩⟩⟩
  all_goals unfold ren
  .rw [if_pos d,if_pos e]
  .rw [if_pos d,if_neg e]
  .rw [if_neg d,if_pos e]
  .rw [if_neg d,if_neg e]
 .have hx:=h.x;have t:=h.y;have z:(a.take i.toNat).map (ren g)++a.drop i.toNat=a.map (ren g):=by rw [take_of_length_le ah,drop_of_length_le ah,append_nil]
  rw [z];simp (disch:=omega) only [RR,RB,J,c,mkB];refine⟨λd=>⟨(hx d).1,(hx d).2,λe=>⟨(t e).1,(t e).2,?_⟩,λe=> ?_⟩,λd=>⟨λe=>⟨(t e).1,(t e).2,?_⟩,λe=> ?_⟩⟩
  .rw [if_neg (show¬b=1 from d),if_pos (show 3<=b from e)]
  .rw [if_neg (show¬b=1 from d),if_neg (show¬3<=b from e)]
  .rw [if_pos (show b=1 from Classical.byContradiction d),if_pos (show 3<=b from e)]
  .rw [if_pos (show b=1 from Classical.byContradiction d),if_neg (show¬3<=b from e)]
abbrev Y98(b:List Int×bf->Bool)(a:List Int×bf->bf):Prop:=∀(nm:List Int) pc len fin x y k ops,anh nm fin x y ops->b (nm,pc,len,fin,x,y,k,ops,())=true/\a (nm,pc,len,fin,x,y,k,ops,())=(pc,len,fin,(if fin=1 then x else((nm).getD (x).toNat default)),(if 3<=fin then((nm).getD (y).toNat default)else y),k,ops.map (ren nm),())
theorem axY{p1 f1}(B:Y98 p1 f1)(b:Blk)(g:List Bool)(ok:bQ b)(hk:g.length=b.ops.length):ah7.F (p1,f1,()) (b,g,()) (λy=>y=bk7 (jg b g)):=by
 have E:=ok.sz;dsimp only [ah7,gm];simp (disch:=omega) only [RR,RB];refine⟨ah,ah,ay (λ(y:List Bool×List IOp×Int×Int×Int×Int×Int×Int×Int×Int×List Int×bf)=>y.1=g/\y.2.1=b.ops/\y.2.2.1=b.ops.length/\0<=y.2.2.2.1/\y.2.2.2.1<=b.ops.length/\y.2.2.2.2.2.2.2.2.2.2=((kpS b.ops g y.2.2.2.1.toNat).1++(replicate b.ops.length (0:Int)).drop y.2.2.2.1.toNat,b.pc,b.len,b.fin,b.x,b.y,b.k,(kpS b.ops g y.2.2.2.1.toNat).2,())) (λy=>((b.ops.length:Int)-y.2.2.2.1).toNat) ⟨rfl,rfl,rfl,by dsimp only;omega,by dsimp only;omega,?_⟩ ?_⟩
 .rfl
 rintro⟨(f:List Bool),(A:List IOp),(n:Int),(i:Int),u1,u2,u3,u4,u5,u6,(nm:List Int),(J:Int),(len:Int),(fin:Int),(x:Int),(y:Int),(k:Int),(out:List IOp),⟨⟩⟩ hI;dsimp only at hI ⊢;simp only [Prod.mk.injEq,and_true]at hI;obtain⟨rfl,rfl,rfl,p,G,rfl,rfl,rfl,rfl,rfl,rfl,rfl,rfl⟩:=hI;obtain⟨v,K⟩:=pz b.ops f i.toNat;have u:(replicate b.ops.length (0:Int)).length=b.ops.length:=length_replicate;have C:=AX (l:=replicate b.ops.length (0:Int)) v ah;have s:=λ(q:Int) (h:i<b.ops.length)=>AV (x:=q) (l:=replicate b.ops.length (0:Int)) v ah
 have fin:¬i<b.ops.length->kpS b.ops f i.toNat=kpS b.ops f b.ops.length:=λh=>by rw [show i.toNat=b.ops.length by omega]
 have F:kpS b.ops f (i+1).toNat=((kpS b.ops f i.toNat).1++ [((kpS b.ops f i.toNat).2.length:Int)],if f.getD i.toNat default=true then(kpS b.ops f i.toNat).2++ [((b.ops).getD (i).toNat default)]else(kpS b.ops f i.toNat).2):=by rw [show(i+1).toNat=i.toNat+1 by omega];rfl
 have D:jg b f=Fx (kpS b.ops f b.ops.length).1 b (kpS b.ops f b.ops.length).2:=rfl;have r:=ok.en;by_cases c:i<b.ops.length
 .have s:=λq=>s q c
  generalize w:kpS b.ops f (i+1).toNat=T at*;generalize kpS b.ops f i.toNat=S at*;simp (disch:=omega) only [RR,RB,C,s,c,length_append,length_cons,length_nil,jw];rw [w,F,u,show(i+1).toNat=i.toNat+1 by omega];refine⟨p,p,c,p,c,p,ah,λd=>⟨ah,⟨ah,ah,?_⟩,ah⟩,λd=>⟨⟨ah,ah,?_⟩,ah⟩⟩
  .rw [if_pos d]
  .rw [d,if_neg (by decide)]
 .have e:=fin c;have z:(kpS b.ops f i.toNat).1++(replicate b.ops.length (0:Int)).drop i.toNat=(kpS b.ops f b.ops.length).1:=by
   rw [drop_of_length_le (by rw [u];omega),append_nil,e]
  have R:anh (kpS b.ops f b.ops.length).1 b.fin b.x b.y (kpS b.ops f b.ops.length).2:=by
   obtain⟨t,L⟩:=pz b.ops f b.ops.length;refine⟨λm H I=> ?_,λd=> ?_,λd=> ?_,ah⟩
   .obtain⟨j,j1,j2,j3⟩:=PU b.ops f (n:=b.ops.length) (m:=m.toNat) ah;have a:=(Fz b.ops f j1 j2).2;rw [j3]at a;rw [a,t];have o:=ok.op j ah ah;rw [show(j:Int).toNat=j from rfl]at o;exact⟨λd=>⟨(o.x1 d).1,by have:=(o.x1 d).2.1;omega⟩,λd=>⟨(o.y1 d).1,by have:=(o.y1 d).2.1;omega⟩⟩
   .rw [t];exact⟨(r.x1 d).1,(r.x1 d).2.1⟩
   .rw [t];exact⟨(r.y1 d).1,(r.y1 d).2.1⟩
  rw [z,e,D];generalize kpS b.ops f b.ops.length=N at*;simp (disch:=omega) only [RR,RB,c,B N.1 b.pc b.len b.fin b.x b.y b.k N.2 R];rfl
def asu{b:Blk}(f:bQ b){j:Int}(e:0<=j)(d:j<b.ops.length)(a:((((fc b.ops b.ops.length)).getD (j).toNat default)).kind=1):0<=((((fc b.ops b.ops.length)).getD (j).toNat default)).k/\((((fc b.ops b.ops.length)).getD (j).toNat default)).k<=65535:=by
 rw [J8 b.ops (show j.toNat<b.ops.length by omega)]at a ⊢;unfold fcO at a ⊢;split at a
 .rename_i c;rw [if_pos c];exact DT _ _ _
 .rename_i c;rw [if_neg c];exact(f.op j e d).k1 a
abbrev Y99(c:iK->Bool)(a:iK->bf):Prop:=∀b,b.ops.length<1000000000->c (b,())=true/\a (b,())=bk7 b
theorem axZ{p1 f1 p2 f2 p4 f4 p5 f5}{S:aBg->Bool}{f3:aBg->Bool×bf}(U1:Y99 p1 f1)(U2:Y60 p2 f2)(X:∀(i Q R J L K O:Int) (p:List IOp),0<=i/\i<p.length->S (i,Q,R,J,L,K,O,p,())=true/\f3 (i,Q,R,J,L,K,O,p,())=(decide ((((p).getD (i).toNat default)).kind=1),Q,R,J,L,K,O,p,()))(U4:Y24 p4 f4)(U5:Y59 p5 f5)(b:Blk)(hb:b.ops.length<1000000):aic.F (p1,f1,p2,f2,S,f3,p4,f4,p5,f5,()) (b,()) (λy=>y=(dA b,())):=by
 dsimp only [aic,gm];simp (disch:=omega) only [RR,RB,U1 b ah,U2 b ah,mkB];refine⟨λh=>by unfold dA;rw [h,if_neg (by decide)];rfl,λh=> ?_⟩;have ok:=aF.1 h;rw [D5 ok];have a0:=ok.sz;refine ay (λ(y:Int×Int×Blk×Int×sj)=>y.1=b.ops.length/\0<=y.2.1/\y.2.1<=b.ops.length/\y.2.2.1=b/\y.2.2.2.2.2.2.2.2.2=(b.pc,b.len,b.fin,b.x,b.y,b.k,fc b.ops y.2.1.toNat++b.ops.drop y.2.1.toNat,())) (λy=>((b.ops.length:Int)-y.2.1).toNat) ⟨rfl,by dsimp only;omega,by dsimp only;omega,rfl,rfl⟩ ?_;rintro⟨(n:Int),(k:Int),(a:Blk),u1,u2,u3,u4,u5,u6,b1,b2,b3,b4,b5,b6,(p:List IOp),⟨⟩⟩ hI;dsimp only at hI ⊢;simp only [Prod.mk.injEq,and_true]at hI;obtain⟨rfl,u,T,rfl,rfl,rfl,rfl,rfl,rfl,rfl,rfl⟩:=hI;have I:=mD a.ops k.toNat;have B:=AX (l:=a.ops) I ah;have C:=λj P=>(X j a.pc a.len a.fin a.x a.y a.k (fc a.ops k.toNat++a.ops.drop k.toNat) P).2
 have t:=λj P=>(X j a.pc a.len a.fin a.x a.y a.k (fc a.ops k.toNat++a.ops.drop k.toNat) P).1
 by_cases c:k<a.ops.length
 .have o:=ok.op k u c;have V:=PZ (d:=default) (l:=a.ops) I ah;have lo:=λ(j:Int) (j0:0<=j) (j1:j<k)=>aiT (d:=default) (l:=a.ops) (j:=j.toNat) I ah
  have nx:fc a.ops (k+1).toNat=fc a.ops k.toNat++ [fcO (fc a.ops k.toNat) ((a.ops).getD (k).toNat default)]:=by rw [show(k+1).toNat=k.toNat+1 by omega];rfl
  have hk:=Kc (d:=default) (f:=fc a.ops k.toNat) (l:=a.ops) (k:=k.toNat) ah;have hs:=λx=>AV (x:=x) (l:=a.ops) I ah
  have W:∀x:Int,Vl a.ops x k->0<=x/\x<k:=λx v=>⟨v.1,v.2.1⟩
  have w:fcO (fc a.ops k.toNat) ((a.ops).getD (k).toNat default)=if(((a.ops).getD (k).toNat default)).kind=3/\((((fc a.ops k.toNat)).getD ((((a.ops).getD (k).toNat default)).x).toNat default)).kind=1/\((((fc a.ops k.toNat)).getD ((((a.ops).getD (k).toNat default)).y).toNat default)).kind=1 then⟨1,0,0,wdo (((a.ops).getD (k).toNat default)).k ((((fc a.ops k.toNat)).getD ((((a.ops).getD (k).toNat default)).x).toNat default)).k ((((fc a.ops k.toNat)).getD ((((a.ops).getD (k).toNat default)).y).toNat default)).k,0⟩else((a.ops).getD (k).toNat default):=rfl
  generalize U:((a.ops).getD (k).toNat default)=q at*;generalize hM:fc a.ops k.toNat++a.ops.drop k.toNat=M at*;by_cases F:q.kind=3
  .have vx:=W _ (o.x1 (by unfold hX;omega));have vy:=W _ (o.y1 (Or.inl F));have m:0<=q.x/\q.x<M.length:=⟨vx.1,ah⟩;have s:0<=q.y/\q.y<M.length:=⟨vy.1,ah⟩;rw [<-lo _ vx.1 vx.2,<-lo _ vy.1 vy.2]at w;simp (disch:=omega) only [RR,RB,B,V,U,C _ m,t _ m,C _ s,t _ s,U4,c,F,m,s,decide_true,Bool.true_and];rw [nx,show(k+1).toNat=k.toNat+1 by omega];refine⟨u,u,λd=>⟨λe=>⟨ah,ah,ah,ah,u,u,⟨ah,ah,?_⟩,ah⟩,λe=>⟨⟨ah,ah,?_⟩,ah⟩⟩,λd=>⟨d,⟨ah,ah,?_⟩,ah⟩⟩
   .rw [if_pos ⟨F,e⟩]at w;rw [w,hs]
   .rw [if_neg (by rintro⟨_,E,H⟩;rw [E,H]at e;cases e)]at w;rw [w,hk]
   .rw [if_neg (by rintro⟨_,E,H⟩;exact d E)]at w;rw [w,hk]
  .simp (disch:=omega) only [RR,RB,B,V,U,c,F];rw [nx,show(k+1).toNat=k.toNat+1 by omega];refine⟨u,u,⟨ah,ah,?_⟩,ah⟩;rw [if_neg (λg=>F g.1)]at w;rw [w,hk]
 .have z:fc a.ops k.toNat++a.ops.drop k.toNat=fc a.ops a.ops.length:=by rw [drop_of_length_le ah,append_nil,show k.toNat=a.ops.length by omega]
  have fe:=ok.fe (mD a.ops a.ops.length);have Y:=fe.x;have Z:=fe.y;have hf:=fe.f;have y0:=fe.y0;have hp:=fe.p;dsimp only at Y Z hf y0 hp;rw [z]at C t ⊢;have B:=mD a.ops a.ops.length;have fi:=λ(j:Int) u T h3=>asu ok (j:=j) u T h3
  generalize fc a.ops a.ops.length=M at*;have G:¬(a.fin=2/\(((M).getD (a.x).toNat default)).kind=1)->¬(3<=a.fin/\(((M).getD (a.x).toNat default)).kind=1/\(((M).getD (a.y).toNat default)).kind=1)->fcB a M=⟨a.pc,a.len,M,a.fin,a.x,a.y,a.k⟩:=λE H=>by unfold fcB;rw [if_neg E,if_neg H]
  by_cases N:a.fin=1
  .rw [G ah ah];simp (disch:=omega) only [RR,RB,B,c,show¬a.fin=2 by omega,show¬3<=a.fin by omega,mkB,decide_false];rfl
  .have m:=Y N;by_cases r:a.fin=2
   .by_cases d:(((M).getD (a.x).toNat default)).kind=1
    .have e:fcB a M=⟨a.pc,a.len,M,1,0,a.y,(((M).getD (a.x).toNat default)).k⟩:=by unfold fcB;rw [if_pos ⟨r,d⟩]
     rw [e];simp (disch:=omega) only [RR,RB,B,c,eq_true r,eq_true d,mkB,C _ m,t _ m,decide_true,Bool.true_and,Bool.and_true,Bool.and_false];exact⟨m.1,ah,m.1,ah,rfl⟩
    .rw [G ah ah];simp (disch:=omega) only [RR,RB,B,c,eq_true r,d,show¬3<=a.fin by omega,mkB,C _ m,t _ m,decide_true,decide_false,Bool.true_and,Bool.and_true,Bool.and_false];rfl
   .have s:=Z ah;have A:3<=a.fin:=by omega
    by_cases D:(((M).getD (a.x).toNat default)).kind=1
    .by_cases d2:(((M).getD (a.y).toNat default)).kind=1
     .have e:fcB a M=⟨a.pc,a.len,M,1,0,0,if a.fin=3/\(((M).getD (a.x).toNat default)).k=(((M).getD (a.y).toNat default)).k\/a.fin=4/\(((M).getD (a.x).toNat default)).k< (((M).getD (a.y).toNat default)).k then a.k else a.pc+a.len⟩:=by unfold fcB;rw [if_neg ah,if_pos ⟨A,D,d2⟩]
      have r1:=bB.2 (fi a.x m.1 ah D);have r2:=bB.2 (fi a.y s.1 ah d2);rw [e];simp (disch:=omega) only [RR,RB,B,c,r,A,D,d2,mkB,C _ m,t _ m,C _ s,t _ s,U5,r1,r2,decide_true,decide_false,Bool.true_and,Bool.and_true,Bool.and_false];refine⟨m.1,ah,m.1,ah,s.1,ah,s.1,ah,λg=> ?_,λg=> ?_⟩
      .rw [if_neg ah];rfl
      .rw [if_pos ah];rfl
     .rw [G ah ah];simp (disch:=omega) only [RR,RB,B,c,r,A,D,d2,mkB,C _ m,t _ m,C _ s,t _ s,decide_true,decide_false,Bool.true_and,Bool.and_true,Bool.and_false];rfl
    .rw [G ah ah];simp (disch:=omega) only [RR,RB,B,c,r,A,D,mkB,C _ m,t _ m,decide_true,decide_false,Bool.true_and,Bool.and_true,Bool.and_false];rfl
def ax0{p1 f1 p2 f2 p3 f3}(I:Y99 p1 f1)(P:Y98 p2 f2)(O:Y60 p3 f3)(b:Blk)(Z:b.ops.length<1000000):aie.F (p1,f1,p2,f2,p3,f3,()) (b,()) (λy=>y=(bK b,())):=by
 dsimp only [aie,gm];simp (disch:=omega) only [RR,RB,I b ah,O b ah,jw];refine⟨λh=>by unfold bK;rw [h,if_neg (by decide)];rfl,λh=> ?_⟩;have ok:=aF.1 h;rw [Td ok];have V:=ok.sz;refine⟨ah,ah,ay (λ(y:List IOp×Int×Int×Blk×Int×Int×Int×Int×Int×Int×wm)=>y.1=b.ops/\y.2.1=b.ops.length/\0<=y.2.2.1/\y.2.2.1<=b.ops.length/\y.2.2.2.1=b/\y.2.2.2.2.2.2.2.2.2.2=((cpS b.ops y.2.2.1.toNat).1++(replicate b.ops.length (0:Int)).drop y.2.2.1.toNat,(cpS b.ops y.2.2.1.toNat).2,())) (λy=>((b.ops.length:Int)-y.2.2.1).toNat) ⟨rfl,rfl,by dsimp only;omega,by dsimp only;omega,rfl,rfl⟩ ?_⟩;rintro⟨(K:List IOp),(n:Int),(k:Int),(a:Blk),u1,u2,u3,u4,u5,u6,(nm:List Int),(la:List Int),⟨⟩⟩ hI;dsimp only at hI ⊢;simp only [Prod.mk.injEq,and_true]at hI;obtain⟨rfl,rfl,J,X,rfl,rfl,rfl⟩:=hI;obtain⟨H,l2⟩:=tK a.ops k.toNat;have p:(replicate a.ops.length (0:Int)).length=a.ops.length:=length_replicate;have C:=AX (l:=replicate a.ops.length (0:Int)) H ah;by_cases c:k<a.ops.length
 .have o:=ok.op k J c;have nx:cpS a.ops (k+1).toNat=((cpS a.ops k.toNat).1++ [cpN (cpS a.ops k.toNat) k ((a.ops).getD (k).toNat default)],cpL (cpS a.ops k.toNat) k ((a.ops).getD (k).toNat default)):=by
   rw [show(k+1).toNat=k.toNat+1 by omega,show k=((k.toNat:Nat):Int) by omega];rfl
  have s:=λ(q:Int)=>AV (x:=q) (l:=replicate a.ops.length (0:Int)) H ah
  have t:∀q r:Int,(((cpS a.ops k.toNat).1++ [q])++(replicate a.ops.length (0:Int)).drop (k.toNat+1)).set k.toNat r=((cpS a.ops k.toNat).1++ [r])++(replicate a.ops.length (0:Int)).drop (k.toNat+1):=λq r=>by simp_all
  have D:∀q:Int,(((cpS a.ops k.toNat).1++ [q])++(replicate a.ops.length (0:Int)).drop (k.toNat+1)).length=a.ops.length:=λq=>by grind
  have Q:∀(q x:Int),0<=x->x<k->(((((cpS a.ops k.toNat).1++ [q])++(replicate a.ops.length (0:Int)).drop (k.toNat+1))).getD (x).toNat default)=(((cpS a.ops k.toNat).1).getD (x).toNat default):=λq x W x1=>by grind
  have F:=o.k2;have L:=λf:(((a.ops).getD (k).toNat default)).kind=8=>o.x1 (by unfold hX;omega)
  generalize u:((a.ops).getD (k).toNat default)=q at*;generalize A:cpS a.ops (k+1).toNat=T at*;generalize cpS a.ops k.toNat=S at*;have Y:∀i:Int,0<=i->i<S.2.length->S.2.set i.toNat ((S.2).getD (i).toNat default)=S.2:=λi i0 i1=>by simp_all
  have G:∀v w,v=cpN S k q->w=cpL S k q->((S.1++ [v])++(replicate a.ops.length (0:Int)).drop (k.toNat+1),w,())=(T.1++(replicate a.ops.length (0:Int)).drop (k+1).toNat,T.2,()):=λv w e1 e2=>by grind
  by_cases e:q.kind=2
  .have kk:=F (Or.inl e);by_cases j:0<=((S.2).getD (q.k).toNat default)
   .have g:=G (((S.2).getD (q.k).toNat default)) S.2 (by unfold cpN;rw [if_pos ⟨e,j⟩]) (by unfold cpL;rw [if_pos e,if_pos j]);simp (disch:=omega) only [RR,RB,C,s,t,D,p,c,u,eq_true e,eq_true j,A,g,decide_true,decide_false,Bool.true_and,Bool.and_true,Bool.and_false,Bool.false_and,false_and];omega
   .have g:=G k (S.2.set q.k.toNat k) (by unfold cpN;rw [if_neg (λq=>j q.2)]) (by unfold cpL;rw [if_pos e,if_neg j]);simp (disch:=omega) only [RR,RB,C,s,t,D,p,c,u,eq_true e,j,A,g,decide_true,decide_false,Bool.true_and,Bool.and_true,Bool.and_false,Bool.false_and,false_and];omega
  .by_cases f:q.kind=8
   .have kk:=F (Or.inr f);have v:=L f;have v0:=v.1;have v1:=v.2.1;have g:=G k (S.2.set q.k.toNat ((S.1).getD (q.x).toNat default)) (by unfold cpN;rw [if_neg (λq=>e q.1)]) (by unfold cpL;rw [if_neg e,if_pos f]);simp (disch:=omega) only [RR,RB,C,s,t,D,Q,p,c,u,e,eq_true f,A,g,decide_true,decide_false,Bool.true_and,Bool.and_true,Bool.and_false,Bool.false_and,false_and];omega
   .have g:=G k S.2 (by unfold cpN;rw [if_neg (λq=>e q.1)]) (by unfold cpL;rw [if_neg e,if_neg f]);simp (disch:=omega) only [RR,RB,C,s,t,D,p,c,u,e,f,A,g,decide_true,decide_false,Bool.true_and,Bool.and_true,Bool.and_false,Bool.false_and,false_and];omega
 .have z:(cpS a.ops k.toNat).1++(replicate a.ops.length (0:Int)).drop k.toNat=(cpS a.ops a.ops.length).1:=by
   rw [drop_of_length_le (by rw [p];omega),append_nil,show k.toNat=a.ops.length by omega]
  have B:=ok.en;have R:anh (cpS a.ops a.ops.length).1 a.fin a.x a.y a.ops:=by
   obtain⟨E,q2⟩:=tK a.ops a.ops.length;refine⟨λm M U=> ?_,λd=> ?_,λd=> ?_,ah⟩
   .have o:=ok.op m M U;rw [E];exact⟨λd=>⟨(o.x1 d).1,by have:=(o.x1 d).2.1;omega⟩,λd=>⟨(o.y1 d).1,by have:=(o.y1 d).2.1;omega⟩⟩
   .rw [E];exact⟨(B.x1 d).1,(B.x1 d).2.1⟩
   .rw [E];exact⟨(B.y1 d).1,(B.y1 d).2.1⟩
  rw [z];generalize (cpS a.ops a.ops.length).1=N at*;simp (disch:=omega) only [RR,RB,c,I a ah,P N a.pc a.len a.fin a.x a.y a.k a.ops R];rfl
def ax1{p1 f1 p2 f2}(B:Y54 p1 f1)(A:Y53 p2 f2)(b:Blk)(ok:bQ b):ah8.F (p1,f1,p2,f2,()) (b,()) (λy=>y=(us b b.ops.length,())):=by
 have C:=ok.sz;have t:=ok.en;have m:¬b.fin=1->0<=b.x/\b.x<b.ops.length:=λc=>by have:=t.x1 c;exact⟨this.1,this.2.1⟩
 have l:3<=b.fin->0<=b.y/\b.y<b.ops.length:=λc=>by have:=t.y1 c;exact⟨this.1,this.2.1⟩
 dsimp only [ah8,gm];simp (disch:=omega) only [RR,RB,B,length_replicate,length_set,Int.toNat_natCast];refine⟨ah,ah,λc=>⟨(m c).1,(m c).2,(m c).1,(m c).2,λd=>⟨(l d).1,(l d).2,(l d).1,(l d).2,?_⟩,λd=> ?_⟩,λc=>⟨λd=>⟨(l d).1,(l d).2,(l d).1,(l d).2,?_⟩,λd=> ?_⟩⟩
 all_goals
  refine ay (λ(y:Int×Blk×I4)=> -1<=y.1/\y.1<b.ops.length/\y.2.1=b/\y.2.2.1=us b (b.ops.length-1-y.1).toNat) (λy=>(y.1+1).toNat) ⟨by dsimp only;omega,by dsimp only;omega,rfl,?_⟩ ?_
  .dsimp only;rw [show(b.ops.length-1- ((b.ops.length:Int)-1)).toNat=0 by omega];show _=us0 b;unfold us0;dsimp only
   first
    | rw [if_neg (show¬b.fin=1 from c),if_pos (show 3<=b.fin from d)]
    | rw [if_neg (show¬b.fin=1 from c),if_neg (show¬3<=b.fin from d)]
    | (rw [if_pos (show b.fin=1 from Classical.byContradiction c),if_pos (show 3<=b.fin from d)])
    | (rw [if_pos (show b.fin=1 from Classical.byContradiction c),if_neg (show¬3<=b.fin from d)])
  rintro⟨(j:Int),(a:Blk),(D:List Bool),⟨⟩⟩ hI;dsimp only at hI ⊢;obtain⟨E,f,rfl,rfl⟩:=hI;have s:=zq a (a.ops.length-1-j).toNat;have i:0<=j->us a (a.ops.length-1- (j-1)).toNat=usO ((a.ops).getD (j).toNat default) j.toNat (us a (a.ops.length-1-j).toNat):=λg=>by
   rw [show(a.ops.length-1- (j-1)).toNat=(a.ops.length-1-j).toNat+1 by omega];show usO (a.ops.getD (a.ops.length-1- (a.ops.length-1-j).toNat) default) (a.ops.length-1- (a.ops.length-1-j).toNat) _=_;rw [show a.ops.length-1- (a.ops.length-1-j).toNat=j.toNat by omega]
  have r:¬0<=j->us a (a.ops.length-1-j).toNat=us a a.ops.length:=λg=>by rw [show(a.ops.length-1-j).toNat=a.ops.length by omega]
  generalize us a (a.ops.length-1-j).toNat=U at i r s ⊢;by_cases g:0<=j
  .have o:=ok.op j g f;have i:=i g;have n:=λc:hX ((a.ops).getD (j).toNat default)=>(o.x1 c)
   have k:=λc:hY ((a.ops).getD (j).toNat default)=>(o.y1 c)
   unfold usO at i;generalize v:((a.ops).getD (j).toNat default)=q at*;have u:∀x:Bool,(U.set j.toNat x).getD j.toNat default=x:=λx=>by rw [getD_lt (by rw [length_set];omega),getElem_set_self]
   simp (disch:=omega) only [RR,RB,A,s,length_set,u,v,g,eq_true g];rw [i];by_cases w:(U.getD j.toNat default || decide (4<=q.kind))=true
   .have w2:U.getD j.toNat default=true\/4<=q.kind:=by rw [Bool.or_eq_true,decide_eq_true_eq]at w;exact w
    rw [if_pos w,w];refine⟨f,f,f,f,f,f,f,λe=> ?_,λ_=>⟨λe=>⟨(n e).1,by have:=(n e).2.1;omega,(n e).1,by have:=(n e).2.1;omega,λh=>⟨(k h).1,by have:=(k h).2.1;omega,(k h).1,by have:=(k h).2.1;omega,⟨ah,ah,?_⟩,ah⟩,λh=>⟨⟨ah,ah,?_⟩,ah⟩⟩,λe=>⟨λh=>⟨(k h).1,by have:=(k h).2.1;omega,(k h).1,by have:=(k h).2.1;omega,⟨ah,ah,?_⟩,ah⟩,λh=>⟨⟨ah,ah,?_⟩,ah⟩⟩⟩⟩
    .rcases w2 with w2 | w2
     .rw [e.1]at w2;cases w2
     .exact absurd w2 e.2
    all_goals dsimp only
    .rw [if_pos e,if_pos h]
    .rw [if_pos e,if_neg h]
    .rw [if_neg e,if_pos h]
    .rw [if_neg e,if_neg h]
   .have w1:(U.getD j.toNat default || decide (4<=q.kind))=false:=by simpa using w
    rw [if_neg w,w1];have p:U.getD j.toNat default=false:=by rw [Bool.or_eq_false_iff]at w1;exact w1.1
    have z:U.set j.toNat false=U:=by rw [<-p,getD_lt (show j.toNat<U.length by omega),set_getElem_self]
    refine⟨f,f,f,f,f,f,f,λ_=>⟨⟨ah,ah,z⟩,ah⟩,λe=> ?_⟩;exfalso;rcases e with e | e
    .rw [p]at e;cases e
    .rw [decide_eq_true e,Bool.or_true]at w;exact w rfl
  .simp (disch:=omega) only [RR,RB,g,eq_false g,r g]
def ani(j:Nat)(D:List Bool)(v:Bool):(replicate (j+1) false++D).set j v=replicate j false++v::D:=by
 rw [replicate_succ',append_assoc,set_append_right _ _ (by rw [length_replicate];exact Nat.le_refl _),length_replicate,Nat.sub_self];rfl
def aiY(j:Nat)(D:List Bool)(u v:Bool):(replicate j false++u::D).set j v=replicate j false++v::D:=by
 rw [set_append_right _ _ (by rw [length_replicate];exact Nat.le_refl _),length_replicate,Nat.sub_self];rfl
theorem ax2{p1 f1 p2 f2}(J:Y80 p1 f1)(G:Y60 p2 f2)(b:Blk)(P:b.ops.length<1000000):aia.F (p1,f1,p2,f2,()) (b,()) (λy=>y=(jA b,())):=by
 dsimp only [aia,gm];simp (disch:=omega) only [RR,RB,G b ah,Int.toNat_natCast];refine⟨λh=>by unfold jA;rw [h,if_neg (by decide)];rfl,λh=> ?_⟩;have ok:=aF.1 h;rw [S9 ok];have M:=ok.sz;have L:(fD b.ops).length=b.ops.length:=by unfold fD;rw [length_map,length_range]
 refine⟨ah,ah,ah,ah,ay (λ(y:Int×Blk×Int×Int×Int×Int×Int×Int×List Bool×I4)=> -1<=y.1/\y.1<b.ops.length/\y.2.1=b/\y.2.2.2.2.2.2.2.2.1=replicate (y.1+1).toNat false++(fD b.ops).drop (y.1+1).toNat/\y.2.2.2.2.2.2.2.2.2.1.length=4/\∀r:Int,0<=r->r<=3->((y.2.2.2.2.2.2.2.2.2.1).getD (r).toNat default)=lD (b.ops.drop (y.1+1).toNat) r) (λy=>(y.1+1).toNat) ⟨by dsimp only;omega,by dsimp only;omega,rfl,?_,rfl,λr i k=> ?_⟩ ?_⟩
 .dsimp only;rw [show((b.ops.length:Int)-1+1).toNat=b.ops.length by omega,drop_of_length_le ah,append_nil]
 .dsimp only;rw [show((b.ops.length:Int)-1+1).toNat=b.ops.length by omega,drop_of_length_le ah];rcases(by omega:r=0\/r=1\/r=2\/r=3)with h | h | h | h<;>subst h<;>rfl
 rintro⟨(j:Int),(a:Blk),u1,u2,u3,u4,u5,u6,(O:List Bool),(N:List Bool),⟨⟩⟩ hI;dsimp only at hI ⊢;obtain⟨S,m,rfl,rfl,D,n⟩:=hI;by_cases c:0<=j
 .have o:=ok.op j c m;have I:(j+1).toNat=j.toNat+1:=by omega
  have Q:fD a.ops=fD a.ops:=rfl;have F:(fD a.ops).drop j.toNat=(!(decide ((((a.ops).getD (j).toNat default)).kind=8)&&lD (a.ops.drop (j.toNat+1)) (((a.ops).getD (j).toNat default)).k))::(fD a.ops).drop (j.toNat+1):=by
   rw [drop_eq_getElem_cons (show j.toNat< (fD a.ops).length by omega),<-getD_lt (d:=default) (show j.toNat< (fD a.ops).length by omega),AP ah]
  have s:∀r,lD (a.ops.drop j.toNat) r=if(((a.ops).getD (j).toNat default)).kind=4\/(((a.ops).getD (j).toNat default)).kind=5\/(((a.ops).getD (j).toNat default)).kind=2/\(((a.ops).getD (j).toNat default)).k=r then false else if(((a.ops).getD (j).toNat default)).kind=8/\(((a.ops).getD (j).toNat default)).k=r then true else lD (a.ops.drop (j.toNat+1)) r:=λr=>by
   rw [drop_eq_getElem_cons (show j.toNat<a.ops.length by omega),Ka,<-getD_lt (d:=default) (show j.toNat<a.ops.length by omega)]
  rw [I]at n ⊢;have A:=o.k2;have x:∀v:Bool,(replicate j.toNat false++v::(fD a.ops).drop (j.toNat+1)).length=a.ops.length:=λv=>by rw [length_append,length_replicate,length_cons,length_drop];omega
  have w:(replicate (j.toNat+1) false++(fD a.ops).drop (j.toNat+1)).length=a.ops.length:=by rw [length_append,length_replicate,length_drop];omega
  generalize C:((a.ops).getD (j).toNat default)=q at*;simp (disch:=omega) only [RR,RB,w,x,ani,aiY,D,C,c,eq_true c,length_set];simp only [Int.sub_add_cancel];have K:∀v,v=(!(decide (q.kind=8)&&lD (a.ops.drop (j.toNat+1)) q.k))->replicate j.toNat false++v::(fD a.ops).drop (j.toNat+1)=replicate j.toNat false++(fD a.ops).drop j.toNat:=λv e=>by rw [F,e]
  have E:∀r:Int,0<=r->r<=3->(((replicate 4 false)).getD (r).toNat default)=false:=λr i k=>by
   rcases(by omega:r=0\/r=1\/r=2\/r=3)with h | h | h | h<;>subst h<;>rfl
  have f:=λg=>A g
  refine⟨m,m,m,λl=> ?_,λl=>⟨λB=> ?_,λB=> ?_⟩⟩
  .have f:=A (Or.inr l);refine⟨f.1,ah,f.1,ah,m,m,f.1,ah,f.1,ah,⟨ah,ah,K _ ?_,λr i k=> ?_⟩,ah⟩
   .rw [n _ f.1 f.2,decide_eq_true l,Bool.true_and]
   .rw [s,rG i f.1 ah];by_cases g:r=q.k
    .rw [if_pos g,if_neg ah,if_pos ⟨l,g.symm⟩]
    .rw [if_neg g,n r i k,if_neg ah,if_neg (λq=>g q.2.symm)]
  .have f:=A (Or.inl B);refine⟨f.1,ah,f.1,ah,⟨ah,ah,K _ ?_,λr i k=> ?_⟩,ah⟩
   .rw [decide_eq_false l,Bool.false_and];rfl
   .rw [s,rG i f.1 ah];by_cases g:r=q.k
    .rw [if_pos g,if_pos ah]
    .rw [if_neg g,n r i k,if_neg ah,if_neg (λq=>l q.1)]
  .have kv:=K true (by rw [decide_eq_false l,Bool.false_and];rfl);have p:q.kind=4\/q.kind=5->∀r:Int,0<=r->r<=3->(((replicate 4 false)).getD (r).toNat default)=lD (a.ops.drop j.toNat) r:=λg r i k=>by rw [E r i k,s,if_pos ah]
   have H:¬q.kind=4->¬q.kind=5->∀r:Int,0<=r->r<=3->((N).getD (r).toNat default)=lD (a.ops.drop j.toNat) r:=λT U r i k=>by rw [n r i k,s,if_neg ah,if_neg (λq=>l q.1)]
   refine⟨λt=>⟨λ_=>⟨⟨ah,ah,kv,rfl,p (Or.inl t)⟩,ah⟩,λg=>absurd t g⟩,λt=>⟨λu=>⟨⟨ah,ah,kv,rfl,p (Or.inr u)⟩,ah⟩,λu=>⟨⟨ah,ah,kv,H t u⟩,ah⟩⟩⟩
 .have z:(j+1).toNat=0:=by omega
  rw [z];have R:replicate 0 false++(fD a.ops).drop 0=fD a.ops:=rfl;rw [R];simp (disch:=omega) only [RR,RB,c,eq_false c,J _ _ ok L];rfl
abbrev aAd(c:iK->Bool)(a:iK->I4):Prop:=∀b,bQ b->c (b,())=true/\a (b,())=(us b b.ops.length,())
def ax3{p1 f1 p2 f2 p3 f3}(c:Y80 p1 f1)(d:aAd p2 f2)(e:Y60 p3 f3)(b:Blk)(f:b.ops.length<1000000):ah9.F (p1,f1,p2,f2,p3,f3,()) (b,()) (λy=>y=(gU b,())):=by
 dsimp only [ah9,gm];simp (disch:=omega) only [RR,RB,e b ah];refine⟨λh=>by unfold gU;rw [h,if_neg (by decide)];rfl,λh=> ?_⟩;have ok:=aF.1 h;have a:=zq b b.ops.length;rw [Ta ok,(d b ok).2,(c _ _ ok a).2];exact⟨(d b ok).1,(c _ _ ok a).1,rfl⟩
abbrev aAe(c:iK->Bool)(a:iK->iK):Prop:=∀b,b.ops.length<1000000->c (b,())=true/\a (b,())=(bK b,())
abbrev aAf(c:iK->Bool)(a:iK->iK):Prop:=∀b,b.ops.length<1000000->c (b,())=true/\a (b,())=(gU b,())
abbrev aAg(c:iK->Bool)(a:iK->iK):Prop:=∀b,b.ops.length<1000000->c (b,())=true/\a (b,())=(jA b,())
def ax4{p1 f1 p2 f2 p3 f3 p4 f4}(h:Y73 p1 f1)(i:aAe p2 f2)(a:aAf p3 f3)(g:aAg p4 f4)(b:Blk)(f:b.ops.length<1000000):aif.F (p1,f1,p2,f2,p3,f3,p4,f4,()) (b,()) (λy=>y=(o7 b,())):=by
 have e:(bK b).ops.length<1000000:=Nat.lt_of_le_of_lt (wG b) f;have c:=Nat.lt_of_le_of_lt (zu (bK b)) e;have d:=Nat.lt_of_le_of_lt (wF (dA (bK b))) c;have j:=Nat.lt_of_le_of_lt (CK (gU (dA (bK b)))) d;dsimp only [aif,gm];simp (disch:=omega) only [RR,i b f,h _ e,a _ c,g _ d,a _ j];rfl
def asv(a b:Blk)(m:a.ops.length<1000000000):X6.F () (a,b,()) (λy=>y=(bp (a=b),())):=by
 dsimp only [X6,gm];simp (disch:=omega) only [RR,RB];refine⟨λh=> ?_,λh=> ?_⟩
 .rw [aT];rintro rfl;simp at h
 have f:a.ops.length=b.ops.length:=by omega
 refine ay (λ(y:Int×aAO)=>y.2.1=a/\y.2.2.1=b/\0<=y.1/\y.1<=a.ops.length/\All y.1 (λi=>a.ops.getD i.toNat default=b.ops.getD i.toNat default)) (λy=>(a.ops.length-y.1).toNat) ⟨rfl,rfl,by simp,by simp,All.zero⟩ ?_;rintro⟨(i:Int),(j:Blk),(k:Blk),⟨⟩⟩ hI;dsimp only at hI ⊢;obtain⟨rfl,rfl,n,l,d⟩:=hI;simp (disch:=omega) only [RR,RB,aiX];refine⟨λg=>⟨ah,ah,ah,ah,λc=> ?_,λc=>⟨⟨ah,ah,d.snoc c⟩,ah⟩⟩,λg=> ?_⟩
 .rw [aT];rintro rfl;exact c rfl
 .have e:=kV f (d.le ah);rw [aI];cases j;cases k;simp_all
abbrev ax5(c:iK->Bool)(a:iK->iK):Prop:=∀b,b.ops.length<1000000->c (b,())=true/\a (b,())=(o7 b,())
variable{l:List Cer}
def ShC(l:List Cer):Prop:=l.length<1000/\∀q∈l,q.base.ops.length<1000000/\q.made.ops.length<1000000
def GJ(l:List Cer)(b c:Blk):Prop:=∃q∈l,q.base=b/\q.made=c
def jY(l:List Cer):Prop:=l.length<=3/\∀q∈l,chk q.base q.made=true
def ShC.at(h:ShC l)(i:Nat):(l.getD i default).base.ops.length<1000000/\(l.getD i default).made.ops.length<1000000:=by
 by_cases c:i<l.length
 .rw [getD_lt c];exact h.2 _ (getElem_mem _)
 .rw [getD_eq_getElem?_getD,getElem?_eq_none ah];exact⟨by decide,by decide⟩
def ShC.add(h:ShC l)(n:l.length<999){q:Cer}(b:q.base.ops.length<1000000)(a:q.made.ops.length<1000000):ShC (l++ [q]):=by
 refine⟨by rw [length_append,length_singleton];omega,λc g=> ?_⟩;rw [mem_append,mem_singleton]at g;rcases g with g | rfl
 .exact h.2 c g
 .exact⟨b,a⟩
def ShD(l:List Cer):Prop:=l.length<1000000000/\∀q∈l,q.base.ops.length<1000000000/\q.made.ops.length<1000000000
def ShC.d(h:ShC l):ShD l:=⟨by have:=h.1;omega,λq g=>by have:=h.2 q g;omega⟩
def ShD.at(h:ShD l)(i:Nat):(l.getD i default).base.ops.length<1000000000/\(l.getD i default).made.ops.length<1000000000:=by
 by_cases c:i<l.length
 .rw [getD_lt c];exact h.2 _ (getElem_mem _)
 .rw [getD_eq_getElem?_getD,getElem?_eq_none ah];exact⟨by decide,by decide⟩
def CRB:(∀q:Cer,cO .cer 0 q=q.base.pc)/\(∀q:Cer,cO .cer 1 q=q.base.len)/\(∀q:Cer,jQ .cer 2 .iop q=q.base.ops)/\(∀q:Cer,cO .cer 3 q=q.base.fin)/\(∀q:Cer,cO .cer 4 q=q.base.x)/\(∀q:Cer,cO .cer 5 q=q.base.y)/\(∀q:Cer,cO .cer 6 q=q.base.k)/\
  (∀q:Cer,cO .cer 7 q=q.made.pc)/\(∀q:Cer,cO .cer 8 q=q.made.len)/\(∀q:Cer,jQ .cer 9 .iop q=q.made.ops)/\(∀q:Cer,cO .cer 10 q=q.made.fin)/\(∀q:Cer,cO .cer 11 q=q.made.x)/\(∀q:Cer,cO .cer 12 q=q.made.y)/\(∀q:Cer,cO .cer 13 q=q.made.k)/\
  (∀x,Co.mk .blk x=⟨x.1,x.2.1,x.2.2.1,x.2.2.2.1,x.2.2.2.2.1,x.2.2.2.2.2.1,x.2.2.2.2.2.2.1⟩):=
 ⟨λ_=>rfl,λ_=>rfl,λ_=>rfl,λ_=>rfl,λ_=>rfl,λ_=>rfl,λ_=>rfl,λ_=>rfl,λ_=>rfl,λ_=>rfl,λ_=>rfl,λ_=>rfl,λ_=>rfl,λ_=>rfl,λ_=>rfl⟩
def Ih{α:Type}{d:α}{l:List α}{i:Nat}{G:α->Prop}(h:i<l.length):(∃q∈l.take (i+1),G q)↔(∃q∈l.take i,G q)\/G (l.getD i d):=by
 rw [take_succ_eq_append_getElem h,getD_lt h];constructor
 .rintro⟨q,a,h2⟩;rw [mem_append,mem_singleton]at a;rcases a with a | rfl
  .exact Or.inl ⟨q,a,h2⟩
  .exact Or.inr h2
 .rintro(⟨q,a,h2⟩ | h)
  .exact⟨q,mem_append_left _ a,h2⟩
  .exact⟨_,mem_append_right _ (mem_singleton.2 rfl),h⟩
theorem ax6{p1 f1}(a:Y94 p1 f1)(q:Cer)(b c:Blk)(e:q.base.ops.length<1000000000)(d:q.made.ops.length<1000000000):ahS.F (p1,f1,()) (q,b,c,()) (λy=>y=(bp (q.base=b/\q.made=c),b,c,())):=by
 have mE:∀c:Blk,Co.mk .blk (c.pc,c.len,c.ops,c.fin,c.x,c.y,c.k,())=c:=λ_=>rfl
 dsimp only [ahS,gm,jo];simp (disch:=omega) only [RR,CRB,mE,a _ b e,a _ c d,fH]
theorem ax7{p1 f1}(a:Y96 p1 f1)(q:Cer)(d:q.base.ops.length<1000000000)(b:q.made.ops.length<1000000000):ahR.F (p1,f1,()) (q,()) (λy=>y=(!chk q.base q.made,())):=by
 have mE:∀c:Blk,Co.mk .blk (c.pc,c.len,c.ops,c.fin,c.x,c.y,c.k,())=c:=λ_=>rfl
 dsimp only [ahR,gm,jo];simp (disch:=omega) only [RR,CRB,mE,a _ _ d b]
def asw{o:Cer×aAO->Bool}{m:Cer×aAO->Bool×aAO}(r:∀q b c,q.base.ops.length<1000000000->q.made.ops.length<1000000000->o (q,b,c,())=true/\m (q,b,c,())=(bp (q.base=b/\q.made=c),b,c,()))(l:List Cer)(b c:Blk)(h:ShC l):XK.F (o,m,()) (l,b,c,()) (λy=>y.2=(b,c,())/\(0<=y.1↔GJ l b c)):=by
 have t:=h.1;dsimp only [XK,gm];simp (disch:=omega) only [RR];refine ay (λ(y:List Cer×Int×Int×aAO)=>y.1=l/\y.2.1=l.length/\0<=y.2.2.1/\y.2.2.1<=l.length/\y.2.2.2.1=b/\y.2.2.2.2.1=c/\¬GJ (l.take y.2.2.1.toNat) b c) (λy=>(l.length-y.2.2.1).toNat) ⟨rfl,rfl,by simp,by simp,rfl,rfl,by rintro⟨q,h,_⟩;cases h⟩ ?_;rintro⟨(p:List Cer),(n:Int),(i:Int),(k:Blk),(j:Blk),⟨⟩⟩ hI;dsimp only at hI ⊢;obtain⟨rfl,rfl,d,s,rfl,rfl,f⟩:=hI;have a:=h.at i.toNat;simp (disch:=omega) only [RR,r _ k j (show(((p).getD (i).toNat default)).base.ops.length<1000000000 by omega) (show(((p).getD (i).toNat default)).made.ops.length<1000000000 by omega),aF,gI];refine⟨λg=>⟨d,g,λe=> ?_,λe=>⟨⟨ah,ah,?_⟩,ah⟩⟩,λg=> ?_⟩
 .exact⟨λ_=>⟨_,bV d g,e⟩,λ_=>d⟩
 .rw [show(i+1).toNat=i.toNat+1 by omega];exact λx=>((Ih (G:=λq:Cer=>q.base=k/\q.made=j) ah).1 x).elim f e
 .rw [take_of_length_le ah]at f;exact⟨λx=>absurd x (by decide),λx=>absurd x f⟩
def asx{f:Cer×Unit->Bool}{d:Cer×Unit->fA}(k:∀q,q.base.ops.length<1000000000->q.made.ops.length<1000000000->f (q,())=true/\d (q,())=(!chk q.base q.made,()))(l:List Cer)(h:ShD l):XL.F (f,d,()) (l,()) (λy=>0<=y.1↔∃q∈l,chk q.base q.made=false):=by
 have o:=h.1;dsimp only [XL,gm];simp (disch:=omega) only [RR];refine ay (λ(y:List Cer×ni)=>y.1=l/\y.2.1=l.length/\0<=y.2.2.1/\y.2.2.1<=l.length/\¬∃q∈l.take y.2.2.1.toNat,chk q.base q.made=false) (λy=>(l.length-y.2.2.1).toNat) ⟨rfl,rfl,by simp,by simp,by rintro⟨q,h,_⟩;cases h⟩ ?_;rintro⟨(j:List Cer),(n:Int),(i:Int),⟨⟩⟩ hI;dsimp only at hI ⊢;obtain⟨rfl,rfl,b,m,c⟩:=hI;have a:=h.at i.toNat;simp (disch:=omega) only [RR,k _ (show(((j).getD (i).toNat default)).base.ops.length<1000000000 by omega) (show(((j).getD (i).toNat default)).made.ops.length<1000000000 by omega)];refine⟨λg=>⟨b,g,λe=> ?_,λe=>⟨⟨ah,ah,?_⟩,ah⟩⟩,λg=> ?_⟩
 .exact⟨λ_=>⟨_,bV b g,e⟩,λ_=>b⟩
 .rw [show(i+1).toNat=i.toNat+1 by omega];exact λx=>((Ih (G:=λq:Cer=>chk q.base q.made=false) ah).1 x).elim c (λz=>by rw [e]at z;cases z)
 .rw [take_of_length_le ah]at c;exact⟨λx=>absurd x (by decide),λx=>absurd x c⟩
def asy{d:aBd->Bool}{a:aBd->Int×aAO}(e:∀l b c,ShC l->d (l,b,c,())=true/\((a (l,b,c,())).2=(b,c,())/\(0<=(a (l,b,c,())).1↔GJ l b c)))(l:List Cer)(b c:Blk)(h:ShC l):XM.F (d,a,()) (l,b,c,()) (λy=>y=(bp (GJ l b c),b,c,())):=by
 obtain⟨f,i⟩:=(e l b c h).2;have g:(a (l,b,c,())).2.1=b:=congrArg Prod.fst f;have j:(a (l,b,c,())).2.2.1=c:=congrArg (λz=>z.2.1) f;dsimp only [XM,gm];simp (disch:=omega) only [RR,(e l b c h).1,g,j,nU,ig i]
def asz{a:mQ->Bool}{b:mQ->dY}(c:∀l,ShD l->a (l,())=true/\((0<=(b (l,())).1↔∃q∈l,chk q.base q.made=false)))(l:List Cer)(h:ShD l):XO.F (a,b,()) (l,()) (λy=>y=(bp (∃q∈l,chk q.base q.made=false),())):=by
 dsimp only [XO,gm];simp (disch:=omega) only [RR,(c l h).1,nU,ig ((c l h).2)]
def ax8{a:aBd->Bool}{d:aBd->Bool×aAO}(e:∀l b c,ShC l->a (l,b,c,())=true/\d (l,b,c,())=(bp (GJ l b c),b,c,()))(l:List Cer)(b c:Blk)(h:ShC l):aij.F (a,d,()) (l,b,c,()) (λy=>y=(bp (GJ l b c),())):=by
 dsimp only [aij,gm];simp (disch:=omega) only [RR,e l b c h]
def ax9{b:mQ->Bool}{f:mQ->fA}(k:∀l,ShD l->b (l,())=true/\(f (l,())=(bp (∃q∈l,chk q.base q.made=false),())))(l:List Cer)(h:ShD l):ahT.F (b,f,()) (l,()) (λy=>y=(bp (jY l),())):=by
 dsimp only [ahT,gm];simp (disch:=omega) only [RR,k l h];have e:(!bp (∃q∈l,chk q.base q.made=false))=bp (∀q∈l,chk q.base q.made=true):=by
  by_cases c:∃q∈l,chk q.base q.made=false
  .rw [aI c,aT]; · rfl
   intro g;obtain⟨q,a,i⟩:=c;rw [g q a]at i;cases i
  .rw [aT c,aI]; · rfl
   intro q a;by_cases d:chk q.base q.made=true
   .exact d
   .exact absurd ⟨q,a,by simpa using d⟩ c
 rw [e,nU,<-fH];exact Prod.ext (ig (by unfold jY;constructor<;>rintro⟨m,j⟩<;>exact⟨ah,j⟩)) rfl
def asA(a b:Blk)(m:a.ops.length<1000000000):YM.F () (a,b,()) (λy=>y=(bp (a=b),())):=by
 dsimp only [YM,gm];simp (disch:=omega) only [RR,RB];refine⟨λh=> ?_,λh=> ?_⟩
 .rw [aT];rintro rfl;simp at h
 have f:a.ops.length=b.ops.length:=by omega
 refine ay (λ(y:Int×aAO)=>y.2.1=a/\y.2.2.1=b/\0<=y.1/\y.1<=a.ops.length/\All y.1 (λi=>a.ops.getD i.toNat default=b.ops.getD i.toNat default)) (λy=>(a.ops.length-y.1).toNat) ⟨rfl,rfl,by simp,by simp,All.zero⟩ ?_;rintro⟨(i:Int),(j:Blk),(k:Blk),⟨⟩⟩ hI;dsimp only at hI ⊢;obtain⟨rfl,rfl,n,l,d⟩:=hI;simp (disch:=omega) only [RR,RB,aiX];refine⟨λg=>⟨ah,ah,ah,ah,λc=> ?_,λc=>⟨⟨ah,ah,d.snoc c⟩,ah⟩⟩,λg=> ?_⟩
 .rw [aT];rintro rfl;exact c rfl
 .have e:=kV f (d.le ah);rw [aI];cases j;cases k;simp_all
theorem asB{p1 f1}(n:Y94 p1 f1)(l:List Cer)(b c:Blk)(h:ShC l):ZX.F (p1,f1,()) (l,b,c,()) (λy=>y=(bp (GJ l b c),())):=by
 have p:=h.1;have mE:∀c:Blk,Co.mk .blk (c.pc,c.len,c.ops,c.fin,c.x,c.y,c.k,())=c:=λ_=>rfl
 dsimp only [ZX,gm,jo];simp (disch:=omega) only [RR];refine ay (λ(y:List Cer×Int×aAO)=>y.1=l/\0<=y.2.1/\y.2.1<=l.length/\y.2.2.1=b/\y.2.2.2.1=c/\¬GJ (l.take y.2.1.toNat) b c) (λy=>(l.length-y.2.1).toNat) ⟨rfl,by simp,by simp,rfl,rfl,by rintro⟨q,h,_⟩;cases h⟩ ?_;rintro⟨(m:List Cer),(i:Int),(f:Blk),(d:Blk),⟨⟩⟩ hI;dsimp only at hI ⊢;obtain⟨rfl,j,o,rfl,rfl,k⟩:=hI;have a:=h.at i.toNat;simp (disch:=omega) only [RR,CRB,mE,n (((m).getD (i).toNat default)).base f ah,n (((m).getD (i).toNat default)).made d ah,aF,gI];refine⟨λg=>⟨j,g,Or.inr j,Or.inr g,λe=> ?_,λe=>⟨⟨ah,ah,?_⟩,ah⟩⟩,λg=> ?_⟩
 .rw [aI (show GJ m f d from⟨_,bV j g,e⟩)]
 .rw [show(i+1).toNat=i.toNat+1 by omega];rw [<-fH]at e;exact λx=>((Ih (G:=λq:Cer=>q.base=f/\q.made=d) ah).1 x).elim k (gI.1 e)
 .rw [take_of_length_le ah]at k;rw [aT k]
abbrev aya(d:aBd->Bool)(a:aBd->fA):Prop:=∀l b c,ShC l->d (l,b,c,())=true/\a (l,b,c,())=(bp (GJ l b c),())
abbrev ayb(b:mQ->Bool)(a:mQ->fA):Prop:=∀l,ShD l->b (l,())=true/\a (l,())=(bp (jY l),())
end Go.TX.F
namespace Go.TX.F
open Go Go.AE Go.TX List
structure Ren(s:Int->Int)(t:Int->Int)(n:Int):Prop where
 rng:∀k,0<=k->k<n->0<=s k/\s k<=199
 back:∀k,0<=k->k<n->t (s k)=k
def mapM(s:Int->Int)(m:au):au:=⟨m.bN,oI (m.atoms.map s)⟩
def aiZ(b:Blk):chk b b=bp (bQ b):=by
 by_cases h:bQ b
 .rw [aI h];exact(Lk.refl h).chk
 .rw [aT h];unfold chk;exact aT λg=>h g.1
def asC{p1 f1}(e:Y13 p1 f1)(a:List (List au))(b:ShP a):Zt.F (p1,f1,()) (a,()) (λy=>y=(a,())):=by
 have d:=b.1;dsimp only [Zt,gm];refine ay (λ(y:List (List au)×Int×lX)=>y.1=a/\y.2.2.1=a.take y.2.1.toNat/\0<=y.2.1/\y.2.1<=a.length) (λy=>(a.length-y.2.1).toNat) ⟨rfl,by simp,by simp,by simp⟩ ?_;rintro⟨(l:List (List au)),(i:Int),(o:List (List au)),⟨⟩⟩ hI;dsimp only at hI ⊢;obtain⟨rfl,rfl,f,g⟩:=hI;simp (disch:=omega) only [RR,e _ (b.at _)];refine⟨λc=>⟨ah,ah,?_,⟨bg f c rfl,ah,ah⟩,ah⟩,λc=>by rw [take_of_length_le ah]⟩;have:=length_take_le' i.toNat l;simp only [length_cons,length_nil];omega
def asD(k:Int)(l:List (List au)):Zd.F () (k,l,()) (λy=>y=(if k<0\/(l.length:Int)<=k then []else((l).getD (k).toNat default),l,())):=by
 dsimp only [Zd,gm];simp (disch:=omega) only [RR];refine⟨λh=>by rw [if_pos ah],λh=>⟨ah,ah,ah,ah,by rw [if_neg ah]⟩⟩
def uD(l:List Ev)(k:Int):Int:=((l.filter λe=>decide (e.kind=k)).length:Int)
def AY(l:List Ev)(e:Ev)(k:Int):uD (l++ [e]) k=if e.kind=k then uD l k+1 else uD l k:=by
 unfold uD;rw [filter_append,length_append];by_cases c:e.kind=k
 .rw [if_pos c,filter_cons_of_pos (by simpa using c)];simp
 .rw [if_neg c,filter_cons_of_neg (by simpa using c)];simp
def asE(l:List Ev)(k:Int)(c:l.length<1000000000):Zq.F () (l,k,()) (λy=>y=(uD l k,())):=by
 dsimp only [Zq,gm];refine ay (λ(y:List Ev×aAV)=>y.1=l/\y.2.1=k/\y.2.2.1=uD (l.take y.2.2.2.1.toNat) k/\0<=y.2.2.2.1/\y.2.2.2.1<=l.length) (λy=>(l.length-y.2.2.2.1).toNat) ⟨rfl,rfl,by simp;rfl,by simp,by simp⟩ ?_;rintro⟨(l:List Ev),(k:Int),(n:Int),(i:Int),⟨⟩⟩ hI;dsimp only at hI ⊢;obtain⟨rfl,rfl,rfl,f,d⟩:=hI;have b:0<=uD (l.take i.toNat) k/\uD (l.take i.toNat) k<=i:=by
  unfold uD;have:=length_filter_le (λe:Ev=>decide (e.kind=k)) (l.take i.toNat);have:=length_take_le i.toNat l;omega
 simp (disch:=omega) only [RR,RB];refine⟨λa=>⟨ah,ah,?_⟩,λa=>by rw [take_of_length_le ah]⟩;have e:l.take (i+1).toNat=l.take i.toNat++ [((l).getD (i).toNat default)]:=by rw [show(i+1).toNat=i.toNat+1 by omega,take_succ_eq_append_getElem ah,getD_lt (show i.toNat<l.length by omega)]
 refine⟨λg=>⟨⟨?_,ah,ah⟩,ah⟩,λg=>⟨⟨?_,ah,ah⟩,ah⟩⟩
 .rw [e,AY,if_pos g]
 .rw [e,AY,if_neg g]
def asF{p1 f1 p2 f2}{a:List Ev×dY->Bool}{b:List Ev×dY->dY}(d:Y28 p1 f1)(e:Y35 p2 f2)(c:∀l k,l.length<1000000000->a (l,k,())=true/\b (l,k,())=(uD l k,()))(l:List Ev)(k:Int)(t:List Atom)(f:l.length<1000000000)(g:ShT t)(hk:aM t):Zr.F (p1,f1,p2,f2,a,b,()) (l,k,t,()) (λy=>y=((bE t ⟨if k=6 then 3 else 2,uD l k,[],[]⟩).1,iO (bE t ⟨if k=6 then 3 else 2,uD l k,[],[]⟩).2,())):=by
 have sh:∀n:Int,ShA ⟨n,uD l k,[],[]⟩:=λn=>⟨⟨by simp,λm hm=>absurd hm (by simp)⟩,⟨by simp,λm hm=>absurd hm (by simp)⟩⟩
 dsimp only [Zr,gm];simp (disch:=omega) only [RR,c l k f,e _ t (sh _) g hk,d];exact⟨λh=>by rw [if_pos h],λh=>by rw [if_neg h]⟩
def asG{p1 f1 p2 f2}(a:Y13 p1 f1)(c:Y56 p2 f2)(o:IOp)(x y:List au)(r:List (List au))(e:Sh x)(b:Sh y)(d:ShP r):Zu.F (p1,f1,p2,f2,()) (o,x,y,r,()) (λz=>z=(o.kind,o.at_,if o.kind=6 then []else x,if o.kind=5 then y else [],if o.kind=4\/o.kind=5 then r else [],())):=by
 dsimp only [Zu,gm];simp (disch:=omega) only [RR,RB,a x e,a y b,c r d];refine⟨λh=>⟨λg=> ?_,λg=> ?_⟩,λh=>⟨λg=> ?_,λg=> ?_⟩⟩
 all_goals refine⟨λk=> ?_,λk=> ?_⟩
 all_goals first | rw [if_pos h] | rw [if_neg h]
 all_goals first | rw [if_pos g] | rw [if_neg g]
 all_goals first | rw [if_pos k] | rw [if_neg ah]
def asH(s:Sym)(k:Int):Zx.F () (s,k,()) (λy=>y=(s.events,s.regs,1,k,())):=by
 dsimp only [Zx,gm];simp (disch:=omega) only [RR,RB]
def asI(b:Blk):Zv.F () (b,()) (λy=>y=(if b.fin=1 then-1 else b.x,())):=by
 dsimp only [Zv,gm];simp (disch:=omega) only [RR,RB];exact⟨λh=>by rw [if_pos h],λh=>by rw [if_neg h]⟩
def asJ(b:Blk):Zw.F () (b,()) (λy=>y=(if b.fin=1\/b.fin=2 then-1 else b.y,())):=by
 dsimp only [Zw,gm];simp (disch:=omega) only [RR,RB];exact⟨λh=>by rw [if_pos h],λh=>by rw [if_neg ah]⟩
abbrev ayc(b:Sym×dY->Bool)(a:Sym×dY->List Ev×List (List au)×ni):Prop:=∀s k,b (s,k,())=true/\a (s,k,())=(s.events,s.regs,1,k,())
def asK{p1 f1 p2 f2 p3 f3}(m:Y27 p1 f1)(q:Y8 p2 f2)(o:ayc p3 f3)(s:Sym)(n:Int)(h:ShY s)(r:aX s.x)(p:aX s.y)(j:s.fin=3\/s.fin=4):Zy.F (p1,f1,p2,f2,p3,f3,()) (s,n,()) (λy=>y=(symEnd s n,())):=by
 dsimp only [Zy,gm];simp (disch:=omega) only [RR,RB,m _ h.x,m _ h.y,q _ _ h.x,o];have z:jR s.x s.y=0↔s.x=s.y:=jO;have d:(dz s.x).2=true->(dz s.y).2=true->(dz s.x).1=(dz s.y).1->s.x=s.y:=λa b c=>(wD a).2.1.trans ((congrArg aY c).trans (wD b).2.1.symm)
 unfold symEnd;rw [aI ⟨r,p⟩,if_neg (show¬(true=false) by decide),if_neg (show¬(s.fin=2/\(dz s.x).2=true) by omega),if_neg (show¬(s.fin≠3/\s.fin≠4) by omega)];simp only [z];by_cases c:s.x=s.y
 .have l:¬(dz s.x).1< (dz s.y).1:=by rw [c];omega
  rcases j with f | f<;>simp [c,f]
 .rcases j with f | f<;>by_cases k:(dz s.x).2=true<;>by_cases i:(dz s.y).2=true<;>by_cases l:(dz s.x).1< (dz s.y).1<;>by_cases g:0<jR s.x s.y<;>simp [c,f,k,i,l,g]
  all_goals rw [if_neg λe=>c (d k i e)]
def asL{p1 f1 p2 f2 p3 f3 p4 f4 p6 f6}{r:Sym×dY->Bool}{A:Sym×dY->aBe}(C:Y27 p1 f1)(w:Y11 p2 f2)(m:Y13 p3 f3)(B:ayc p4 f4)(u:∀s n,ShY s->aX s.x->aX s.y->(s.fin=3\/s.fin=4)->r (s,n,())=true/\A (s,n,())=(symEnd s n,()))(v:Y56 p6 f6)(s:Sym)(n:Int)(j:ShY s):Zz.F (p1,f1,p2,f2,p3,f3,p4,f4,r,A,p6,f6,()) (s,n,()) (λy=>y=(symEnd s n,())):=by
 dsimp only [Zz,gm];simp (disch:=omega) only [RR,RB,w _ j.x,w _ j.y];have le:=j.e.1;have no:(bp (aX s.x)=false\/bp (aX s.y)=false)->symEnd s n=aed:=λh=>by
  unfold symEnd;rw [if_pos];rw [fH];rcases h with h | h<;>rw [h]<;>simp
 refine⟨λh=>by rw [no h];rfl,λh=> ?_⟩;have q:=aF.1 h.1;have p:=aF.1 h.2;refine ay (λ(y:Int×Int×Sym×Int×Int×List (List au)×Int×List au×List au×Int×List Ev×Unit)=>y.1=n/\y.2.2.1=s/\y.2.2.2.2.2.2.1=s.fin/\y.2.2.2.2.2.2.2.2.2.1=s.k/\0<=y.2.1/\y.2.1<=s.events.length/\y.2.2.2.2.2.2.2.2.2.2.1=s.events.take y.2.1.toNat) (λy=>(s.events.length-y.2.1).toNat) ⟨rfl,rfl,rfl,rfl,by simp,by simp,by simp⟩ ?_;rintro⟨(o:Int),(i:Int),(a:Sym),(z1:Int),(z2:Int),(z3:List (List au)),(fin:Int),(z4:List au),(G:List au),(k:Int),(ev:List Ev),⟨⟩⟩ hI;dsimp only at hI ⊢;obtain⟨rfl,rfl,rfl,rfl,t,D,rfl⟩:=hI;have E:=j.e.at i.toNat;have tl:=length_take_le' i.toNat a.events;by_cases g:i<a.events.length
 .simp (disch:=omega) only [RR,RB,g,m _ E.1,m _ E.2.1,v _ E.2.2];exact⟨t,by simp only [length_cons,length_nil];omega,⟨ah,ah,bg t g rfl⟩,ah⟩
 .have ef:a.events.take i.toNat=a.events:=take_of_length_le ah;rw [ef];simp (disch:=omega) only [RR,RB,g,m _ j.x,m _ j.y,v _ j.r,C _ j.x,B];have b:¬bp (aX a.x/\aX a.y)=false:=by rw [aI ⟨q,p⟩];decide
  have P:=λf=>(u a o j q p f).1
  have F:=λf=>(u a o j q p f).2
  have x:a.fin≠3/\a.fin≠4->¬(a.fin=2/\(dz a.x).2=true)->symEnd a o=a:=λc d=>by unfold symEnd;rw [if_neg b,if_neg d,if_pos c]
  refine⟨λf=>⟨λg=> ?_,λg=> ?_⟩,λf=>⟨λk=>⟨λ_=>⟨P (Or.inl k),?_⟩,λe=>absurd k e⟩,λk=>⟨λl=>⟨P (Or.inr l),?_⟩,λl=> ?_⟩⟩⟩
  .unfold symEnd;rw [if_neg b,if_pos ⟨f,g⟩]
  .rw [x ah (by rw [g];simp)]
  .exact congrArg (λz=>(z.1,())) (F (Or.inl k))
  .exact congrArg (λz=>(z.1,())) (F (Or.inr l))
  .rw [x ⟨k,l⟩ (λh=>f h.1)]
structure Cn(s:SS):Prop where
 ld:s.ld=uD s.evs 4
 inn:s.inn=uD s.evs 6
def Cn.stp{s:SS}(h:Cn s)(o:IOp):Cn (stp s o):=by
 constructor
 .show(if o.kind=4 then s.ld+1 else s.ld)=uD (nE s o) 4;unfold nE;by_cases c:evO o
  .rw [if_pos c,AY,h.ld]
  .rw [if_neg c,if_neg (λe=>c (by unfold evO;omega)),h.ld]
 .show(if o.kind=6 then s.inn+1 else s.inn)=uD (nE s o) 6;unfold nE;by_cases c:evO o
  .rw [if_pos c,AY,h.inn]
  .rw [if_neg c,if_neg (λe=>c (by unfold evO;omega)),h.inn]
def Cn.run:∀(l:List IOp) (s:SS),Cn s->Cn (l.foldl Go.TX.F.stp s)
 | [],_,h=>h
 | o::r,s,h=>Cn.run r _ (h.stp o)
structure Pt2(t:List Atom)(b:Blk)(i:Nat)(tb:List Atom)(V:List (List au))(ev:List Ev)(rg:List (List au)):Prop where
 tb:tb=(SW t b i).t
 V:V=(SW t b i).vals
 ev:ev=(SW t b i).evs
 rg:rg=(SW t b i).regs
def Pt2.next{t:List Atom}{b:Blk}{i:Nat}{d:List Atom}{V:List (List au)}{ev:List Ev}{f:List (List au)}(h:Pt2 t b i d V ev f)(k:i<b.ops.length){o:IOp}(g:b.ops.getD i default=o)
  {v:List au} {tb':List Atom} {ev':List Ev} {rg':List (List au)} (j:tb'=nT (SW t b i) o) (a:v=nV (SW t b i) o) (c:ev'=nE (SW t b i) o) (l:rg'=nR (SW t b i) o):Pt2 t b (i+1) tb' (V++ [v]) ev' rg':=by
 have e:=acR (t:=t) k;rw [g]at e;refine⟨?_,?_,?_,?_⟩<;>rw [e]
 .exact j
 .rw [h.V,a];rfl
 .exact c
 .exact l
def LP{α:Type}{l:List α}{i:Nat}(h:i<l.length)(v:α):(l.set i v).take (i+1)=l.take i++ [v]:=by
 rw [take_succ_eq_append_getElem (by rw [length_set];exact h),getElem_set_self,take_set_of_le (Nat.le_refl _)]
abbrev aAh(b:Sym×dY->Bool)(a:Sym×dY->aBe):Prop:=∀s n,ShY s->b (s,n,())=true/\a (s,n,())=(symEnd s n,())
set_option maxHeartbeats 1000000 in
def asM{p1 f1 p2 f2 p3 f3 p4 f4 p5 f5 p6 f6 p7 f7 p8 f8 p10 f10 p14 f14}{p9:Int×List au×List au×mI->Bool}{f9:Int×List au×List au×mI->List Atom×eu}{a2:List Ev×Int×mI->Bool}{R:List Ev×Int×mI->List Atom×eu}{a1:IOp×List au×List au×lX->Bool}{Q:IOp×List au×List au×lX->Int×Int×List au×List au×lX}{S:Int×lX->Bool}{g:Int×lX->List au×lX}{O:iK->Bool}{T:iK->dY}{Z:iK->Bool}{P:iK->dY}(U1:Y60 p1 f1)(U2:Y28 p2 f2)(U3:Y22 p3 f3)(U4:aAh p4 f4)(U5:Y44 p5 f5)(U6:Y29 p6 f6)(U7:Y13 p7 f7)(U8:Y31 p8 f8)(U9:∀N x y t,(1<=N/\N<=5)->Sh x->Sh y->ShT t->aM t->p9 (N,x,y,t,())=true/\f9 (N,x,y,t,())=((tDo t N x y).1,(tDo t N x y).2,()))(a8:Y35 p10 f10)(W:∀l k t,l.length<1000000000->ShT t->aM t->a2 (l,k,t,())=true/\R (l,k,t,())=((bE t ⟨if k=6 then 3 else 2,uD l k,[],[]⟩).1,iO (bE t ⟨if k=6 then 3 else 2,uD l k,[],[]⟩).2,()))(B:∀o x y r,Sh x->Sh y->ShP r->a1 (o,x,y,r,())=true/\Q (o,x,y,r,())=(o.kind,o.at_,if o.kind=6 then []else x,if o.kind=5 then y else [],if o.kind=4\/o.kind=5 then r else [],()))(a:∀k l,S (k,l,())=true/\g (k,l,())=(if k<0\/(l.length:Int)<=k then []else((l).getD (k).toNat default),l,()))(b0:Y56 p14 f14)(b3:∀b,O (b,())=true/\T (b,())=(if b.fin=1 then-1 else b.x,()))(a7:∀b,Z (b,())=true/\P (b,())=(if b.fin=1\/b.fin=2 then-1 else b.y,()))(t:List Atom)(b:Blk)(ht:ShT t)(hb:b.ops.length<1000000000):ZA.F (p1,f1,p2,f2,p3,f3,p4,f4,p5,f5,p6,f6,p7,f7,p8,f8,p9,f9,p10,f10,a2,R,a1,Q,S,g,p14,f14,O,T,Z,P,()) (t,b,()) (λy=>y=((bH t b).1,(bH t b).2,())):=by
 have b8:=ht.1;dsimp only [ZA,gm];simp (disch:=omega) only [RR,RB,U6 t ht,U1 b hb,U8 t ht,(U5).1];by_cases c:aM t/\t.length<=100/\bQ b
 case neg=>
  refine⟨λ_=> ?_,λh=> ?_⟩
  .unfold bH;rw [aT c];rfl
  .exact absurd ⟨aF.1 h.1.1,ah,aF.1 h.1.2⟩ c
 obtain⟨c1,c2,J⟩:=c;simp (disch:=omega) only [RR,aI c1,aI J];have sz:=J.sz;have b4:=J.op;have a0:=J.k3;have i0:=BA c1 ah;obtain⟨_,g5,_⟩:=(U5).2;refine⟨λh=>absurd h ah,λ_=> ?_⟩;refine ay (λ(y:Int×Blk×Int×Int×Int×Int×List (List au)×mI)=>0<=y.1/\y.1<=4/\y.2.1=b/\y.2.2.2.2.1=b.fin/\y.2.2.2.2.2.1=b.k/\y.2.2.2.2.2.2.1.length=4/\y.2.2.2.2.2.2.1.take y.1.toNat=(rN t y.1.toNat).2/\y.2.2.2.2.2.2.2.1=(rN t y.1.toNat).1) (λy=>(4-y.1).toNat) ⟨by simp,by simp,rfl,rfl,rfl,g5,by simp;rfl,rfl⟩ ?_;rintro⟨(r:Int),(C:Blk),(z1:Int),(z2:Int),(fin:Int),(kk:Int),(rg:List (List au)),(tb:List Atom),⟨⟩⟩ hI;dsimp only at hI ⊢;obtain⟨r0,r1,rfl,rfl,rfl,r4,r5,rfl⟩:=hI;have ok:=DY c1 ah r.toNat ah;have c0:=ok.tl;by_cases h:r<4
 .have sA:ShA ⟨1,r,[],[]⟩:=⟨⟨by simp,λm hm=>absurd hm (by simp)⟩,⟨by simp,λm hm=>absurd hm (by simp)⟩⟩;have er:((r.toNat:Nat):Int)=r:=by omega
  simp (disch:=omega) only [RR,h,a8 _ _ sA ok.tok.sh ok.tok,U2,r4,length_set];have es:rN t (r+1).toNat=((bE (rN t r.toNat).1 ⟨1,r,[],[]⟩).1,(rN t r.toNat).2++ [iO (bE (rN t r.toNat).1 ⟨1,r,[],[]⟩).2]):=by
   rw [show(r+1).toNat=r.toNat+1 by omega,Ie,er]
  refine⟨r0,ah,r0,ah,⟨ah,ah,?_,by rw [es]⟩,ah⟩;rw [es,show(r+1).toNat=r.toNat+1 by omega,LP ah,r5]
 .have e4:r.toNat=4:=by omega
  rw [e4]at r5 ok;have eg:rg=(rN t 4).2:=by rw [<-r5,take_of_length_le ah]
  subst eg;rw [e4];simp (disch:=omega) only [RR,h];refine ay (λ(y:Int×Blk×Int×Int×Int×Int×List (List au)×List (List au)×List Atom×List Ev×Unit)=>0<=y.1/\y.1<=C.ops.length/\y.2.1=C/\y.2.2.2.2.1=C.fin/\y.2.2.2.2.2.1=C.k/\Pt2 t C y.1.toNat y.2.2.2.2.2.2.2.2.1 y.2.2.2.2.2.2.2.1 y.2.2.2.2.2.2.2.2.2.1 y.2.2.2.2.2.2.1) (λy=>(C.ops.length-y.1).toNat) ⟨by simp,by simp,rfl,rfl,rfl,⟨rfl,rfl,rfl,rfl⟩⟩ ?_;have b6:∀j:Nat,j<=C.ops.length->SI (t.length+4) j (SW t C j):=λj hj=>by
   have:=(wE (C.ops.take j) 0 (s0 t) i0 (λo u=>a0 o (mem_of_mem_take u)) (by rw [length_take];omega) (by rw [length_take];omega)).1;rw [length_take,Nat.min_eq_left hj,Nat.zero_add]at this;exact this
  rintro⟨(i:Int),(b:Blk),(z1:Int),(z2:Int),(fin:Int),(kk:Int),(rg:List (List au)),(V:List (List au)),(tb:List Atom),(ev:List Ev),⟨⟩⟩ hI;dsimp only at hI ⊢;obtain⟨F,h2,rfl,rfl,rfl,hA⟩:=hI;have f:=b6 i.toNat ah;have c5:=aiR (t:=t) (b:=b) i.toNat ah;have cn:=Cn.run (b.ops.take i.toNat) (s0 t) ⟨rfl,rfl⟩;have cn:Cn (SW t b i.toNat):=cn;by_cases A:i<b.ops.length
  case neg=>
   have en:=J.en;have hf:=en.f;have c4:=J.pc;have b7:=J.ln;have b2:i.toNat=b.ops.length:=by omega
   have eS:SW t b i.toNat=dH t b:=by unfold SW dH;rw [b2,take_of_length_le (Nat.le_refl _)]
   obtain⟨a3,D,a5,a6⟩:=hA;rw [eS]at a3 D a5 a6 f;subst a3 D a5 a6;have pk:=Ia (b:=b) f;have eR:=mq c1 c2 J;have sh:ShY (mh b (dH t b)):=by
    have hs:=PK b.ops 0 (s0 t) i0 a0 ah ah ⟨by simp [s0],λe he=>absurd he (by simp [s0])⟩;exact⟨⟨by have:=hs.1;show(b.ops.foldl stp (s0 t)).evs.length<_;omega,hs.2⟩,f.regs,pk.1.sh,pk.2.sh⟩
   have sl:=f.vl;have x1:=en.x1;have y1:=en.y1;have EX:g (if b.fin=1 then-1 else b.x,(dH t b).vals,())=((mh b (dH t b)).x,(dH t b).vals,()):=by
    rw [(λz1 z2=>(a z1 z2).2)];show _=(if b.fin=1 then []else(((dH t b).vals).getD (b.x).toNat default),_);by_cases c:b.fin=1
    .rw [if_pos c,if_pos c,if_pos ah]
    .obtain⟨v1,v2,_⟩:=x1 c;rw [if_neg c,if_neg c,if_neg ah]
   have EY:g (if b.fin=1\/b.fin=2 then-1 else b.y,(dH t b).vals,())=((mh b (dH t b)).y,(dH t b).vals,()):=by
    rw [(λz1 z2=>(a z1 z2).2)];show _=(if 3<=b.fin then(((dH t b).vals).getD (b.y).toNat default)else [],_);by_cases c:b.fin=1\/b.fin=2
    .rw [if_pos c,if_pos (Or.inl (by decide)),if_neg (show¬3<=b.fin by omega)]
    .obtain⟨v1,v2,_⟩:=y1 ah;rw [if_neg c,if_neg (show¬(b.y<0\/((dH t b).vals.length:Int)<=b.y) by omega),if_pos (show 3<=b.fin by have:=hf;omega)]
   have b1:ShP (dH t b).regs:=sh.r;simp (disch:=omega) only [RR,RB,A,b0 _ b1,b3,a7,(λz1 z2=>(a z1 z2).1),EX,EY,U7 _ sh.x,U7 _ sh.y];exact⟨(U4 _ _ sh).1,by rw [eR];exact congrArg (λz=>((dH t b).t,z.1,())) ((U4 (mh b (dH t b)) (b.pc+b.len) sh).2)⟩
  have d:=b4 i F A;have nxt:=λ{v:List au} {tb':List Atom} {ev':List Ev} {rg':List (List au)}=>Pt2.next (o:=((b.ops).getD (i).toNat default)) hA ah rfl (v:=v) (tb':=tb') (ev':=ev') (rg':=rg')
  obtain⟨a3,D,a5,a6⟩:=hA;have ei:(i+1).toNat=i.toNat+1:=by omega
  obtain⟨sn,so⟩:=J6 (o:=((b.ops).getD (i).toNat default)) f d.k3 ah ah;have vl:=f.vl;have L:∀k:Int,Sh (if k<0\/(V.length:Int)<=k then []else((V).getD (k).toNat default)):=λk=>by
   split
   .exact⟨by simp,λm hm=>absurd hm (by simp)⟩
   .rw [D];exact(Fw f.vok k).1.sh
  obtain⟨X,eX⟩:∃X,X=if(((b.ops).getD (i).toNat default)).x<0\/(V.length:Int)<=(((b.ops).getD (i).toNat default)).x then []else((V).getD ((((b.ops).getD (i).toNat default)).x).toNat default):=⟨_,rfl⟩
  obtain⟨Y,eY⟩:∃Y,Y=if(((b.ops).getD (i).toNat default)).y<0\/(V.length:Int)<=(((b.ops).getD (i).toNat default)).y then []else((V).getD ((((b.ops).getD (i).toNat default)).y).toNat default):=⟨_,rfl⟩
  have I:g ((((b.ops).getD (i).toNat default)).x,V,())=(X,V,()):=by rw [(λz1 z2=>(a z1 z2).2),eX]
  have F2:g ((((b.ops).getD (i).toNat default)).y,V,())=(Y,V,()):=by rw [(λz1 z2=>(a z1 z2).2),eY]
  have p:Sh X:=eX▸L _;have q:Sh Y:=eY▸L _;have ex:hX ((b.ops).getD (i).toNat default)->X=xOf (SW t b i.toNat) ((b.ops).getD (i).toNat default):=λh=>by
   have v:=d.x1 h;have v2:=v.2.1;unfold xOf;rw [if_pos h,eX,if_neg (by rw [D,vl];have:=v.1;omega),D]
  have ey:hY ((b.ops).getD (i).toNat default)->Y=yOf (SW t b i.toNat) ((b.ops).getD (i).toNat default):=λh=>by
   have v:=d.y1 h;have v2:=v.2.1;unfold yOf;rw [if_pos h,eY,if_neg (by rw [D,vl];have:=v.1;omega),D]
  clear eX eY L
  have b9:V.length=i.toNat:=by rw [D];exact vl
  generalize hs:SW t b i.toNat=s at*;generalize u:((b.ops).getD (i).toNat default)=o at*;have kd:=d.kd;subst a3 a5 a6;have r4:s.regs.length=4:=f.r4;have M:=f.tok.sh;have a9:=cn.ld;have b5:=cn.inn;have E:ShP s.regs:=f.regs;have H:=λ{v:List au} {tb':List Atom} {ev':List Ev} {rg':List (List au)} (h3:tb'=nT s o) (h4:v=nV s o) (h5:ev'=nE s o) (h6:rg'=nR s o)=>show((V.length:Int)+([v].length:Int)<=1073741824)/\(0<=i+1/\i+1<=b.ops.length/\Pt2 t b (i+1).toNat tb' (V++ [v]) ev' rg')/\(b.ops.length- (i+1)).toNat< (b.ops.length-i).toNat from⟨by simp only [length_cons,length_nil];omega,⟨ah,ah,by rw [ei];exact nxt h3 h4 h5 h6⟩,ah⟩
  have G:∀e:Ev,(s.evs.length:Int)+([e].length:Int)<=1073741824:=λe=>by simp only [length_cons,length_nil];omega
  have U:o.kind≠3->o.kind≠4->o.kind≠6->s.t=nT s o:=λh3 h4 h6=>by unfold nT;rw [if_neg h3,if_neg ah]
  have K:o.kind≠8->s.regs=nR s o:=λh=>by unfold nR;rw [if_neg h]
  have E0:¬evO o->s.evs=nE s o:=λh=>by unfold nE;rw [if_neg h]
  have V0:o.kind=5\/o.kind=7\/o.kind=8->[]=nV s o:=λh=>by unfold nV;rw [if_neg ah,if_neg ah,if_neg ah,if_neg ah]
  rcases(by omega:o.kind=1\/o.kind=2\/o.kind=3\/o.kind=4\/o.kind=5\/o.kind=6\/o.kind=7\/o.kind=8)with c | c | c | c | c | c | c | c
  .simp (disch:=omega) only [RR,RB,u,A,(λz1 z2=>(a z1 z2).1),I,F2,c,Int.reduceEq,U3];exact⟨F,H (U ah ah ah) (show aY o.k=nV s o by unfold nV;rw [if_pos c]) (E0 (by unfold evO;omega)) (K ah)⟩
  .have k2:=d.k2 (Or.inl c);simp (disch:=omega) only [RR,RB,u,A,(λz1 z2=>(a z1 z2).1),I,F2,c,Int.reduceEq,r4];exact⟨F,k2.1,ah,k2.1,ah,H (U ah ah ah) (show((s.regs).getD (o.k).toNat default)=nV s o by unfold nV;rw [if_neg ah,if_pos c]) (E0 (by unfold evO;omega)) (K ah)⟩
  .have d9:=d.k3 c;simp (disch:=omega) only [RR,RB,u,A,(λz1 z2=>(a z1 z2).1),I,F2,c,Int.reduceEq,U9 o.k _ _ _ d9 p q M f.tok];have n:=ex (by unfold hX;omega);have w:=ey (by unfold hY;omega);exact⟨F,H (show(tDo s.t o.k X Y).1=nT s o by unfold nT;rw [if_pos c,n,w]) (show(tDo s.t o.k X Y).2=nV s o by unfold nV;rw [if_neg ah,if_neg ah,if_pos c,n,w]) (E0 (by unfold evO;omega)) (K ah)⟩
  .have el:s.evs.length<1000000000:=by omega
   have ea:aOf s o=⟨2,uD s.evs 4,[],[]⟩:=by unfold aOf;rw [if_pos c,a9]
   have n:=ex (by unfold hX;omega);have w:yOf s o=[]:=by unfold yOf;rw [if_neg (by unfold hY;omega)]
   simp (disch:=omega) only [RR,RB,u,A,(λz1 z2=>(a z1 z2).1),I,F2,c,Int.reduceEq,W s.evs 4 s.t el M f.tok,B o X Y s.regs p q E,G];exact⟨F,H (by unfold nT;rw [if_neg ah,if_pos (Or.inl c),ea]) (by unfold nV;rw [if_neg ah,if_neg ah,if_neg ah,if_pos (Or.inl c),ea]) (by unfold nE;rw [if_pos (by unfold evO;omega),if_pos (Or.inl c),c,n,w]) (K ah)⟩
  .have n:=ex (by unfold hX;omega);have w:=ey (by unfold hY;omega);simp (disch:=omega) only [RR,RB,u,A,(λz1 z2=>(a z1 z2).1),I,F2,c,Int.reduceEq,B o X Y s.regs p q E,G];exact⟨F,H (U ah ah ah) (V0 ah) (by unfold nE;rw [if_pos (by unfold evO;omega),if_pos (Or.inr c),c,n,w]) (K ah)⟩
  .have el:s.evs.length<1000000000:=by omega
   have ea:aOf s o=⟨3,uD s.evs 6,[],[]⟩:=by unfold aOf;rw [if_neg ah,b5]
   have n:xOf s o=[]:=by unfold xOf;rw [if_neg (by unfold hX;omega)]
   have w:yOf s o=[]:=by unfold yOf;rw [if_neg (by unfold hY;omega)]
   simp (disch:=omega) only [RR,RB,u,A,(λz1 z2=>(a z1 z2).1),I,F2,c,Int.reduceEq,W s.evs 6 s.t el M f.tok,B o X Y s.regs p q E,G];exact⟨F,H (by unfold nT;rw [if_neg ah,if_pos (Or.inr c),ea]) (by unfold nV;rw [if_neg ah,if_neg ah,if_neg ah,if_pos (Or.inr c),ea]) (by unfold nE;rw [if_pos (by unfold evO;omega),if_neg ah,c,n,w]) (K ah)⟩
  .have n:=ex (by unfold hX;omega);have w:yOf s o=[]:=by unfold yOf;rw [if_neg (by unfold hY;omega)]
   simp (disch:=omega) only [RR,RB,u,A,(λz1 z2=>(a z1 z2).1),I,F2,c,Int.reduceEq,B o X Y s.regs p q E,G];exact⟨F,H (U ah ah ah) (V0 ah) (by unfold nE;rw [if_pos (by unfold evO;omega),if_neg ah,c,n,w]) (K ah)⟩
  .have k2:=d.k2 (Or.inr c);have n:=ex (by unfold hX;omega);simp (disch:=omega) only [RR,RB,u,A,(λz1 z2=>(a z1 z2).1),I,F2,c,Int.reduceEq,r4];exact⟨F,k2.1,ah,k2.1,ah,H (U ah ah ah) (V0 ah) (E0 (by unfold evO;omega)) (by unfold nR;rw [if_pos c,n])⟩
def asN{α:Type}[Inhabited α](l:List α)(a:α)(i:Int)(h:0<=i):((l++ [a]).getD (i).toNat default)=if i=l.length then a else((l).getD (i).toNat default):=by
 by_cases c:i=l.length
 .rw [if_pos c,c,getD_eq_getElem?_getD];simp
 .rw [if_neg c,getD_eq_getElem?_getD,getD_eq_getElem?_getD];by_cases d:i.toNat<l.length
  .rw [getElem?_append_left d]
  .rw [getElem?_eq_none (by rw [length_append,length_singleton];omega),getElem?_eq_none ah]
def aek{n:Int}{t u:List Atom}(h:aav n t)(g:aav n u):t=u:=by
 obtain⟨k,e⟩:=h;obtain⟨j,d⟩:=g;exact kV ah λi c f=>by
  have a:=e i c ah;have b:=d i c ah;exact a.trans b.symm
def acT:∀n:Nat,n<=4->aav n (rN [] n).1
 | 0,_=>⟨rfl,All.zero⟩
 | n+1,hn=>by
  obtain⟨f,d⟩:=acT n ah;have ok:=DY AL (by simp) n ah;have e:bE (rN [] n).1 ⟨1,n,[],[]⟩=((rN [] n).1++ [⟨1,n,[],[]⟩],((rN [] n).1.length:Int)):=by
   rcases mg (rN [] n).1 ⟨1,n,[],[]⟩with⟨f1,f2⟩ | ⟨f1,f2,f3,_⟩
   .unfold bE;rw [if_neg ah,if_neg];rintro(g | g)
    .exact g (by unfold kE;rw [if_neg (by simp)];exact⟨⟨rfl,rfl⟩,Or.inl ⟨rfl,by dsimp only;omega,by dsimp only;omega⟩⟩)
    .omega
   .exfalso;have a:=d _ f1 ah;dsimp only at a f3;rw [a]at f3;injection f3 with _ g;omega
  have h:(rN [] (n+1)).1=(rN [] n).1++ [⟨1,n,[],[]⟩]:=by rw [Ie,e]
  rw [h];refine⟨by rw [length_append,length_singleton];omega,λi b j=> ?_⟩;dsimp only;rw [asN _ _ _ b];by_cases c:i=((rN [] n).1.length:Int)
  .rw [if_pos c,c,f]
  .rw [if_neg c];exact d i b ah
def ayd{t:List Atom}(h:aav 4 t):t=t4:=aek h (acT 4 (Nat.le_refl _))
def asO{p1 f1}(k:Y8 p1 f1)(a b:List (List au))(d:ShP a):ZB.F (p1,f1,()) (a,b,()) (λy=>y=(bp (a=b),())):=by
 have g:=d.1;dsimp only [ZB,gm];simp (disch:=omega) only [RR];refine⟨λh=> ?_,λh=> ?_⟩
 .rw [aT (λe=>h (by rw [e]))]
 have j:a.length=b.length:=by omega
 refine ay (λ(y:List (List au)×List (List au)×dY)=>y.1=a/\y.2.1=b/\0<=y.2.2.1/\y.2.2.1<=a.length/\All y.2.2.1 (λi=>a.getD i.toNat default=b.getD i.toNat default)) (λy=>(a.length-y.2.2.1).toNat) ⟨rfl,rfl,by simp,by simp,All.zero⟩ ?_;rintro⟨(n:List (List au)),(o:List (List au)),(i:Int),⟨⟩⟩ hI;dsimp only at hI ⊢;obtain⟨rfl,rfl,p,m,f⟩:=hI;simp (disch:=omega) only [RR,k _ _ (d.at _),jO];refine⟨λl=>⟨ah,ah,ah,ah,λc=> ?_,λc=>⟨⟨ah,ah,f.snoc c⟩,ah⟩⟩,λl=> ?_⟩
 .rw [aT];intro e;rw [e]at c;exact c rfl
 .rw [aI (kV j (f.le ah))]
def asP{p1 f1 p2 f2}(d:Y8 p1 f1)(e:Y88 p2 f2)(a b:Ev)(c:ShE a):ZE.F (p1,f1,p2,f2,()) (a,b,()) (λy=>y=(bp (a=b),())):=by
 dsimp only [ZE,gm];simp (disch:=omega) only [RR,RB,d _ _ c.1,d _ _ c.2.1,e _ _ c.2.2,jO];simp only [nU,<-fH];refine Prod.ext (ig ?_) rfl;cases a;cases b;simp only [Ev.mk.injEq];constructor<;>(intro h;simp only [h,and_self])
def asQ{p1 f1 p2 f2 p3 f3}(g:Y8 p1 f1)(q:Y93 p2 f2)(o:Y88 p3 f3)(a b:Sym)(c:ShY a):ZF.F (p1,f1,p2,f2,p3,f3,()) (a,b,()) (λy=>y=(bp (a=b),())):=by
 dsimp only [ZF,gm];simp (disch:=omega) only [RR,RB,g _ _ c.x,g _ _ c.y,o _ _ c.r,jO,aF,gI];have e:=c.e.1;refine⟨λh=> ?_,λh=> ?_⟩
 .rw [aT];rintro rfl
  revert h;simp
 refine ay (λ(y:Int×Sym×aBe)=>y.2.1=a/\y.2.2.1=b/\0<=y.1/\y.1<=a.events.length/\All y.1 (λi=>a.events.getD i.toNat default=b.events.getD i.toNat default)) (λy=>(a.events.length-y.1).toNat) ⟨rfl,rfl,by simp,by simp,All.zero⟩ ?_;rintro⟨(i:Int),(n:Sym),(k:Sym),⟨⟩⟩ hI;dsimp only at hI ⊢;obtain⟨rfl,rfl,t,s,f⟩:=hI;have p:n.events.length=k.events.length:=by
  have:=h.1.1.1.1.1;omega
 simp (disch:=omega) only [RR,RB,q _ _ (c.e.at _),aF,gI];refine⟨λm=>⟨ah,ah,ah,ah,λd=> ?_,λd=>⟨⟨ah,ah,f.snoc d⟩,ah⟩⟩,λm=> ?_⟩
 .rw [aT];rintro rfl;exact d rfl
 .rw [aI];obtain⟨⟨⟨⟨⟨v,l⟩,w⟩,u⟩,r⟩,j⟩:=h;exact Sym.ext (kV p (f.le ah)) l ah r j ah
def asR{p1 f1 p2 f2 p3 f3 p4 f4 p5 f5}(v:Y60 p1 f1)(t:Y94 p2 f2)(s:Y44 p3 f3)(u:Y89 p4 f4)(r:Y95 p5 f5)(b c:Blk)(d:b.ops.length<1000000000)(hc:c.ops.length<1000000000):ZG.F (p1,f1,p2,f2,p3,f3,p4,f4,p5,f5,()) (b,c,()) (λy=>y=(chk b c,())):=by
 have f:=λz1 z2=>(v z1 z2).1
 have k:=λz1 z2=>(v z1 z2).2
 have o:=λz1 z2 z3=>(t z1 z2 z3).1
 have p:=λz1 z2 z3=>(t z1 z2 z3).2
 have m:=s.1;have a:=s.2;have j:=λz1 z2 z3 z4=>(u z1 z2 z3 z4).1
 have i:=λz1 z2 z3 z4=>(u z1 z2 z3 z4).2
 have l:=λz1 z2 z3=>(r z1 z2 z3).1
 have n:=λz1 z2 z3=>(r z1 z2 z3).2
 have q:ShT t4:=acN.1.sh;have y1:=DZ t4 b;have a:=ayd a.1;dsimp only [ZG,gm];simp (disch:=omega) only [RR,RB,f b d,k b d,f c hc,k c hc,o b c d,p b c d,m,a,j t4 b q d,i t4 b q d,j _ c y1.2 hc,i _ c y1.2 hc,l _ _ y1.1,n _ _ y1.1,aF,gI];unfold chk;refine⟨λh=> ?_,λh=>⟨λe=> ?_,λe=> ?_⟩⟩
 .rw [aT];rintro⟨z,w,A,x,_⟩;simp_all
 .rw [aI];exact⟨h.1.1.1,h.1.1.2,by simp_all,by simp_all,Or.inl e⟩
 .refine Prod.ext (ig ⟨λg=>⟨h.1.1.1,h.1.1.2,by simp_all,by simp_all,Or.inr g⟩,λg=>g.2.2.2.2.resolve_left e⟩) rfl
def wH(q:Cer):aAR:=(q.base.pc,q.base.len,q.base.fin,q.base.x,q.base.y,q.base.k,q.made.pc,q.made.len,q.made.fin,q.made.x,q.made.y,q.made.k,q.base.ops,q.made.ops,())
def FB(l:List Cer)(q:Cer):List Cer:=(l++ [q]).drop (l.length+1-3)
theorem asS{p1 f1}(n:Y96 p1 f1)(l:List Cer)(h:ShD l):ZL.F (p1,f1,()) (l,()) (λy=>y=(bp (jY l),())):=by
 have mE:∀c:Blk,Co.mk .blk (c.pc,c.len,c.ops,c.fin,c.x,c.y,c.k,())=c:=λ_=>rfl
 dsimp only [ZL,gm,jo];have L:=h.1;simp (disch:=omega) only [RR,CRB,mE];refine⟨λg=>by rw [aT (λe=>by have:=e.1;omega)],λg=> ?_⟩;refine ay (λ(y:List Cer×dY)=>y.1=l/\0<=y.2.1/\y.2.1<=l.length/\¬∃q∈l.take y.2.1.toNat,chk q.base q.made=false) (λy=>(l.length-y.2.1).toNat) ⟨rfl,by simp,by simp,by rintro⟨q,h,_⟩;cases h⟩ ?_;rintro⟨(k:List Cer),(i:Int),⟨⟩⟩ hI;dsimp only at hI ⊢;obtain⟨rfl,f,o,j⟩:=hI;have a:=h.at i.toNat;simp (disch:=omega) only [RR,CRB,mE,n (((k).getD (i).toNat default)).base (((k).getD (i).toNat default)).made ah ah];refine⟨λb=>⟨f,b,f,b,λe=> ?_,λe=>⟨⟨ah,ah,?_⟩,ah⟩⟩,λb=> ?_⟩
 .rw [aT];intro v;have:=v.2 _ (bV f b (d:=default));rw [e]at this;cases this
 .rw [show(i+1).toNat=i.toNat+1 by omega];exact λx=>((Ih (G:=λq:Cer=>chk q.base q.made=false) ah).1 x).elim j (λz=>by rw [e]at z;cases z)
 .rw [take_of_length_le ah]at j;rw [aI];exact⟨ah,λq m=>by
   cases c:chk q.base q.made with
   | true=>rfl
   | false=>exact absurd ⟨q,m,c⟩ j⟩
theorem asT{p1 f1}(a:Y77 p1 f1)(q:Cer)(d:q.base.ops.length<1000000)(b:q.made.ops.length<1000000):ZO.F (p1,f1,()) (q,()) (λy=>y=wH q):=by
 have mE:∀c:Blk,Co.mk .blk (c.pc,c.len,c.ops,c.fin,c.x,c.y,c.k,())=c:=λ_=>rfl
 dsimp only [ZO,gm,jo];simp (disch:=omega) only [RR,CRB,mE,a _ d,a _ b];rfl
theorem aye{p1 f1}(a:Y99 p1 f1)(q:Cer)(d:q.base.ops.length<1000000)(b:q.made.ops.length<1000000):ahX.F (p1,f1,()) (q,()) (λy=>y=wH q):=by
 have mE:∀c:Blk,Co.mk .blk (c.pc,c.len,c.ops,c.fin,c.x,c.y,c.k,())=c:=λ_=>rfl
 dsimp only [ahX,gm,jo];simp (disch:=omega) only [RR,CRB,mE,a _ (show q.base.ops.length<1000000000 by omega),a _ (show q.made.ops.length<1000000000 by omega)];rfl
theorem ayf(q:Cer):Co.mk .cer ((wH q).1,(wH q).2.1,(wH q).2.2.2.2.2.2.2.2.2.2.2.2.1,(wH q).2.2.1,(wH q).2.2.2.1,(wH q).2.2.2.2.1,(wH q).2.2.2.2.2.1,(wH q).2.2.2.2.2.2.1,(wH q).2.2.2.2.2.2.2.1,(wH q).2.2.2.2.2.2.2.2.2.2.2.2.2.1,(wH q).2.2.2.2.2.2.2.2.1,(wH q).2.2.2.2.2.2.2.2.2.1,(wH q).2.2.2.2.2.2.2.2.2.2.1,(wH q).2.2.2.2.2.2.2.2.2.2.2.1,())=q:=rfl
abbrev asU(b:Cer×Unit->Bool)(a:Cer×Unit->aAR):Prop:=∀q,q.base.ops.length<1000000->q.made.ops.length<1000000->b (q,())=true/\a (q,())=wH q
def asV{p1 f1}(d:asU p1 f1)(l:List Cer)(h:ShC l):XQ.F (p1,f1,()) (l,()) (λy=>y=(l,())):=by
 have c:=h.1;dsimp only [XQ,gm,jo];refine ay (λ(y:List Cer×Int×Int×mQ)=>y.1=l/\y.2.1=l.length/\y.2.2.2.1=l.take y.2.2.1.toNat/\0<=y.2.2.1/\y.2.2.1<=l.length) (λy=>(l.length-y.2.2.1).toNat) ⟨rfl,rfl,by simp,by simp,by simp⟩ ?_;rintro⟨(l:List Cer),(m:Int),(i:Int),(o:List Cer),⟨⟩⟩ hI;dsimp only at hI ⊢;obtain⟨rfl,rfl,rfl,e,f⟩:=hI;have a:=h.at i.toNat;simp (disch:=omega) only [RR,d _ a.1 a.2,ayf];refine⟨λb=>⟨ah,ah,?_,⟨bg e b rfl,ah,ah⟩,ah⟩,λb=>by rw [take_of_length_le ah]⟩;have:=length_take_le' i.toNat l;simp only [length_cons,length_nil];omega
def asW(l:List Cer)(n:Int)(a:l.length<1000000)(c:0<=n)(b:n<1000000):XV.F () (l,n,()) (λy=>y=(l.drop (l.length-n.toNat),())):=by
 dsimp only [XV,gm];simp (disch:=omega) only [RR];rw [show((l.length:Int)).toNat=l.length by omega,take_of_length_le (Nat.le_refl _)];split
 .rw [show((l.length:Int)-n).toNat=l.length-n.toNat by omega];exact⟨ah,ah,ah,rfl⟩
 .rw [show l.length-n.toNat=0 by omega];exact⟨ah,ah,ah,rfl⟩
abbrev ayg(b:mQ->Bool)(a:mQ->mQ):Prop:=∀l,ShC l->b (l,())=true/\a (l,())=(l,())
def ayh{p1 f1}{f:List Cer×dY->Bool}{a:List Cer×dY->mQ}(b:ayg p1 f1)(d:∀l n,l.length<1000000->0<=n->n<1000000->f (l,n,())=true/\a (l,n,())=(l.drop (l.length-n.toNat),()))(l:List Cer)(q:Cer)(h:ShC l)(j:q.base.ops.length<1000000)(i:q.made.ops.length<1000000):aik.F (p1,f1,f,a,()) (l,q,()) (λy=>y=(FB l q,())):=by
 have L:=h.1;have e:(l++ [q]).length=l.length+1:=by rw [length_append,length_singleton]
 have sh:ShC (FB l q):=by
  unfold FB;refine⟨by rw [length_drop];omega,λc hc=> ?_⟩;have:=mem_of_mem_drop hc;rw [mem_append,mem_singleton]at this;rcases this with g | rfl
  .exact h.2 c g
  .exact⟨j,i⟩
 have F:=(d (l++ [q]) 3 ah ah ah).2;rw [e]at F;have F:a (l++ [q],3,())=(FB l q,()):=F;dsimp only [aik,gm];simp (disch:=omega) only [RR,b l h,(d (l++ [q]) 3 ah ah ah).1,F,b _ sh,length_cons,length_nil];omega
theorem asX{p1 f1}(m:asU p1 f1)(l:List Cer)(q:Cer)(h:ShC l)(f:q.base.ops.length<1000000)(e:q.made.ops.length<1000000):ZY.F (p1,f1,()) (l,q,()) (λy=>y=(FB l q,())):=by
 have c:=λz1 z2 z3=>(m z1 z2 z3).1
 have b:=λz1 z2 z3=>(m z1 z2 z3).2
 have j:=h.1;have mC:∀q:Cer,Co.mk .cer (q.base.pc,q.base.len,q.base.ops,q.base.fin,q.base.x,q.base.y,q.base.k,q.made.pc,q.made.len,q.made.ops,q.made.fin,q.made.x,q.made.y,q.made.k,())=q:=λ_=>rfl
 unfold wH at b;dsimp only [ZY,gm,jo,cons_append,nil_append,map_cons,map_nil]at*;refine ay (λ(y:List Cer×Int×Cer×mQ)=>y.1=l/\y.2.2.1=q/\y.2.2.2.1=l.take y.2.1.toNat/\0<=y.2.1/\y.2.1<=l.length) (λy=>(l.length-y.2.1).toNat) ⟨rfl,rfl,by simp,by simp,by simp⟩ ?_;rintro⟨(l:List Cer),(i:Int),(q:Cer),(o:List Cer),⟨⟩⟩ hI;dsimp only at hI ⊢;obtain⟨rfl,rfl,rfl,k,s⟩:=hI;have a:=h.at i.toNat;simp (disch:=omega) only [RR,c _ a.1 a.2,b _ a.1 a.2,c _ f e,b _ f e,mC];have tl:=length_take_le' i.toNat l;have d:∀x:Cer,([x].length:Int)=1:=λ_=>rfl
 refine⟨λg=>⟨k,g,by rw [d];omega,⟨bg k g rfl,ah,ah⟩,ah⟩,λg=> ?_⟩;have p:l.take i.toNat=l:=take_of_length_le ah;have n:((l++ [q]).length:Int)=l.length+1:=by rw [length_append,length_singleton];omega
 rw [p];refine⟨by rw [d];omega,?_⟩;rw [n];have w:IntKind.i64.wrap ((l.length:Int)+1-3)=l.length+1-3:=w64 ah ah;rw [w];unfold FB;refine⟨λr=>⟨ah,ah,ah,ah,ah,ah,?_⟩,λr=>by rw [show l.length+1-3=0 by omega];rfl⟩;rw [take_of_length_le ah,show((l.length:Int)+1-3).toNat=l.length+1-3 by omega]
theorem asY{p1 f1}(l:Y94 p1 f1)(a b:List Cer)(n:ShC a):X8.F (p1,f1,()) (a,b,()) (λy=>y=(bp (a=b),())):=by
 have mE:∀c:Blk,Co.mk .blk (c.pc,c.len,c.ops,c.fin,c.x,c.y,c.k,())=c:=λ_=>rfl
 have j:=n.1;dsimp only [X8,gm,jo];simp (disch:=omega) only [RR,CRB,mE];refine⟨λh=> ?_,λh=> ?_⟩
 .rw [aT (λe=>h (by rw [e]))]
 have p:a.length=b.length:=by omega
 refine ay (λ(y:List Cer×List Cer×dY)=>y.1=a/\y.2.1=b/\0<=y.2.2.1/\y.2.2.1<=a.length/\All y.2.2.1 (λi=>a.getD i.toNat default=b.getD i.toNat default)) (λy=>(a.length-y.2.2.1).toNat) ⟨rfl,rfl,by simp,by simp,All.zero⟩ ?_;rintro⟨(m:List Cer),(o:List Cer),(i:Int),⟨⟩⟩ hI;dsimp only at hI ⊢;obtain⟨rfl,rfl,f,q,k⟩:=hI;have A:=n.at i.toNat;simp (disch:=omega) only [RR,CRB,mE,l (((m).getD (i).toNat default)).base (((o).getD (i).toNat default)).base ah,l (((m).getD (i).toNat default)).made (((o).getD (i).toNat default)).made ah,aF,gI];refine⟨λg=>⟨f,g,f,ah,Or.inr f,Or.inr g,Or.inr f,Or.inr ah,λd=> ?_,λd=>⟨⟨ah,ah,k.snoc (Cer.ext d.1 d.2)⟩,ah⟩⟩,λg=> ?_⟩
 .rw [aT];intro e;rw [e]at d;rcases d with d | d<;>exact d rfl
 .rw [aI (kV p (k.le ah))]
abbrev ayi(b:List Cer×Cer×Unit->Bool)(a:List Cer×Cer×Unit->mQ):Prop:=∀l q,ShC l->q.base.ops.length<1000000->q.made.ops.length<1000000->b (l,q,())=true/\a (l,q,())=(FB l q,())
abbrev aAi(d:List Cer×mQ->Bool)(c:List Cer×mQ->fA):Prop:=∀a b,ShC a->d (a,b,())=true/\c (a,b,())=(bp (a=b),())
def u8w{n:Int}:IntKind.u8.wrap n=n%256:=by
 simp [IntKind.wrap,IntKind.signed,IntKind.bits]
def opB(o:IOp):List Int:=[o.kind%256,o.x%256,o.y%256,o.k/256%256,o.k%256,o.at_%256]
def Qa(b:Blk):List Int:=[b.pc%256,b.len%256,b.fin%256,b.x%256,b.y%256,b.k/256%256,b.k%256]++b.ops.flatMap opB
noncomputable def irB (b:Blk):List Int:=if bp (bQ b)=true then Qa b else []
def rdO(l:List Int)(p:Nat):IOp:=⟨l.getD p default,l.getD (p+1) default,l.getD (p+2) default,l.getD (p+3) default*256+l.getD (p+4) default,l.getD (p+5) default⟩
def rH(l:List Int)(n:Nat):List IOp:=(range n).map λi=>rdO l (7+6*i)
def rdB(l:List Int):Blk:=⟨l.getD 0 default,l.getD 1 default,rH l ((l.length-7)/6),l.getD 2 default,l.getD 3 default,l.getD 4 default,l.getD 5 default*256+l.getD 6 default⟩
def ael(l:List Int):Prop:=(7<=l.length/\(l.length-7)%6=0/\l.length<=295)/\irB (rdB l)=l
noncomputable def rdF (l:List Int):Int×Int×Int×Int×Int×Int×Bool×mF:=if bp (ael l)=true then((rdB l).pc,(rdB l).len,(rdB l).fin,(rdB l).x,(rdB l).y,(rdB l).k,true,(rdB l).ops,())else(0,0,0,0,0,0,false,[],())
def ai0(n:Int):0<=n%256/\n%256<=255:=by omega
def asZ(o:IOp):By (opB o):=by
 intro z a;simp only [opB,mem_cons,not_mem_nil,or_false]at a;rcases a with h | h | h | h | h | h<;>subst h<;>exact ai0 _
def Ke(b:Blk):By (irB b):=by
 unfold irB;split
 .intro z hz;unfold Qa at hz;rcases mem_append.1 hz with h | h
  .simp only [mem_cons,not_mem_nil,or_false]at h;rcases h with h | h | h | h | h | h | h<;>subst h<;>exact ai0 _
  .obtain⟨o,_,ho⟩:=mem_flatMap.1 h;exact asZ o z ho
 .intro z hz;cases hz
def zw:∀a:List IOp,(a.flatMap opB).length=6*a.length
 | []=>rfl
 | o::r=>by rw [flatMap_cons,length_append,zw r,length_cons];show 6+_=_;omega
theorem ai1(b:Blk):(Qa b).length=7+6*b.ops.length:=by
 unfold Qa;rw [length_append,zw];rfl
def ai2:∀(a:List IOp) (i:Nat) (j:Nat),i<a.length->j<6->(a.flatMap opB).getD (6*i+j) default=(opB (a.getD i default)).getD j default
 | [],_,_,h,_=>absurd h (by simp)
 | o::r,0,j,_,hj=>by
  rw [flatMap_cons,getD_eq_getElem?_getD,getElem?_append_left (by show _<6;omega),<-getD_eq_getElem?_getD,Nat.mul_zero,Nat.zero_add];rfl
 | o::r,i+1,j,h,hj=>by
  rw [flatMap_cons,getD_eq_getElem?_getD,getElem?_append_right (by show 6<=_;omega),<-getD_eq_getElem?_getD,show 6*(i+1)+j- (opB o).length=6*i+j by show 6*(i+1)+j-6=_;omega];exact ai2 r i j (by rw [length_cons]at h;omega) hj
def as0(b:Blk)(i j:Nat)(c:i<b.ops.length)(a:j<6):(Qa b).getD (7+6*i+j) default=(opB (b.ops.getD i default)).getD j default:=by
 unfold Qa;rw [getD_eq_getElem?_getD,getElem?_append_right (by show 7<=_;omega),<-getD_eq_getElem?_getD];show(flatMap opB b.ops).getD (7+6*i+j-7) default=_;rw [show 7+6*i+j-7=6*i+j by omega];exact ai2 b.ops i j c a
def anj{a b:Int}(g:0<=a)(f:a<=255)(h:0<=b)(c:b<=255):kr .or .i64 (a*256) b=a*256+b:=by
 have d:((2^IntKind.i64.bits:Nat):Int)=18446744073709551616:=by decide
 have e:(a*256).toNat ||| b.toNat=a.toNat*256+b.toNat:=by
  rw [show(a*256).toNat=a.toNat*256 by omega,show a.toNat*256=a.toNat<<<8 by rw [Nat.shiftLeft_eq],<-Nat.shiftLeft_add_eq_or_of_lt (show b.toNat<2^8 by omega),Nat.shiftLeft_eq]
 unfold kr;dsimp only;rw [BitVec.toNat_or,BitVec.toNat_ofInt,BitVec.toNat_ofInt,d,show a*256%18446744073709551616=a*256 by omega,show b%18446744073709551616=b by omega,e,w64 ah ah];omega
theorem ayj(k:IntKind)(x y:Int):gF .or k x y=kr .or k x y:=rfl
theorem ank(x:Int):gF .shl .i64 x 8=IntKind.i64.wrap (x*256):=rfl
theorem acU(x:Int):gF .shr .i64 x 8=x.fdiv 256:=rfl
def ayk(a b:Int)(e:0<=a)(d:a<=255)(c:0<=b)(f:b<=255):ah3.F () (a,b,()) (λy=>y=(a*256+b,())):=by
 dsimp only [ah3,gm];simp (disch:=omega) only [RR,ayj,ank,anj]
 decide
def bytes_inj:∀ {a b:List Int},By a->By b->Go.Lib.bytesOf a=Go.Lib.bytesOf b->a=b
 | [],[],_,_,_=>rfl
 | [],_::_,_,_,e=>by cases e
 | _::_,[],_,_,e=>by cases e
 | x::a,y::b,ha,hb,e=>by
  unfold Go.Lib.bytesOf at e;rw [map_cons,map_cons]at e;injection e with e1 e2;have g:=ha x mem_cons_self;have f:=hb y mem_cons_self;have d:=congrArg UInt8.toNat e1;rw [UInt8.toNat_ofNat',UInt8.toNat_ofNat']at d;have:x=y:=by omega
  rw [this,bytes_inj (λz c=>ha z (mem_cons_of_mem _ c)) (λz c=>hb z (mem_cons_of_mem _ c)) e2]
def aAj(a b:List Int)(c:By a)(d:By b):aqg.F () (a,b,()) (λy=>y=(bp (a=b),())):=by
 dsimp only [aqg,gm];show((((strOfNums a).toList==(strOfNums b).toList),()):fA)=_;rw [Go.Lib.strOfNums_toList,Go.Lib.strOfNums_toList];refine Prod.ext (Bool.eq_iff_iff.2 ?_) rfl;rw [aF];constructor
 .intro h;exact bytes_inj c d (by simpa using h)
 .rintro rfl;simp
theorem ayl{p1 f1}(l:Y60 p1 f1)(b:Blk)(f:b.ops.length<1000000000):ah4.F (p1,f1,()) (b,()) (λy=>y=(irB b,())):=by
 have e:∀x:Int,Co.mk .u8 (x,())=x:=λ_=>rfl
 have d:∀x:Int,x.fdiv 256=x/256:=λx=>Int.fdiv_eq_ediv_of_nonneg x (by decide)
 dsimp only [ah4,gm];simp (disch:=omega) only [RR,RB,l b f,e,u8w,acU,d];refine⟨λh=>by unfold irB;rw [h];rfl,λh=>⟨by decide,?_⟩⟩;have ok:=aF.1 h;have o:=ok.sz;refine ay (λ(y:List IOp×P9)=>y.1=b.ops/\y.2.1=b.ops.length/\0<=y.2.2.1/\y.2.2.1<=b.ops.length/\y.2.2.2.1=[b.pc%256,b.len%256,b.fin%256,b.x%256,b.y%256,b.k/256%256,b.k%256]++(b.ops.take y.2.2.1.toNat).flatMap opB) (λy=>(b.ops.length-y.2.2.1).toNat) ⟨rfl,rfl,by simp,by simp,by simp⟩ ?_;rintro⟨(k:List IOp),(n:Int),(i:Int),(a:List Int),⟨⟩⟩ hI;dsimp only at hI ⊢;obtain⟨rfl,rfl,j,m,c⟩:=hI;have al:a.length<=1000:=by
  rw [c,length_append,zw];have:=length_take_le' i.toNat b.ops;simp only [length_cons,length_nil];omega
 simp (disch:=omega) only [RR,RB,e,u8w,acU,d,length_cons,length_nil];refine⟨λg=>⟨j,g,by decide,ah,⟨ah,ah,?_⟩,ah⟩,λg=> ?_⟩
 .rw [c,show(i+1).toNat=i.toNat+1 by omega,take_succ_eq_append_getElem ah,flatMap_append,append_assoc,getD_lt (show i.toNat<b.ops.length by omega)];rfl
 .rw [c,take_of_length_le ah];unfold irB;rw [if_pos h];rfl
abbrev aym(c:iK->Bool)(a:iK->bn):Prop:=∀b,b.ops.length<1000000000->c (b,())=true/\a (b,())=(irB b,())
theorem ayn{p2 f2}{B:wm->Bool}{s:wm->fA}{d:ni->Bool}{i:ni->dY}(R:∀a b,By a->By b->B (a,b,())=true/\s (a,b,())=(bp (a=b),()))(P:aym p2 f2)(C:∀a b,0<=a->a<=255->0<=b->b<=255->d (a,b,())=true/\i (a,b,())=(a*256+b,()))(l:List Int)(c:By l)(v:l.length<1000000000):ah5.F (B,s,p2,f2,d,i,()) (l,()) (λy=>y=rdF l):=by
 have q:∀x:Int,cO .u8 0 x=x:=λ_=>rfl
 have p:∀n:Nat,IntKind.i64.wrap (l.getD n default)=l.getD n default:=λn=>w64 (by have:=c.at n;omega) (by have:=c.at n;omega)
 have r:∀n m:Nat,d (l.getD n default,l.getD m default,())=true:=λn m=>(C _ _ (c.at n).1 (c.at n).2 (c.at m).1 (c.at m).2).1
 have I:∀n m:Nat,i (l.getD n default,l.getD m default,())=(l.getD n default*256+l.getD m default,()):=λn m=>(C _ _ (c.at n).1 (c.at n).2 (c.at m).1 (c.at m).2).2
 dsimp only [ah5,gm];simp (disch:=omega) only [RR,RB,q,p,r,I];have no:¬ael l->rdF l=(0,0,0,0,0,0,false,[],()):=λh=>by unfold rdF;rw [if_neg (by rw [aT h];decide)]
 have F:7<=l.length->((l.length:Int)-7).tmod 6=((l.length-7)%6:Nat):=λh=>by
  rw [Int.tmod_eq_emod_of_nonneg ah];omega
 refine⟨Or.inr (by decide),λh=> ?_,λh=> ?_⟩
 .rw [no];rintro⟨⟨O,V,g3⟩,_⟩;rw [F O]at h;omega
 have D:7<=l.length:=by omega
 have S:(l.length-7)%6=0:=by
  have:=h.1.2;rw [F D]at this;omega
 have as1:l.length<=295:=by omega
 refine⟨ah,ah,ah,ah,ah,ah,ah,ah,ah,ah,ah,ah,ah,ah,?_⟩;refine ay (λ(y:List Int×aBm)=>y.1=l/\(∃j:Nat,y.2.1=7+6*j/\7+6*j<=l.length/\y.2.2.2.2.2.2.2.2.2.2.2.2.2.2.1=rH l j)/\y.2.2.2.2.2.2.2.2.1=l.getD 0 default/\y.2.2.2.2.2.2.2.2.2.1=l.getD 1 default/\y.2.2.2.2.2.2.2.2.2.2.1=l.getD 2 default/\y.2.2.2.2.2.2.2.2.2.2.2.1=l.getD 3 default/\y.2.2.2.2.2.2.2.2.2.2.2.2.1=l.getD 4 default/\y.2.2.2.2.2.2.2.2.2.2.2.2.2.1=l.getD 5 default*256+l.getD 6 default) (λy=>(l.length-y.2.1).toNat) ⟨rfl,⟨0,rfl,ah,rfl⟩,rfl,rfl,rfl,rfl,rfl,rfl⟩ ?_;rintro⟨(l:List Int),(J:Int),(z1:Int),(z2:Int),(z3:Int),(z4:Int),(U:Int),(Z:Int),(pc:Int),(len:Int),(fin:Int),(x:Int),(y:Int),(k:Int),(N:List IOp),⟨⟩⟩ hI;dsimp only at hI ⊢;obtain⟨rfl,⟨j,rfl,T,rfl⟩,rfl,rfl,rfl,rfl,rfl,rfl⟩:=hI;have W:(rH l j).length=j:=by unfold rH;rw [length_map,length_range]
 by_cases g:7+6*(j:Int)<l.length
 .have w:IntKind.i64.wrap (7+6*(j:Int)+6)=7+6*(j:Int)+6:=w64 ah ah;have L:((l.take (7+6*(j:Int)+6).toNat).drop (7+6*(j:Int)).toNat).length=6:=by
   rw [length_drop,length_take];omega
  have K:∀t:Int,0<=t->t<6->((l.take (7+6*(j:Int)+6).toNat).drop (7+6*(j:Int)).toNat).getD t.toNat default=l.getD (7+6*j+t.toNat) default:=λt X Y=>by
   rw [getD_eq_getElem?_getD,getElem?_drop,getElem?_take_of_lt ah,<-getD_eq_getElem?_getD,show(7+6*(j:Int)).toNat+t.toNat=7+6*j+t.toNat by omega]
  simp (disch:=omega) only [RR,RB,g,w,L,K,q,p,r,I,length_cons,length_nil];have Q:rH l (j+1)=rH l j++ [rdO l (7+6*j)]:=by unfold rH;rw [range_succ,map_append];rfl
  repeat' apply And.intro
  all_goals first | omega | exact⟨j+1,ah,ah,by rw [Q];rfl⟩
 .have e:7+6*j=l.length:=by omega
  have f:(⟨l.getD 0 default,l.getD 1 default,rH l j,l.getD 2 default,l.getD 3 default,l.getD 4 default,l.getD 5 default*256+l.getD 6 default⟩:Blk)=rdB l:=by
   unfold rdB;rw [show(l.length-7)/6=j by omega]
  have mE:∀(G H:Int) (u:List IOp) (A z E o:Int),Co.mk .blk (G,H,u,A,z,E,o,())=⟨G,H,u,A,z,E,o⟩:=λ_ _ _ _ _ _ _=>rfl
  have M:(rdB l).ops.length<1000000000:=by
   rw [<-f];show(rH l j).length<_;omega
  simp (disch:=omega) only [RR,RB,g,mE,f,P _ M,R _ _ (Ke (rdB l)) c];refine⟨λh=> ?_,λh=> ?_⟩
  .rw [no];rintro⟨_,g⟩;rw [aI g]at h;cases h
  .unfold rdF;rw [if_pos (aI ⟨⟨D,S,as1⟩,aF.1 h⟩),<-f]
abbrev as2(b:bn->Bool)(a:bn->Int×Int×Int×Int×Int×Int×Bool×mF):Prop:=∀l,By l->l.length<1000000000->b (l,())=true/\a (l,())=rdF l
def o5(o:IOp):Int×Int×aAV:=(o.kind,o.x,o.y,o.k,o.at_,())
def Wo(n:Int):Prop:=0<=n/\n<=65535
def Wos(l:List Int):Prop:=∀n∈l,Wo n
structure MOK(m:aD):Prop where
 r4:m.regs.length=4
 rw:Wos m.regs
 m64:m.mem.length=64
 mw:Wos m.mem
 pc:Wo m.pc
 sv:Wo m.save
 iw:Wos m.ins
 ow:Wos m.outs
 ha:0<=m.halt/\m.halt<=4
 ct:0<=m.count/\m.count<=1000000
def Kg(r a b:Int):Bool:=inB a 0 65535&&inB b 0 65535&&decide (r=1/\a=b\/r=2/\a<b)
structure MS where
 m:aD
 vals:List Int
 left:Bool
def vx(s:MS)(o:IOp):Int:=if hX o then((s.vals).getD (o.x).toNat default)else 0
def vy(s:MS)(o:IOp):Int:=if hY o then((s.vals).getD (o.y).toNat default)else 0
def mV(s:MS)(o:IOp):Int:=if o.kind=1 then o.k else if o.kind=2 then((s.m.regs).getD (o.k).toNat default)else if o.kind=3 then wdo o.k (vx s o) (vy s o)else if o.kind=4 then((s.m.mem).getD (vx s o).toNat default)else if o.kind=6 then s.m.ins.getD 0 default else 0
def mM(s:MS)(o:IOp):aD:=if o.kind=5 then {s.m with mem:=s.m.mem.set (vx s o).toNat (vy s o)}else if o.kind=6 then {s.m with ins:=s.m.ins.drop 1}else if o.kind=7 then {s.m with outs:=s.m.outs++ [vx s o]}else if o.kind=8 then {s.m with regs:=s.m.regs.set o.k.toNat (vx s o)}else s.m
def leave(m:aD)(n:Int)(h:Int):aD:={m with halt:=h,pc:=m.pc+n,count:=m.count+n}
def dG(b:Blk)(s:MS)(o:IOp):MS:=
 if s.left=true then s
 else if(o.kind=4\/o.kind=5)/\64<=vx s o then⟨leave s.m o.at_ 3,s.vals,true⟩
 else if o.kind=5/\b.pc+o.at_+1<=vx s o/\vx s o<=b.pc+b.len-1 then⟨leave (mM s o) (o.at_+1) (mM s o).halt,s.vals,true⟩
 else⟨mM s o,s.vals++ [mV s o],false⟩
def Bf(b:Blk)(s:MS):aD:=if s.left=true then s.m else {s.m with count:=s.m.count+b.len,pc:=if b.fin=1 then b.k else if b.fin=2 then((s.vals).getD (b.x).toNat default)else if Kg (b.fin-2) ((s.vals).getD (b.x).toNat default) ((s.vals).getD (b.y).toNat default)=true then b.k else b.pc+b.len}
def Ti:aD:=⟨[],0,[],0,false,false,0,[],[],0⟩
noncomputable def xB (b:Blk) (m:aD):aD×Bool:=if bp (bQ b/\MOK m)=true then(if m.halt≠0\/m.pc≠b.pc\/1000000-b.len<m.count then(m,false)else(Bf b (b.ops.foldl (dG b) ⟨m,[],false⟩),true))else(Ti,false)
def bF(i:Ins):Prop:=(0<=i.op/\i.op<=15)/\(0<=i.d/\i.d<=3)/\(0<=i.a/\i.a<=3)/\0<=i.k/\
 (i.op=0->i.d=0/\i.a=0/\i.k<=3)/\(i.op=1->i.a=0/\i.k<=255)/\(i.op=2->i.k=0)/\(3<=i.op/\i.op<=7->i.k<=3)/\(i.op=8->i.k<=15)/\(9<=i.op/\i.op<=12->i.k<=255)/\(i.op=13->i.d=0/\i.k=0)/\(14<=i.op->i.a=0/\i.k=0)
def FD(i:Ins):Int:=i.op*4096+i.d*1024+i.a*256+i.k
def dI(w:Int):Ins:=⟨w/4096,w/1024%4,w/256%4,w%256⟩
structure nC(pc:Int)(l:List Ins):Prop where
 ln:1<=l.length/\l.length<=8
 pc:0<=pc/\pc<=64-l.length
 ok:∀i:Nat,i<l.length->bF (l.getD i default)/\(l.getD i default).op≠0/\(11<=(l.getD i default).op/\(l.getD i default).op<=13->i+1=l.length)
def gM(n b:Int)(i:Ins):List IOp:=
 if i.op=1 then [⟨1,0,0,i.k,0⟩,⟨8,b,0,i.d,0⟩]
 else if i.op=2 then [⟨2,0,0,i.a,0⟩,⟨8,b,0,i.d,0⟩]
 else if i.op=8 then [⟨2,0,0,i.a,0⟩,⟨1,0,0,2^i.k.toNat,0⟩,⟨3,b,b+1,3,0⟩,⟨8,b+2,0,i.d,0⟩]
 else if i.op=9 then [⟨2,0,0,i.a,0⟩,⟨1,0,0,i.k,0⟩,⟨3,b,b+1,1,0⟩,⟨4,b+2,0,0,n⟩,⟨8,b+3,0,i.d,0⟩]
 else if i.op=10 then [⟨2,0,0,i.a,0⟩,⟨1,0,0,i.k,0⟩,⟨3,b,b+1,1,0⟩,⟨2,0,0,i.d,0⟩,⟨5,b+2,b+3,0,n⟩]
 else if i.op=14 then [⟨2,0,0,i.d,0⟩,⟨7,b,0,0,n⟩]
 else if i.op=15 then [⟨6,0,0,0,n⟩,⟨8,b,0,i.d,0⟩]
 else if i.op=11\/i.op=12 then [⟨2,0,0,i.d,0⟩,⟨2,0,0,i.a,0⟩]
 else if i.op=13 then [⟨2,0,0,i.a,0⟩]
 else [⟨2,0,0,i.a,0⟩,⟨2,0,0,i.k,0⟩,⟨3,b,b+1,i.op-2,0⟩,⟨8,b+2,0,i.d,0⟩]
def dR(n:Int)(b:Blk)(i:Ins):Blk:=
 if i.op=11\/i.op=12 then {b with ops:=b.ops++gM n b.ops.length i,fin:=i.op-8,x:=b.ops.length,y:=b.ops.length+1,k:=i.k}
 else if i.op=13 then {b with ops:=b.ops++gM n b.ops.length i,fin:=2,x:=b.ops.length,k:=0}
 else {b with ops:=b.ops++gM n b.ops.length i}
def pO:Int->Blk->List Ins->Blk
 | _,b,[]=>b
 | n,b,i::r=>pO (n+1) (dR n b i) r
def wI(a:Int)(l:List Ins):Blk:=⟨a,l.length,[],1,0,0,a+l.length⟩
noncomputable def lower (a:Int) (l:List Ins):Blk:=if bp (nC a l)=true then pO 0 (wI a l) l else PN
def adr(m:aD)(i:Ins):Int:=(((m.regs).getD (i.a).toNat default)+i.k)%65536
def eff(m:aD)(i:Ins):aD:=
 if i.op=1 then {m with regs:=m.regs.set i.d.toNat i.k}
 else if i.op=2 then {m with regs:=m.regs.set i.d.toNat ((m.regs).getD (i.a).toNat default)}
 else if i.op=8 then {m with regs:=m.regs.set i.d.toNat (((m.regs).getD (i.a).toNat default)*2^i.k.toNat%65536)}
 else if i.op=9 then {m with regs:=m.regs.set i.d.toNat ((m.mem).getD (adr m i).toNat default)}
 else if i.op=10 then {m with mem:=m.mem.set (adr m i).toNat ((m.regs).getD (i.d).toNat default)}
 else if i.op=14 then {m with outs:=m.outs++ [((m.regs).getD (i.d).toNat default)]}
 else if i.op=15 then {m with regs:=m.regs.set i.d.toNat (m.ins.getD 0 default),ins:=m.ins.drop 1}
 else if i.op=0 then(if i.k=0 then {m with halt:=1}else if i.k=1 then {m with aR:=true}else {m with aR:=decide (i.k=2)})
 else if 11<=i.op then m
 else {m with regs:=m.regs.set i.d.toNat (wdo (i.op-2) ((m.regs).getD (i.a).toNat default) ((m.regs).getD (i.k).toNat default))}
def nxt(m:aD)(i:Ins):Int:=
 if i.op=0/\i.k=1 then m.save
 else if(i.op=11\/i.op=12)/\Kg (i.op-10) ((m.regs).getD (i.d).toNat default) ((m.regs).getD (i.a).toNat default)=true then i.k
 else if i.op=13 then((m.regs).getD (i.a).toNat default)
 else(m.pc+1)%65536
def exec(m:aD)(i:Ins):aD:=if(i.op=9\/i.op=10)/\64<=adr m i then {m with halt:=3}else {eff m i with pc:=nxt m i,count:=m.count+1}
noncomputable def stepM (m:aD) (b:Bool):aD:=
 let w:=m.waits || b
 let a:aD:=if w=true/\m.aR=true then {m with waits:=false,aR:=false,save:=m.pc,pc:=48}else {m with waits:=w}
 if 64<=a.pc then {a with halt:=4}
 else if bp (bF (dI ((a.mem).getD (a.pc).toNat default)))=false then {a with halt:=2}
 else exec a (dI ((a.mem).getD (a.pc).toNat default))
theorem va(v l:List Int)(j:Nat):((v++l).getD ((v.length:Int)+j).toNat default)=l.getD j default:=by
 rw [getD_eq_getElem?_getD,getElem?_append_right ah,<-getD_eq_getElem?_getD,show((v.length:Int)+j).toNat-v.length=j by omega]
theorem Wos.at{l:List Int}(h:Wos l)(i:Int):Wo ((l).getD (i).toNat default):=by
 by_cases c:i.toNat<l.length
 .rw [getD_lt c];exact h _ (getElem_mem _)
 .rw [getD_eq_getElem?_getD,getElem?_eq_none ah];exact⟨by decide,by decide⟩
theorem Qb{k:Int}(c:0<=k)(b:k<=15):Wo (2^k.toNat):=by
 obtain⟨j,rfl⟩:∃j:Nat,k=j:=⟨k.toNat,ah⟩;have:j<=15:=by omega
 rw [show((j:Int)).toNat=j from rfl];have h:(2:Nat)^j<=2^15:=Nat.pow_le_pow_right (by decide) this;have e:((2:Int)^j)=((2^j:Nat):Int):=by simp
 rw [e];have a:(2:Nat)^15=32768:=by decide
 rw [a]at h;generalize (2:Nat)^j=z at h;exact⟨ah,ah⟩
section
variable (B:Blk) (m:aD) (v:List Int)
theorem st2(k:Int):dG B ⟨m,v,false⟩ ⟨2,0,0,k,0⟩=⟨m,v++ [((m.regs).getD (k).toNat default)],false⟩:=by simp [dG,mM,mV]
end
theorem acV(B:Blk)(m:aD)(v:List Int):∀l:List IOp,l.foldl (dG B) ⟨m,v,true⟩=⟨m,v,true⟩
 | []=>rfl
 | o::r=>by rw [foldl_cons,show dG B ⟨m,v,true⟩ o=⟨m,v,true⟩ by simp [dG]];exact acV B m v r
end Go.TX.F
namespace Go.TX.F
open Go Go.AE Go.TX List
def MSh(m:aD):Prop:=m.regs.length<1000000000/\m.mem.length<1000000000/\m.ins.length<1000000000/\m.outs.length<1000000000
abbrev m10(m:aD):aBp:=(m.pc,m.save,m.aR,m.waits,m.halt,m.count,m.regs,m.mem,m.ins,m.outs,())
abbrev mB(m:aD):fE:=(m.pc,m.save,m.aR,m.waits,m.halt,m.ins,m.count,m.regs,m.mem,m.outs,())
def MRB:(∀m:aD,jQ .aj 0 .i64 m=m.regs)/\(∀m:aD,cO .aj 1 m=m.pc)/\(∀m:aD,jQ .aj 2 .i64 m=m.mem)/\(∀m:aD,cO .aj 3 m=m.save)/\(∀m:aD,LM .aj 4 m=m.aR)/\(∀m:aD,LM .aj 5 m=m.waits)/\(∀m:aD,cO .aj 6 m=m.halt)/\(∀m:aD,jQ .aj 7 .i64 m=m.ins)/\(∀m:aD,jQ .aj 8 .i64 m=m.outs)/\(∀m:aD,cO .aj 9 m=m.count):=
 ⟨λ_=>rfl,λ_=>rfl,λ_=>rfl,λ_=>rfl,λ_=>rfl,λ_=>rfl,λ_=>rfl,λ_=>rfl,λ_=>rfl,λ_=>rfl⟩
def zy{a b c:Int}:inB a b c=bp (b<=a/\a<=c):=by rw [fH];simp only [inB,nU]
abbrev as3(b:bn->Bool)(a:bn->fA):Prop:=∀l,l.length<1000000000->b (l,())=true/\a (l,())=(bp (Wos l),())
def ayo{p1 f1 p2 f2 p3 f3}(c:Y9 p1 f1)(f:Y1 p2 f2)(a:as3 p3 f3)(m:aD)(h:MSh m):ag5.F (p1,f1,p2,f2,p3,f3,()) (m,()) (λy=>y=(bp (MOK m),())):=by
 obtain⟨d,e,g,b⟩:=h;dsimp only [ag5,gm];simp (disch:=omega) only [RR,MRB,c,f,a _ d,a _ e,a _ g,a _ b,zy,nU];simp only [<-fH];refine Prod.ext (ig ⟨λh=> ?_,λh=> ?_⟩) rfl
 .obtain⟨⟨⟨⟨⟨⟨⟨⟨⟨h1,h2⟩,h3⟩,h4⟩,h5⟩,h6⟩,h7⟩,h8⟩,h9⟩,h10⟩:=h;exact⟨ah,h3,ah,h4,h5,h6,h7,h8,h9,h10⟩
 .exact⟨⟨⟨⟨⟨⟨⟨⟨⟨by have:=h.r4;omega,by have:=h.m64;omega⟩,h.rw⟩,h.mw⟩,h.pc⟩,h.sv⟩,h.iw⟩,h.ow⟩,h.ha⟩,h.ct⟩
abbrev ayp(b:bn->Bool)(a:bn->bn):Prop:=∀l,l.length<=1073741824->b (l,())=true/\a (l,())=(l,())
def ayq{p1 f1}(a:ayp p1 f1)(m:aD)(h:MSh m):ahV.F (p1,f1,()) (m,()) (λy=>y=m10 m):=by
 obtain⟨c,d,e,b⟩:=h;dsimp only [ahV,gm];simp (disch:=omega) only [RR,MRB,a m.regs ah,a m.mem ah,a m.ins ah,a m.outs ah]
def as4{p1 f1}(c:Y32 p1 f1)(a b:aD)(h:MSh a):X5.F (p1,f1,()) (a,b,()) (λy=>y=(bp (a=b),())):=by
 obtain⟨e,f,g,d⟩:=h;dsimp only [X5,gm];simp (disch:=omega) only [RR,MRB,c _ b.regs e,c _ b.mem f,c _ b.ins g,c _ b.outs d,nU];refine Prod.ext ?_ rfl;have i:∀x y:Bool,(x==y)=bp (x=y):=λx y=>by cases x<;>cases y<;>simp [bp]
 simp only [i,<-fH];refine ig ?_;cases a;cases b;simp only [aD.mk.injEq];constructor<;>(intro h;simp only [h,and_self])
variable{l:List Int}{s:MS}{b:Blk}{a:aD}{i:Nat}
def Wos.set(h:Wos l){n:Int}(w:Wo n)(i:Nat):Wos (l.set i n):=λx a=>(mem_or_eq_of_mem_set a).elim (h x) (λe=>e▸w)
def Wos.drop(h:Wos l)(i:Nat):Wos (l.drop i):=λx a=>h x (mem_of_mem_drop a)
def Wos.snoc(h:Wos l){n:Int}(w:Wo n):Wos (l++ [n]):=λx a=>by
 rw [mem_append,mem_singleton]at a;exact a.elim (h x) (λe=>e▸w)
def wo0:Wo 0:=⟨by decide,by decide⟩
def ai3(h:Wos s.vals)(o:IOp):Wo (vx s o):=by
 unfold vx;split
 .exact h.at _
 .exact wo0
def aor(h:Wos s.vals)(o:IOp):Wo (vy s o):=by
 unfold vy;split
 .exact h.at _
 .exact wo0
def Wos.hd(h:Wos l):Wo (l.getD 0 default):=h.at 0
def aos{o:IOp}(h:Wos s.vals)(k:MOK s.m)(a:o.kind=1->0<=o.k/\o.k<=65535):Wo (mV s o):=by
 unfold mV;split
 .exact a ‹_›
 split
 .exact k.rw.at _
 split
 .exact DT _ _ _
 split
 .exact k.mw.at _
 split
 .exact k.iw.hd
 .exact wo0
def aot(h:Wos s.vals)(k:MOK s.m)(o:IOp):MOK (mM s o):=by
 unfold mM;split
 .exact {k with m64:=by rw [length_set];exact k.m64,mw:=k.mw.set (aor h o) _}
 split
 .exact {k with iw:=k.iw.drop 1}
 split
 .exact {k with ow:=k.ow.snoc (ai3 h o)}
 split
 .exact {k with r4:=by rw [length_set];exact k.r4,rw:=k.rw.set (ai3 h o) _}
 .exact k
def ai4(s:MS)(o:IOp):(mM s o).ins.length<=s.m.ins.length/\(mM s o).outs.length<=s.m.outs.length+1/\(mM s o).regs.length=s.m.regs.length/\(mM s o).mem.length=s.m.mem.length:=by
 unfold mM;split
 .exact⟨Nat.le_refl _,Nat.le_succ _,rfl,length_set⟩
 split
 .exact⟨by rw [length_drop];omega,Nat.le_succ _,rfl,rfl⟩
 split
 .exact⟨Nat.le_refl _,by rw [length_append];exact Nat.le_refl _,rfl,rfl⟩
 split
 .exact⟨Nat.le_refl _,Nat.le_succ _,length_set,rfl⟩
 .exact⟨Nat.le_refl _,Nat.le_succ _,rfl,rfl⟩
def ayr(b:Blk)(s:MS)(o:IOp):(dG b s o).m.ins.length<=s.m.ins.length/\(dG b s o).m.outs.length<=s.m.outs.length+1/\(dG b s o).m.regs.length=s.m.regs.length/\(dG b s o).m.mem.length=s.m.mem.length:=by
 unfold dG;split
 .exact⟨Nat.le_refl _,Nat.le_succ _,rfl,rfl⟩
 split
 .exact⟨Nat.le_refl _,Nat.le_succ _,rfl,rfl⟩
 split
 .exact ai4 s o
 .exact ai4 s o
def Qc(b:Blk):∀(l:List IOp) (s:MS),(l.foldl (dG b) s).m.ins.length<=s.m.ins.length/\(l.foldl (dG b) s).m.outs.length<=s.m.outs.length+l.length/\(l.foldl (dG b) s).m.regs.length=s.m.regs.length/\(l.foldl (dG b) s).m.mem.length=s.m.mem.length
 | [],s=>⟨Nat.le_refl _,Nat.le_refl _,rfl,rfl⟩
 | o::l,s=>by
  rw [foldl_cons];have h:=Qc b l (dG b s o);have k:=ayr b s o;simp only [length_cons];exact⟨ah,ah,ah,ah⟩
theorem acW{m:aD}(a:bQ b)(c:MSh m)(e:m.outs.length<900000000):MSh (Bf b (b.ops.foldl (dG b) ⟨m,[],false⟩)):=by
 have h:=Qc b b.ops ⟨m,[],false⟩;have d:=a.sz;obtain⟨j,i,f,g⟩:=c;dsimp only at h;unfold Bf;split<;>refine⟨?_,?_,?_,?_⟩<;>(try dsimp only)<;>omega
def SM(b:Blk)(a:aD)(i:Nat):MS:=(b.ops.take i).foldl (dG b) ⟨a,[],false⟩
structure RJ(b:Blk)(m0:aD)(i:Nat)(S:MS):Prop where
 e:S=SM b m0 i
 lf:S.left=false
 ln:S.vals.length=i
 wv:Wos S.vals
 ok:MOK S.m
 li:S.m.ins.length<1000000000
 lo:S.m.outs.length<=m0.outs.length+i
def Qd(c:i<b.ops.length):SM b a (i+1)=dG b (SM b a i) (b.ops.getD i default):=by
 unfold SM;rw [take_succ_eq_append_getElem c,foldl_append,getD_lt c];rfl
def acX{m:aD}{v:List Int}(h:SM b a i=⟨m,v,true⟩):b.ops.foldl (dG b) ⟨a,[],false⟩=⟨m,v,true⟩:=by
 conv=>lhs;rw [<-take_append_drop i b.ops]
 rw [foldl_append,show(b.ops.take i).foldl (dG b) ⟨a,[],false⟩=_ from h];exact acV b m v _
def RJ.next{S:MS}{o:IOp}(h:RJ b a i S)(f:i<b.ops.length)(e:b.ops.getD i default=o)(c:o.kind=1->0<=o.k/\o.k<=65535)
  (g:¬((o.kind=4\/o.kind=5)/\64<=vx S o)) (d:¬(o.kind=5/\b.pc+o.at_+1<=vx S o/\vx S o<=b.pc+b.len-1)):RJ b a (i+1) ⟨mM S o,S.vals++ [mV S o],false⟩:=by
 have l:=ai4 S o;refine⟨?_,rfl,by rw [length_append,h.ln];rfl,h.wv.snoc (aos h.wv h.ok c),aot h.wv h.ok o,by have:=h.li;dsimp only;omega,by have:=h.lo;dsimp only;omega⟩;rw [Qd f,<-h.e,e];unfold dG;rw [if_neg (by rw [h.lf];decide),if_neg g,if_neg d]
def as5{i n:Nat}(a:l.length=i)(b:i<n)(v:Int):(l++replicate (n-i) 0).set i v=(l++ [v])++replicate (n- (i+1)) 0:=by
 rw [set_append_right _ _ ah,a,Nat.sub_self,show n-i=(n- (i+1))+1 by omega,replicate_succ,set_cons_zero,append_assoc];rfl
def anl{i n:Nat}(a:i<n):l++replicate (n-i) 0=(l++ [0])++replicate (n- (i+1)) 0:=by
 rw [show n-i=(n- (i+1))+1 by omega,replicate_succ,append_assoc];rfl
def ays{i n:Nat}{x:Int}(a:l.length=i)(b:0<=x)(h:x<i):((l++replicate (n-i) 0).getD (x).toNat default)=((l).getD (x).toNat default):=by
 rw [getD_eq_getElem?_getD,getElem?_append_left ah,<-getD_eq_getElem?_getD]
def as6{i n:Nat}(a:l.length=i)(h:i<=n):(l++replicate (n-i) 0).length=n:=by
 rw [length_append,length_replicate];omega
end Go.TX.F
namespace Go.TX.F
open Go Go.AE Go.TX List
def Qe(a b:Int):Kg 1 a b=(inB a 0 65535&&inB b 0 65535&&decide (a=b)):=by unfold Kg;simp
def Qf(a b:Int):Kg 2 a b=(inB a 0 65535&&inB b 0 65535&&decide (a<b)):=by unfold Kg;simp
def RT(b:Blk)(a:aD)(y:List IOp×Int×Int×Int×Int×Bool×Bool×Int×List Int×Int×List Int×List Int×Blk×wm):Prop:=
 ∃(i:Nat) (S:MS),i<=b.ops.length/\RJ b a i S/\y=(b.ops,(b.ops.length:Int),(i:Int),S.m.pc,S.m.save,S.m.aR,S.m.waits,S.m.halt,S.m.ins,S.m.count,S.m.regs,S.m.mem,b,S.vals++replicate (b.ops.length-i) 0,S.m.outs,())
abbrev aem(b:aAP->Bool)(a:aAP->aBp):Prop:=∀m,MSh m->b (m,())=true/\a (m,())=m10 m
abbrev Tj(b:aAP->Bool)(a:aAP->fA):Prop:=∀m,MSh m->b (m,())=true/\a (m,())=(bp (MOK m),())
def ayt{n:Int}(b:0<=n)(a:n<=15):(oP.getD n.toNat default).d=decide (n≠0/\n≠13)/\(oP.getD n.toNat default).a=decide (n≠0/\n≠1/\n≠14/\n≠15)/\
  (oP.getD n.toNat default).most=(if n=0 then 3 else if n=1 then 255 else if n=2 then 0 else if n<=7 then 3 else if n=8 then 15 else if n<=12 then 255 else 0):=by
 rcases(by omega:n=0\/n=1\/n=2\/n=3\/n=4\/n=5\/n=6\/n=7\/n=8\/n=9\/n=10\/n=11\/n=12\/n=13\/n=14\/n=15)with h | h | h | h | h | h | h | h | h | h | h | h | h | h | h | h<;>subst h<;>exact⟨rfl,rfl,rfl⟩
theorem as7:(oP.length:Int)=16:=rfl
theorem ayu{p1 f1 p2 f2}(n:Y1 p1 f1)(m:Y17 p2 f2)(i:Ins):ahc.F (p1,f1,p2,f2,()) (i,()) (λy=>y=(bp (bF i),())):=by
 have a:(∀i:Ins,cO .ins 0 i=i.op)/\(∀i:Ins,cO .ins 1 i=i.d)/\(∀i:Ins,cO .ins 2 i=i.a)/\(∀i:Ins,cO .ins 3 i=i.k)/\(∀f:Form,LM .form 0 f=f.d)/\(∀f:Form,LM .form 1 f=f.a)/\(∀f:Form,cO .form 2 f=f.most):=⟨λ_=>rfl,λ_=>rfl,λ_=>rfl,λ_=>rfl,λ_=>rfl,λ_=>rfl,λ_=>rfl⟩;have e:ab2 .form=oP:=rfl;dsimp only [ahc,gm];simp (disch:=omega) only [RR,a,n,m,e,as7,bB,jJ];refine⟨λh=>by rw [aT (λg=>h ⟨g.1.1,g.1.2⟩)],λh=> ?_⟩;obtain⟨b,c,d⟩:=ayt h.1 h.2;rw [b,c,d];refine⟨h.1,ah,Prod.ext ?_ rfl⟩;simp only [zy,nU];have l:∀P Q:Prop,(bp P || bp Q)=bp (P\/Q):=λP Q=>by by_cases k:P<;>by_cases j:Q<;>simp [bp,k,j]
 simp only [l,<-fH];refine ig ?_;unfold bF;obtain⟨o,p⟩:=h;rcases(by omega:i.op=0\/i.op=1\/i.op=2\/(3<=i.op/\i.op<=7)\/i.op=8\/(9<=i.op/\i.op<=12)\/i.op=13\/i.op=14\/i.op=15)with h | h | h | h | h | h | h | h | h
 all_goals (constructor<;>intro g<;>(repeat' split at g)<;>(repeat' split)<;>omega)
def ayv{p1 f1}(b:Y1 p1 f1)(a:Int):ahb.F (p1,f1,()) (a,()) (λy=>y=(inB a 11 13,())):=by
 dsimp only [ahb,gm];simp (disch:=omega) only [RR,b]
abbrev ai5(c:dY->Bool)(b:dY->fA):Prop:=∀a,c (a,())=true/\b (a,())=(inB a 11 13,())
abbrev aaH(b:aAY->Bool)(a:aAY->fA):Prop:=∀i,b (i,())=true/\a (i,())=(bp (bF i),())
theorem aAk{p1 f1 p2 f2 p3 f3}(o:ai5 p1 f1)(d:aaH p2 f2)(t:Y1 p3 f3)(k:Int)(l:List Ins)(x:l.length<1000000000):ap8.F (p1,f1,p2,f2,p3,f3,()) (k,l,()) (λy=>y=(bp (nC k l),())):=by
 have p:∀i:Ins,cO .ins 0 i=i.op:=λ_=>rfl
 dsimp only [ap8,gm];simp (disch:=omega) only [RR,p,o,d,t,bB,jJ];refine⟨λh=> ?_,λh=> ?_⟩
 .rw [aT];intro g;have a:=g.ln;have c:=g.pc;omega
 refine ay (λ(y:List Ins×List Ins×ni)=>y.1=l/\y.2.1=l/\y.2.2.1=l.length/\0<=y.2.2.2.1/\y.2.2.2.1<=l.length/\∀j:Nat,j<y.2.2.2.1->bF (l.getD j default)/\(l.getD j default).op≠0/\(11<=(l.getD j default).op/\(l.getD j default).op<=13->j+1=l.length)) (λy=>(l.length-y.2.2.2.1).toNat) ⟨rfl,rfl,rfl,by simp,by simp,λj b=>absurd b (by dsimp only;omega)⟩ ?_;rintro⟨(z:List Ins),(A:List Ins),(n:Int),(i:Int),⟨⟩⟩ hI;dsimp only at hI ⊢;obtain⟨rfl,rfl,rfl,r,w,f⟩:=hI;simp (disch:=omega) only [RR,p,o,d,bB,jJ,aF,gI];refine⟨λg=>⟨r,g,λe=> ?_,λe=>⟨⟨ah,ah,λj b=> ?_⟩,ah⟩⟩,λg=> ?_⟩
 .rw [aT];intro v;have:=v.ok i.toNat ah;rcases e with(e | e) | e
  .exact e this.1
  .exact this.2.1 e
  .have:=this.2.2 e.1;omega
 .by_cases c:j<i
  .exact f j c
  .have ej:j=i.toNat:=by omega
   subst ej;obtain⟨⟨u,s⟩,m⟩:=e;refine⟨u,s,λq=> ?_⟩;rw [bB.2 q,Bool.true_and]at m;have:=of_decide_eq_false m;omega
 .rw [aI];exact⟨ah,ah,λj b=>f j ah⟩
theorem as8{p1 f1}(q:Y61 p1 f1)(g x y k n o i l j m a:Int)(f:List IOp)(h:f.length<1000000):WK.F (p1,f1,()) (g,x,y,k,n,o,i,l,j,m,a,f,()) (λp=>p=((f.length:Int),n,o,i,l,j,m,a,f++ [⟨g,x,y,k,if 4<=g/\g<=7 then a else 0⟩],())):=by
 have mk:∀a b c d e:Int,Co.mk .iop (a,b,c,d,e,())=⟨a,b,c,d,e⟩:=λ_ _ _ _ _=>rfl
 dsimp only [WK,gm];simp (disch:=omega) only [RR,mk,q,evO,length_cons,length_nil,length_append];refine⟨λc=>⟨ah,?_⟩,λc=>⟨ah,?_⟩⟩
 .rw [if_pos c,show((f.length+(0+1):Nat):Int)-1=f.length by omega]
 .rw [if_neg c,show((f.length+(0+1):Nat):Int)-1=f.length by omega]
abbrev ai6(l:sj->Bool)(j:sj->El):Prop:=∀(c x y k e f g d h i a:Int) (b:List IOp),b.length<1000000->l (c,x,y,k,e,f,g,d,h,i,a,b,())=true/\j (c,x,y,k,e,f,g,d,h,i,a,b,())=((b.length:Int),e,f,g,d,h,i,a,b++ [⟨c,x,y,k,if 4<=c/\c<=7 then a else 0⟩],())
def as9{p1 f1}(j:ai6 p1 f1)(k d e f c g i a:Int)(b:List IOp)(h:b.length<1000000):WM.F (p1,f1,()) (k,d,e,f,c,g,i,a,b,()) (λy=>y=((b.length:Int),d,e,f,c,g,i,a,b++ [⟨1,0,0,k,0⟩],())):=by
 dsimp only [WM,gm];simp (disch:=omega) only [RR,j 1 0 0 k d e f c g i a b h];rfl
def ata{p1 f1}(j:ai6 p1 f1)(k d e f c g i a:Int)(b:List IOp)(h:b.length<1000000):WO.F (p1,f1,()) (k,d,e,f,c,g,i,a,b,()) (λy=>y=((b.length:Int),d,e,f,c,g,i,a,b++ [⟨2,0,0,k,0⟩],())):=by
 dsimp only [WO,gm];simp (disch:=omega) only [RR,j 2 0 0 k d e f c g i a b h];rfl
def atb{p1 f1}(k:ai6 p1 f1)(d x y e f g c i j a:Int)(b:List IOp)(h:b.length<1000000):WQ.F (p1,f1,()) (d,x,y,e,f,g,c,i,j,a,b,()) (λz=>z=((b.length:Int),e,f,g,c,i,j,a,b++ [⟨3,x,y,d,0⟩],())):=by
 dsimp only [WQ,gm];simp (disch:=omega) only [RR,k 3 x y d e f g c i j a b h];rfl
theorem atc{p1 f1}(k:ai6 p1 f1)(v:Int)(i:Ins)(d e f c g j a:Int)(b:List IOp)(h:b.length<1000000):WL.F (p1,f1,()) (v,i,d,e,f,c,g,j,a,b,()) (λy=>y=(i,d,e,f,c,g,j,a,b++ [⟨8,v,0,i.d,0⟩],())):=by
 have l:cO .ins 1 i=i.d:=rfl;dsimp only [WL,gm];simp (disch:=omega) only [RR,l,k 8 v 0 i.d d e f c g j a b h];rfl
def anm{k:Int}(a:0<=k)(b:k<=15):gF .shl .i64 1 k=2^k.toNat:=by
 have p:=Qb a b;unfold Wo at p;show IntKind.i64.wrap (1*2^ (min k.toNat 64))=_;rw [Nat.min_eq_left ah,Int.one_mul,w64 ah ah]
set_option maxHeartbeats 1000000 in
def atd{p4 f4}{S:Int×Int×El->Bool}{Q:Int×Int×El->El}{O:El->Bool}{V:El->El}{M:Int×Ins×aBg->Bool}{X:Int×Ins×aBg->Ins×aBg}{N:El->Bool}{T:El->El}(w:∀(L x y j d c e f g a:Int) (b:List IOp),b.length<1000000->S (L,x,y,j,d,c,e,f,g,a,b,())=true/\Q (L,x,y,j,d,c,e,f,g,a,b,())=((b.length:Int),j,d,c,e,f,g,a,b++ [⟨3,x,y,L,0⟩],()))(s:∀(k j d c e f g a:Int) (b:List IOp),b.length<1000000->O (k,j,d,c,e,f,g,a,b,())=true/\V (k,j,d,c,e,f,g,a,b,())=((b.length:Int),j,d,c,e,f,g,a,b++ [⟨2,0,0,k,0⟩],()))(r:∀(v:Int) (i:Ins) (j d c e f g a:Int) (b:List IOp),b.length<1000000->M (v,i,j,d,c,e,f,g,a,b,())=true/\X (v,i,j,d,c,e,f,g,a,b,())=(i,j,d,c,e,f,g,a,b++ [⟨8,v,0,i.d,0⟩],()))(u:ai6 p4 f4)(q:∀(k j d c e f g a:Int) (b:List IOp),b.length<1000000->N (k,j,d,c,e,f,g,a,b,())=true/\T (k,j,d,c,e,f,g,a,b,())=((b.length:Int),j,d,c,e,f,g,a,b++ [⟨1,0,0,k,0⟩],()))(i:Ins)(B:Blk)(a:Int)(h:B.ops.length<900000)(K:i.op=8->0<=i.k/\i.k<=15)(Y:0<=i.op/\i.op<=15):WR.F (S,Q,O,V,M,X,p4,f4,N,T,()) (i,B.pc,B.len,B.fin,B.x,B.y,B.k,a,B.ops,()) (λy=>y=((dR a B i).pc,(dR a B i).len,(dR a B i).fin,(dR a B i).x,(dR a B i).y,(dR a B i).k,a,(dR a B i).ops,())):=by
 have C:(∀i:Ins,cO .ins 0 i=i.op)/\(∀i:Ins,cO .ins 1 i=i.d)/\(∀i:Ins,cO .ins 2 i=i.a)/\(∀i:Ins,cO .ins 3 i=i.k):=⟨λ_=>rfl,λ_=>rfl,λ_=>rfl,λ_=>rfl⟩;have d:∀n:Int,n+1+1=n+2:=λn=>by omega
 have c:∀n:Int,n+2+1=n+3:=λn=>by omega
 have e:∀n:Int,n-3+1=n-2:=λn=>by omega
 obtain⟨Z,a0⟩:=Y;have z:∀(l:List IOp) (o:IOp),((l++ [o]).length:Int)=l.length+1:=λl o=>by rw [length_append];rfl
 have t:∀(l:List IOp) (o:IOp),l.length<990000->(l++ [o]).length<1000000:=λl o h=>by rw [length_append];simp only [length_cons,length_nil];omega
 have m:∀(l:List IOp) (o D:IOp),l.length<990000->((l++ [o])++ [D]).length<1000000:=λl o D h=>by simp only [length_append,length_cons,length_nil];omega
 have p:∀(l:List IOp) (o D I:IOp),l.length<990000->(((l++ [o])++ [D])++ [I]).length<1000000:=λl o D I h=>by simp only [length_append,length_cons,length_nil];omega
 have A:∀(l:List IOp) (o D I U:IOp),l.length<990000->((((l++ [o])++ [D])++ [I])++ [U]).length<1000000:=λl o D I U h=>by simp only [length_append,length_cons,length_nil];omega
 dsimp only [WR,gm];unfold dR gM;by_cases W:i.op=1
 .simp (disch:=first | omega | (apply t;omega) | (apply m;omega) | (apply p;omega) | (apply A;omega)) only [RR,C,W,w,s,r,u,q,z,Int.reduceEq,Int.reduceAdd,Int.reduceSub,Int.reduceLE,or_self,true_and,and_true,and_self,false_and,and_false]
  try simp [d,c]
 by_cases R:i.op=2
 .simp (disch:=first | omega | (apply t;omega) | (apply m;omega) | (apply p;omega) | (apply A;omega)) only [RR,C,R,w,s,r,u,q,z,Int.reduceEq,Int.reduceAdd,Int.reduceSub,Int.reduceLE,or_self,true_and,and_true,and_self,false_and,and_false]
  try simp [d,c]
 by_cases J:i.op=8
 .simp (disch:=first | omega | (apply t;omega) | (apply m;omega) | (apply p;omega) | (apply A;omega)) only [RR,C,J,w,s,r,u,q,z,Int.reduceEq,Int.reduceAdd,Int.reduceSub,Int.reduceLE,or_self,true_and,and_true,and_self,false_and,and_false,anm (K J).1 (K J).2,(K J).1]
  try simp [d,c]
 by_cases P:i.op=9
 .simp (disch:=first | omega | (apply t;omega) | (apply m;omega) | (apply p;omega) | (apply A;omega)) only [RR,C,P,w,s,r,u,q,z,Int.reduceEq,Int.reduceAdd,Int.reduceSub,Int.reduceLE,or_self,true_and,and_true,and_self,false_and,and_false]
  try simp [d,c]
 by_cases H:i.op=10
 .simp (disch:=first | omega | (apply t;omega) | (apply m;omega) | (apply p;omega) | (apply A;omega)) only [RR,C,H,w,s,r,u,q,z,Int.reduceEq,Int.reduceAdd,Int.reduceSub,Int.reduceLE,or_self,true_and,and_true,and_self,false_and,and_false]
  try simp [d,c]
 by_cases F:i.op=14
 .simp (disch:=first | omega | (apply t;omega) | (apply m;omega) | (apply p;omega) | (apply A;omega)) only [RR,C,F,w,s,r,u,q,z,Int.reduceEq,Int.reduceAdd,Int.reduceSub,Int.reduceLE,or_self,true_and,and_true,and_self,false_and,and_false]
  try simp [d,c]
 by_cases G:i.op=15
 .simp (disch:=first | omega | (apply t;omega) | (apply m;omega) | (apply p;omega) | (apply A;omega)) only [RR,C,G,w,s,r,u,q,z,Int.reduceEq,Int.reduceAdd,Int.reduceSub,Int.reduceLE,or_self,true_and,and_true,and_self,false_and,and_false]
  try simp [d,c]
 by_cases E:i.op=11
 .simp (disch:=first | omega | (apply t;omega) | (apply m;omega) | (apply p;omega) | (apply A;omega)) only [RR,C,E,w,s,r,u,q,z,Int.reduceEq,Int.reduceAdd,Int.reduceSub,Int.reduceLE,or_self,true_and,and_true,and_self,false_and,and_false]
  try simp [d,c]
 by_cases e12:i.op=12
 .simp (disch:=first | omega | (apply t;omega) | (apply m;omega) | (apply p;omega) | (apply A;omega)) only [RR,C,e12,w,s,r,u,q,z,Int.reduceEq,Int.reduceAdd,Int.reduceSub,Int.reduceLE,or_self,true_and,and_true,and_self,false_and,and_false]
  try simp [d,c]
 by_cases e13:i.op=13
 .simp (disch:=first | omega | (apply t;omega) | (apply m;omega) | (apply p;omega) | (apply A;omega)) only [RR,C,e13,w,s,r,u,q,z,Int.reduceEq,Int.reduceAdd,Int.reduceSub,Int.reduceLE,or_self,true_and,and_true,and_self,false_and,and_false]
  try simp [d,c]
 simp (disch:=first | omega | (apply t;omega) | (apply m;omega) | (apply p;omega) | (apply A;omega)) only [RR,C,W,R,J,P,H,F,G,E,e12,e13,w,s,r,u,q,z,Int.reduceEq,Int.reduceAdd,Int.reduceSub,Int.reduceLE,or_self,true_and,and_true,and_self,false_and,and_false]
 try simp [d,c,e]
def ai7(n b:Int)(i:Ins):(gM n b i).length<=5:=by
 unfold gM;repeat' split
 all_goals simp only [length_cons,length_nil]
 all_goals omega
def ai8(n:Int)(b:Blk)(i:Ins):(dR n b i).ops.length<=b.ops.length+5:=by
 have:=ai7 n b.ops.length i;unfold dR;repeat' split
 all_goals (dsimp only;rw [length_append];omega)
def AZ:∀(l:List Ins) (n:Int) (b:Blk) (i:Ins),pO n b (l++ [i])=dR (n+l.length) (pO n b l) i
 | [],n,b,i=>by simp [pO]
 | j::l,n,b,i=>by
  show pO (n+1) (dR n b j) (l++ [i])=dR _ (pO (n+1) (dR n b j) l) i;rw [AZ l (n+1) (dR n b j) i,length_cons,show n+1+(l.length:Int)=n+((l.length+1:Nat):Int) by omega]
def D6:∀(l:List Ins) (n:Int) (b:Blk),(pO n b l).ops.length<=b.ops.length+5*l.length
 | [],_,_=>Nat.le_refl _
 | i::l,n,b=>by
  show(pO (n+1) (dR n b i) l).ops.length<=_;have:=D6 l (n+1) (dR n b i);have:=ai8 n b i;rw [length_cons];omega
abbrev ayw(c:l6->Bool)(b:l6->fA):Prop:=∀a l,l.length<1000000000->c (a,l,())=true/\b (a,l,())=(bp (nC a l),())
theorem aAl{p1 f1 p2 f2}{j:Ins×aBg->Bool}{m:Ins×aBg->aBg}(u:ayw p1 f1)(s:Y99 p2 f2)(q:∀(i:Ins) (B:Blk) (a:Int),B.ops.length<900000->(i.op=8->0<=i.k/\i.k<=15)->(0<=i.op/\i.op<=15)->j (i,B.pc,B.len,B.fin,B.x,B.y,B.k,a,B.ops,())=true/\m (i,B.pc,B.len,B.fin,B.x,B.y,B.k,a,B.ops,())=((dR a B i).pc,(dR a B i).len,(dR a B i).fin,(dR a B i).x,(dR a B i).y,(dR a B i).k,a,(dR a B i).ops,()))(f:Int)(l:List Ins)(r:l.length<1000000000):ap9.F (p1,f1,p2,f2,j,m,()) (f,l,()) (λy=>y=bk7 (lower f l)):=by
 have mE:∀c:Blk,Co.mk .blk (c.pc,c.len,c.ops,c.fin,c.x,c.y,c.k,())=c:=λ_=>rfl
 dsimp only [ap9,gm,jo];simp (disch:=omega) only [RR,u f l r,aF,gI];unfold lower;refine⟨λh=>by rw [aT h,if_neg (by decide)];rfl,λh=> ?_⟩;rw [aI h,if_pos rfl];have x:=h.ln;have z:=h.pc;refine ay (λ(y:List Ins×Int×Int×aBm)=>y.1=l/\y.2.1=l.length/\0<=y.2.2.1/\y.2.2.1<=l.length/\∃B:Blk,B=pO 0 (wI f l) (l.take y.2.2.1.toNat)/\y.2.2.2.2.2.2.2.2.2.1=B.pc/\y.2.2.2.2.2.2.2.2.2.2.1=B.len/\y.2.2.2.2.2.2.2.2.2.2.2.1=B.fin/\y.2.2.2.2.2.2.2.2.2.2.2.2.1=B.x/\y.2.2.2.2.2.2.2.2.2.2.2.2.2.1=B.y/\y.2.2.2.2.2.2.2.2.2.2.2.2.2.2.1=B.k/\y.2.2.2.2.2.2.2.2.2.2.2.2.2.2.2.2.1=B.ops) (λy=>(l.length-y.2.2.1).toNat) ⟨rfl,rfl,by simp,by simp,_,rfl,rfl,rfl,rfl,rfl,rfl,w64 ah ah,rfl⟩ ?_;rintro⟨(b:List Ins),(n:Int),(i:Int),z1,z2,z3,z4,z5,z6,q1,q2,q3,q4,q5,q6,q7,q8,⟨⟩⟩ hI;dsimp only at hI ⊢;obtain⟨rfl,rfl,k,v,B,g,rfl,rfl,rfl,rfl,rfl,rfl,rfl⟩:=hI;have w:B.ops.length<=40:=by
  have:=D6 (b.take i.toNat) 0 (wI f b);rw [<-g]at this;have t:=length_take_le i.toNat b;have:(wI f b).ops.length=0:=rfl;omega
 by_cases c:i<b.length
 .obtain⟨o1,o2,o3⟩:=h.ok i.toNat ah;have p:(((b).getD (i).toNat default)).op=8->0<=(((b).getD (i).toNat default)).k/\(((b).getD (i).toNat default)).k<=15:=λe=>⟨o1.2.2.2.1,o1.2.2.2.2.2.2.2.2.1 e⟩
  have o:=o1.1;simp (disch:=omega) only [RR,c,q (((b).getD (i).toNat default)) B i ah p o];refine⟨k,⟨ah,ah,dR i B (((b).getD (i).toNat default)),?_,rfl,rfl,rfl,rfl,rfl,rfl,rfl⟩,ah⟩;rw [<-bg (d:=default) k c rfl,AZ,<-g,length_take,show(0:Int)+((min i.toNat b.length:Nat):Int)=i by omega]
 .rw [take_of_length_le ah]at g;simp (disch:=omega) only [RR,c,mE,s B ah,<-g]
def OKS(ops:List IOp)(len:Int):Prop:=∀j:Int,0<=j->j<ops.length->oW ops len j ((ops).getD (j).toNat default)
theorem ayx{a w:List IOp}{x:Int}(b:0<=x)(h:x<a.length):((a++w).getD (x).toNat default)=((a).getD (x).toNat default):=by
 rw [getD_eq_getElem?_getD,getElem?_append_left ah,<-getD_eq_getElem?_getD]
theorem ayy{a w:List IOp}{t:Nat}:((a++w).getD ((a.length:Int)+t).toNat default)=w.getD t default:=by
 rw [getD_eq_getElem?_getD,getElem?_append_right ah,<-getD_eq_getElem?_getD,show((a.length:Int)+t).toNat-a.length=t by omega]
theorem Vl.mono{d w:List IOp}{x n e:Int}(h:Vl d x n)(f:n<=d.length)(h2:n<=e):Vl (d++w) x e:=by
 obtain⟨a,b,c⟩:=h;exact⟨a,ah,by rw [ayx a ah];exact c⟩
theorem oW.mono{a w:List IOp}{len i:Int}{o:IOp}(h:oW a len i o)(b:i<=a.length):oW (a++w) len i o:=
 {h with x1:=λg=>(h.x1 g).mono b (Int.le_refl _),y1:=λg=>(h.y1 g).mono b (Int.le_refl _)}
theorem OKS.app{a w:List IOp}{len:Int}(h:OKS a len)(d:∀t:Nat,t<w.length->oW (a++w) len ((a.length:Int)+t) (w.getD t default)):OKS (a++w) len:=λj b e=>by
 rw [length_append]at e;by_cases c:j<a.length
 .rw [ayx b c];exact(h j b c).mono ah
 .obtain⟨t,rfl⟩:∃t:Nat,j=(a.length:Int)+t:=⟨(j-a.length).toNat,ah⟩;rw [ayy];exact d t ah
theorem acY(a w:List IOp)(s t:Nat)(h:s<t)(m:mkV (w.getD s default)):Vl (a++w) ((a.length:Int)+s) ((a.length:Int)+t):=⟨ah,ah,by rw [ayy];exact m⟩
section
variable {ops:List IOp} {len i x y k n:Int}
theorem ok1(h:0<=k/\k<=65535):oW ops len i ⟨1,0,0,k,0⟩:=by constructor<;>simp [hX,hY,evO]<;>omega
theorem ok2(h:0<=k/\k<=3):oW ops len i ⟨2,0,0,k,0⟩:=by constructor<;>simp [hX,hY,evO]<;>omega
theorem ok3(h:1<=k/\k<=5)(b:Vl ops x i)(a:Vl ops y i):oW ops len i ⟨3,x,y,k,0⟩:=by constructor<;>simp [hX,hY,evO,b,a]<;>omega
theorem ok4(h:0<=n/\n<len)(a:Vl ops x i):oW ops len i ⟨4,x,0,0,n⟩:=by constructor<;>simp [hX,hY,evO,a]<;>omega
theorem ok5(h:0<=n/\n<len)(b:Vl ops x i)(a:Vl ops y i):oW ops len i ⟨5,x,y,0,n⟩:=by constructor<;>simp [hX,hY,evO,b,a]<;>omega
theorem ok6(h:0<=n/\n<len):oW ops len i ⟨6,0,0,0,n⟩:=by constructor<;>simp [hX,hY,evO]<;>omega
theorem ok7(h:0<=n/\n<len)(a:Vl ops x i):oW ops len i ⟨7,x,0,0,n⟩:=by constructor<;>simp [hX,hY,evO,a]<;>omega
theorem ok8(h:0<=k/\k<=3)(a:Vl ops x i):oW ops len i ⟨8,x,0,k,0⟩:=by constructor<;>simp [hX,hY,evO,a]<;>omega
end
theorem acZ{ops:List IOp}{len n:Int}{i:Ins}(h:OKS ops len)(G:bF i)(K:i.op≠0)(hn:0<=n/\n<len):OKS (ops++gM n ops.length i) len/\
  (i.op=11\/i.op=12->Vl (ops++gM n ops.length i) ops.length ((ops++gM n ops.length i).length)/\Vl (ops++gM n ops.length i) (ops.length+1) ((ops++gM n ops.length i).length))/\
  (i.op=13->Vl (ops++gM n ops.length i) ops.length ((ops++gM n ops.length i).length)):=by
 obtain⟨⟨N,L⟩,⟨o,l⟩,⟨p,q⟩,A,_,E,M,D,J,B,F,H⟩:=G;have k:=λ(w:List IOp) (t:Nat) (h:0<t) (m:mkV (w.getD 0 default))=>show Vl (ops++w) (ops.length:Int) ((ops.length:Int)+t)from by have:=acY ops w 0 t h m;rwa [Int.natCast_zero,Int.add_zero]at this
 have s:=λ(w:List IOp) (t:Nat) (h:1<t) (m:mkV (w.getD 1 default))=>acY ops w 1 t h m
 have v:=λ(w:List IOp) (t:Nat) (h:2<t) (m:mkV (w.getD 2 default))=>acY ops w 2 t h m
 have z:=λ(w:List IOp) (t:Nat) (h:3<t) (m:mkV (w.getD 3 default))=>acY ops w 3 t h m
 have x:∀a b c d:Int,mkV ⟨1,a,b,c,d⟩:=λ_ _ _ _=>by unfold mkV;dsimp only;omega
 have j:∀a b c d:Int,mkV ⟨2,a,b,c,d⟩:=λ_ _ _ _=>by unfold mkV;dsimp only;omega
 have u:∀a b c d:Int,mkV ⟨3,a,b,c,d⟩:=λ_ _ _ _=>by unfold mkV;dsimp only;omega
 have I:∀a b c d:Int,mkV ⟨4,a,b,c,d⟩:=λ_ _ _ _=>by unfold mkV;dsimp only;omega
 have C:∀a b c d:Int,mkV ⟨6,a,b,c,d⟩:=λ_ _ _ _=>Or.inr rfl
 rcases(by omega:i.op=1\/i.op=2\/(3<=i.op/\i.op<=7)\/i.op=8\/i.op=9\/i.op=10\/(i.op=11\/i.op=12)\/i.op=13\/i.op=14\/i.op=15)with c | c | c | c | c | c | c | c | c | c
 .have e:gM n ops.length i=[⟨1,0,0,i.k,0⟩,⟨8,ops.length,0,i.d,0⟩]:=by unfold gM;rw [if_pos c]
  rw [e];refine⟨h.app λt f=> ?_,λg=>by omega,λg=>by omega⟩;rcases t with _ | _ | t
  .exact ok1 (by have:=E c;omega)
  .exact ok8 ⟨o,l⟩ (k _ 1 (by decide) (x _ _ _ _))
  .simp only [length_cons,length_nil]at f;omega
 .have e:gM n ops.length i=[⟨2,0,0,i.a,0⟩,⟨8,ops.length,0,i.d,0⟩]:=by unfold gM;rw [if_neg ah,if_pos c]
  rw [e];refine⟨h.app λt f=> ?_,λg=>by omega,λg=>by omega⟩;rcases t with _ | _ | t
  .exact ok2 ⟨p,q⟩
  .exact ok8 ⟨o,l⟩ (k _ 1 (by decide) (j _ _ _ _))
  .simp only [length_cons,length_nil]at f;omega
 .have e:gM n ops.length i=[⟨2,0,0,i.a,0⟩,⟨2,0,0,i.k,0⟩,⟨3,ops.length,ops.length+1,i.op-2,0⟩,⟨8,ops.length+2,0,i.d,0⟩]:=by
   unfold gM
   iterate 9 rw [if_neg ah]
  rw [e];refine⟨h.app λt f=> ?_,λg=>by omega,λg=>by omega⟩;rcases t with _ | _ | _ | _ | t
  .exact ok2 ⟨p,q⟩
  .exact ok2 ⟨A,D c⟩
  .exact ok3 ah (k _ 2 (by decide) (j _ _ _ _)) (s _ 2 (by decide) (j _ _ _ _))
  .exact ok8 ⟨o,l⟩ (v _ 3 (by decide) (u _ _ _ _))
  .simp only [length_cons,length_nil]at f;omega
 .have e:gM n ops.length i=[⟨2,0,0,i.a,0⟩,⟨1,0,0,2^i.k.toNat,0⟩,⟨3,ops.length,ops.length+1,3,0⟩,⟨8,ops.length+2,0,i.d,0⟩]:=by
   unfold gM;rw [if_neg ah,if_neg ah,if_pos c]
  rw [e];refine⟨h.app λt f=> ?_,λg=>by omega,λg=>by omega⟩;rcases t with _ | _ | _ | _ | t
  .exact ok2 ⟨p,q⟩
  .exact ok1 (Qb A (J c))
  .exact ok3 (by decide) (k _ 2 (by decide) (j _ _ _ _)) (s _ 2 (by decide) (x _ _ _ _))
  .exact ok8 ⟨o,l⟩ (v _ 3 (by decide) (u _ _ _ _))
  .simp only [length_cons,length_nil]at f;omega
 .have e:gM n ops.length i=[⟨2,0,0,i.a,0⟩,⟨1,0,0,i.k,0⟩,⟨3,ops.length,ops.length+1,1,0⟩,⟨4,ops.length+2,0,0,n⟩,⟨8,ops.length+3,0,i.d,0⟩]:=by
   unfold gM;rw [if_neg ah,if_neg ah,if_neg ah,if_pos c]
  have r:=B ah;rw [e];refine⟨h.app λt f=> ?_,λg=>by omega,λg=>by omega⟩;rcases t with _ | _ | _ | _ | _ | t
  .exact ok2 ⟨p,q⟩
  .exact ok1 ah
  .exact ok3 (by decide) (k _ 2 (by decide) (j _ _ _ _)) (s _ 2 (by decide) (x _ _ _ _))
  .exact ok4 hn (v _ 3 (by decide) (u _ _ _ _))
  .exact ok8 ⟨o,l⟩ (z _ 4 (by decide) (I _ _ _ _))
  .simp only [length_cons,length_nil]at f;omega
 .have e:gM n ops.length i=[⟨2,0,0,i.a,0⟩,⟨1,0,0,i.k,0⟩,⟨3,ops.length,ops.length+1,1,0⟩,⟨2,0,0,i.d,0⟩,⟨5,ops.length+2,ops.length+3,0,n⟩]:=by
   unfold gM;rw [if_neg ah,if_neg ah,if_neg ah,if_neg ah,if_pos c]
  have r:=B ah;rw [e];refine⟨h.app λt f=> ?_,λg=>by omega,λg=>by omega⟩;rcases t with _ | _ | _ | _ | _ | t
  .exact ok2 ⟨p,q⟩
  .exact ok1 ah
  .exact ok3 (by decide) (k _ 2 (by decide) (j _ _ _ _)) (s _ 2 (by decide) (x _ _ _ _))
  .exact ok2 ⟨o,l⟩
  .exact ok5 hn (v _ 4 (by decide) (u _ _ _ _)) (z _ 4 (by decide) (j _ _ _ _))
  .simp only [length_cons,length_nil]at f;omega
 .have e:gM n ops.length i=[⟨2,0,0,i.d,0⟩,⟨2,0,0,i.a,0⟩]:=by
   unfold gM
   iterate 7 rw [if_neg ah]
   rw [if_pos c]
  have y:∀a b:IOp,(((ops++ [a,b]).length:Nat):Int)=(ops.length:Int)+((2:Nat):Int):=λa b=>by rw [length_append];rfl
  rw [e];refine⟨h.app λt f=> ?_,λg=> ?_,λg=>by omega⟩
  .rcases t with _ | _ | t
   .exact ok2 ⟨o,l⟩
   .exact ok2 ⟨p,q⟩
   .simp only [length_cons,length_nil]at f;omega
  .rw [y];exact⟨k _ 2 (by decide) (j _ _ _ _),s _ 2 (by decide) (j _ _ _ _)⟩
 .have e:gM n ops.length i=[⟨2,0,0,i.a,0⟩]:=by
   unfold gM
   iterate 8 rw [if_neg ah]
   rw [if_pos c]
  have y:∀a:IOp,(((ops++ [a]).length:Nat):Int)=(ops.length:Int)+((1:Nat):Int):=λa=>by rw [length_append];rfl
  rw [e];refine⟨h.app λt f=> ?_,λg=>by omega,λg=> ?_⟩
  .rcases t with _ | t
   .exact ok2 ⟨p,q⟩
   .simp only [length_cons,length_nil]at f;omega
  .rw [y];exact k _ 1 (by decide) (j _ _ _ _)
 .have e:gM n ops.length i=[⟨2,0,0,i.d,0⟩,⟨7,ops.length,0,0,n⟩]:=by
   unfold gM
   iterate 5 rw [if_neg ah]
   rw [if_pos c]
  rw [e];refine⟨h.app λt f=> ?_,λg=>by omega,λg=>by omega⟩;rcases t with _ | _ | t
  .exact ok2 ⟨o,l⟩
  .exact ok7 hn (k _ 1 (by decide) (j _ _ _ _))
  .simp only [length_cons,length_nil]at f;omega
 .have e:gM n ops.length i=[⟨6,0,0,0,n⟩,⟨8,ops.length,0,i.d,0⟩]:=by
   unfold gM
   iterate 6 rw [if_neg ah]
   rw [if_pos c]
  rw [e];refine⟨h.app λt f=> ?_,λg=>by omega,λg=>by omega⟩;rcases t with _ | _ | t
  .exact ok6 hn
  .exact ok8 ⟨o,l⟩ (k _ 1 (by decide) (C _ _ _ _))
  .simp only [length_cons,length_nil]at f;omega
end Go.TX.F
