/- For every input the law returns true, and the input reads as it did. No condition. -/
import Derived.Test.YthhkbfpkkbhibaaGreatDoorZd
import Derived.ChangeSlices
import Derived.ChangeSame
import Derived.JoinedOf
import Derived.JoinedAt
import Derived.Handed
import Derived.Below
import Derived.Carry
import Derived.OpenShut
import Derived.ChangeKeysEq
import Derived.Deep.Slices
import Derived.OpenVars
import Derived.LaidMore
import Derived.MakeChecks
import Derived.Deep.Strs
import Derived.Test.YthhkbfpkkbhibaaGreatDoorY
import Derived.Test.YthhkbfpkkbhibaaGreatDoorRows
import Derived.Test.YthhkbfpkkbhibaaGreatDoorTie
import Derived.Test.YthhkbfpkkbhibaaGreatDoorCards
import Derived.SevenTiedAt
set_option maxHeartbeats 1000000
set_option linter.all false
set_option linter.unusedSectionVars false
set_option linter.unusedVariables false
set_option linter.unusedSimpArgs false
namespace Go.TX.F
open Go Go.AE Go.TX
def KpD(b:List Int)(p:Int)(y:List Int×List Int×Int×List Cac×Unit):Prop:=
 ∃(e:Eng) (p':Int),EgS e 1000/\p<=p'/\p'<=p+30000000/\y=(e.dJ.mem,b,p',e.cache,())
structure ard(pp:List Int×Int×Unit->Bool)(ff:List Int×Int×Unit->List Int×Int×Int×Bool×Bool×Int×List Int×List Int×Int×List Int×Int×List Cer×List Int×List Cac×Unit):Prop where
 hp:∀b p,Bt b->0<=p->p<300000000->pp (b,p,())=true
 hf:∀b p,Bt b->0<=p->p<300000000->EnD b p (ff (b,p,()))
structure arf(pp:List Int×Int×Unit->Bool)(ff:List Int×Int×Unit->List Int×List Int×Int×List Cac×Unit):Prop where
 hp:∀b p,Bt b->0<=p->p<100000000->pp (b,p,())=true
 hf:∀b p,Bt b->0<=p->p<100000000->KpD b p (ff (b,p,()))
def PuD(y:List Cac×Cac×Unit):Prop:=ShK y.1/\y.2.1.words.length<1000/\y.2.1.blk.ops.length<1000000/\y.2.1.blk.pc<=1000000
def ShK.add{l:List Cac}(h:ShK l)(n:l.length<999){x:Cac}(h1:x.words.length<1000)(h2:x.blk.ops.length<1000000)(h3:x.blk.pc<=1000000):ShK (l++ [x]):=by
 refine⟨by rw [List.length_append,List.length_singleton];omega,λc hc=> ?_⟩;rw [List.mem_append,List.mem_singleton]at hc;rcases hc with g | rfl
 .exact h.2 c g
 .exact⟨h1,h2,h3⟩
structure arh(pp:Cac×Cac×Unit->Bool)(ff:Cac×Cac×Unit->Bool×Cac×Unit):Prop where
 hp:∀e x,pp (e,x,())=true
 hf:∀e x,ff (e,x,())=(decide (e.blk.pc=x.blk.pc),x,())
structure Ko(P:Cac->Bool)(l L:List Cac)(i j:Int):Prop where
 i0:0<=i
 ij:i<=j
 jl:j<=l.length
 len:L.length=l.length
 a:L.take i.toNat=(l.take j.toNat).filter P
 b:∀k:Nat,j<=k->L.getD k default=l.getD k default
def Ko.keep{P:Cac->Bool}{l L:List Cac}{i j:Int}(h:Ko P l L i j)(hj:j<l.length)(hp:P ((L).getD (j).toNat default)=true):Ko P l (L.set i.toNat ((L).getD (j).toNat default)) (i+1) (j+1):=by
 obtain⟨i0,ij,jl,len,a,b⟩:=h;have ej:((L).getD (j).toNat default)=((l).getD (j).toNat default):=b j.toNat ah;rw [ej]at hp ⊢;refine⟨ah,ah,ah,by rw [List.length_set];exact len,?_,λk hk=> ?_⟩
 .rw [Bc (d:=default) ah hj,if_pos hp,<-a,show(i+1).toNat=i.toNat+1 by omega,List.take_succ_eq_append_getElem (by rw [List.length_set];omega),List.getElem_set_self,List.take_set_of_le (Nat.le_refl _)]
 .rw [<-b k ah,List.getD_eq_getElem?_getD,List.getD_eq_getElem?_getD,List.getElem?_set_ne ah,<-List.getD_eq_getElem?_getD]
def Ko.skip{P:Cac->Bool}{l L:List Cac}{i j:Int}(h:Ko P l L i j)(hj:j<l.length)(hp:P ((L).getD (j).toNat default)=false):Ko P l L i (j+1):=by
 obtain⟨i0,ij,jl,len,a,b⟩:=h;have ej:((L).getD (j).toNat default)=((l).getD (j).toNat default):=b j.toNat ah;rw [ej]at hp;refine⟨ah,ah,ah,len,?_,λk hk=>b k ah⟩;rw [Bc (d:=default) ah hj,if_neg (by rw [hp];decide),List.append_nil,a]
def Ko.fin{P:Cac->Bool}{l L:List Cac}{i j:Int}(h:Ko P l L i j)(hj:¬j<l.length):L.take i.toNat=l.filter P:=by
 rw [h.a,List.take_of_length_le (by have:=h.jl;omega)]
structure ari(pp:List Cac×Unit->Bool)(ff:List Cac×Unit->List Cac×Unit):Prop where
 hp:∀l,ShK l->pp (l,())=true
 hf:∀l,ShK l->ff (l,())=(l,())
structure arj(pp:List Cac×Cac×Unit->Bool)(ff:List Cac×Cac×Unit->List Cac×Unit):Prop where
 hp:∀l e,ShK l->e.words.length<1000->e.blk.ops.length<1000000->e.blk.pc<=1000000->pp (l,e,())=true
 hf:∀l e,ShK l->e.words.length<1000->e.blk.ops.length<1000000->e.blk.pc<=1000000->ff (l,e,())=(amN l e,())
structure ark(pp:List Cac×List Cac×Unit->Bool)(ff:List Cac×List Cac×Unit->Bool×Unit):Prop where
 hp:∀a b,ShK a->pp (a,b,())=true
 hf:∀a b,ShK a->ff (a,b,())=(bp (a=b),())
structure arl(pp:List Int×Unit->Bool)(ff:List Int×Unit->List Cac×Cac×Unit):Prop where
 hp:∀c,By c->c.length<1000000000->pp (c,())=true
 hf:∀c,By c->c.length<1000000000->PuD (ff (c,()))
def Yw(a b:List Int)(ha:a.length<1000000000):NU.F () (a,b,()) (λy=>y=(bp (a=b),())):=by
 dsimp only [NU,gm];simp (disch:=omega) only [RR];refine⟨λh=> ?_,λh=> ?_⟩
 .rw [aY (λe=>h (by rw [e]))]
 have hl:a.length=b.length:=by omega
 refine ak (λ(y:List Int×List Int×Int×Int×Unit)=>y.1=a/\y.2.1=b/\y.2.2.1=a.length/\0<=y.2.2.2.1/\y.2.2.2.1<=a.length/\All y.2.2.2.1 (λi=>a.getD i.toNat default=b.getD i.toNat default)) (λy=>(a.length-y.2.2.2.1).toNat) ⟨rfl,rfl,rfl,by simp,by simp,All.zero⟩ ?_;rintro⟨(l1:List Int),(l2:List Int),(n:Int),(i:Int),⟨⟩⟩ hI;dsimp only at hI ⊢;obtain⟨rfl,rfl,rfl,h1,h2,h3⟩:=hI;simp (disch:=omega) only [RR];refine⟨λh4=>⟨h1,h4,h1,ah,λh5=> ?_,λh5=>⟨⟨ah,ah,h3.snoc h5⟩,ah⟩⟩,λh4=> ?_⟩
 .rw [aY];intro e;rw [e]at h5;exact h5 rfl
 .rw [aW (jW hl (h3.le ah))]
def FQ{w mem:List Int}{pc:Int}(p0:0<=pc)(hw:0<w.length):There w mem pc↔pc+w.length<=mem.length/\(mem.take (pc+w.length).toNat).drop pc.toNat=w:=by
 have gt:∀k:Nat,k<w.length->pc+w.length<=mem.length->((mem.take (pc+w.length).toNat).drop pc.toNat).getD k default=((mem).getD (pc+k).toNat default):=λk hk h=>by
  rw [List.getD_eq_getElem?_getD,List.getElem?_drop,List.getElem?_take_of_lt ah,<-List.getD_eq_getElem?_getD,show pc.toNat+k=(pc+k).toNat by omega]
 refine⟨λh=> ?_,λ⟨h,e⟩ k k0 k1=>⟨ah,?_⟩⟩
 .have e:=(h ((w.length:Int)-1) ah ah).1;have hl:pc+w.length<=mem.length:=by omega
  refine⟨hl,List.ext_getElem (by rw [List.length_drop,List.length_take];omega) λn h1 h2=> ?_⟩;have:=(h n ah ah).2;rw [<-gt n h2 hl,getD_lt h1,Int.toNat_natCast,getD_lt h2]at this;exact this
 .have:=gt k.toNat ah h;rw [e,show pc+((k.toNat:Nat):Int)=pc+k by omega]at this;exact this.symm
def apS{p1 f1 p2 f2}(U1:Y1 p1 f1)(U2:Y32 p2 f2)(e:Cac)(mem:List Int)(hw:e.words.length<1000000000)(hm:mem.length<1000000000):afv.F (p1,f1,p2,f2,()) (e,mem,()) (λy=>y=(Bb mem e,())):=by
 dsimp only [afv,gm];simp (disch:=omega) only [RR,CAB,U1.hp,U1.hf];refine⟨λz=> ?_,λz=> ?_⟩
 .refine Prod.ext ?_ rfl;show decide (0<=e.blk.pc)=Bb mem e;rw [Bool.eq_iff_iff,decide_eq_true_eq,Bb,aO];exact⟨λh=>⟨h,λk k0 k1=>by omega⟩,λh=>h.1⟩
 .by_cases c:inB e.blk.pc 0 (mem.length-e.words.length)=true
  .obtain⟨c0,c1⟩:=bM.1 c;have w:IntKind.i64.wrap (e.blk.pc+e.words.length)=e.blk.pc+e.words.length:=w64 ah ah;have dl:(List.drop e.blk.pc.toNat (List.take (e.blk.pc+e.words.length).toNat mem)).length<1000000000:=by rw [List.length_drop,List.length_take];omega
   rw [w,c,U2.hf _ _ dl];refine⟨Or.inr c0,Or.inr ah,Or.inr ah,Or.inr (U2.hp _ _ dl),?_⟩;rw [Bool.true_and];refine Prod.ext (kM ?_) rfl;rw [FQ c0 ah];exact⟨λh=>⟨c0,ah,h⟩,λh=>h.2.2⟩
  .have c':inB e.blk.pc 0 (mem.length-e.words.length)=false:=by simpa using c
   rw [c'];refine⟨Or.inl rfl,Or.inl rfl,Or.inl rfl,Or.inl rfl,?_⟩;rw [Bool.false_and];refine Prod.ext (aY λh=>c (bM.2 ⟨h.1,?_⟩)).symm rfl;have:=((FQ h.1 ah).1 h.2).1;omega
structure apT(pp:Cac×List Int×Unit->Bool)(ff:Cac×List Int×Unit->Bool×Unit):Prop where
 hp:∀e mem,e.words.length<1000000000->mem.length<1000000000->pp (e,mem,())=true
 hf:∀e mem,e.words.length<1000000000->mem.length<1000000000->ff (e,mem,())=(Bb mem e,())
structure arn(pp:Cac×List Int×Unit->Bool)(ff:Cac×List Int×Unit->Bool×List Int×Unit):Prop where
 hp:∀e mem,e.words.length<1000->mem.length<1000000000->e.blk.pc<=1000000->pp (e,mem,())=true
 hf:∀e mem,e.words.length<1000->mem.length<1000000000->e.blk.pc<=1000000->ff (e,mem,())=(!Bb mem e,mem,())
structure EoD(b:List Int)(p:Int)(y:Eng×List Int×Int×Unit):Prop where
 m:MSh y.1.dJ
 o:y.1.dJ.outs.length<=2000
 k:ShK y.1.cache
 kl:y.1.cache.length<=10
 c:ShC y.1.lH
 cl:y.1.lH.length<=10
 b:y.2.1=b
 lo:p<=y.2.2.1
 hi:y.2.2.1<=p+40000000
def ShK.set{l:List Cac}(h:ShK l)(i:Nat){x:Cac}(h1:x.words.length<1000)(h2:x.blk.ops.length<1000000)(h3:x.blk.pc<=1000000):ShK (l.set i x):=by
 refine⟨by rw [List.length_set];exact h.1,λc hc=> ?_⟩;rcases List.mem_or_eq_of_mem_set hc with g | rfl
 .exact h.2 c g
 .exact⟨h1,h2,h3⟩
def adw:∀w:List Int,iy w=FP w
 | []=>rfl
 | w::r=>by unfold iy FP;rw [adw r]
def mP.e{x:Cac}(h:mP x):Yu x:=by
 unfold mP at h;rw [adw]at h;exact⟨h.1,h.2.1,h.2.2⟩
def There.c{x:Cac}{mem:List Int}(p:0<=x.blk.pc)(h:There x.words mem x.blk.pc):amL x mem:=⟨p,λt ht=>h t ah ah⟩
structure KpE(l:List Cac)(cs:List Cer):Prop where
 n:l.length<=4
 r:∀x∈l,mP x
 u:l.Pairwise λa b=>a.blk.pc≠b.blk.pc
 p:Q0 cs
structure TuL(e:Eng)(q:List Int)(left:Int)(x:Eng)(k:Nat):Prop where
 ok:amP x
 k1:1<=k
 kl:(k:Int)<=left
 run:aha q k e.dJ=x.dJ
 cnt:(k:Int)=x.dJ.count-e.dJ.count+(if 2<=x.dJ.halt then 1 else 0)
def Rb(l:List Cac)(mem:List Int)(j:Int):Prop:=Bb mem ((l).getD (j).toNat default)=true/\mP ((l).getD (j).toNat default)/\FC l (((l).getD (j).toNat default)).blk.pc j
def Rc(l:List Cac)(mem:List Int):Au l mem↔l.length<=4/\∀j:Int,0<=j->j<l.length->Rb l mem j:=by
 refine⟨λ⟨h1,h2,h3⟩=>⟨h1,λj j0 j1=> ?_⟩,λ⟨h1,h2⟩=>⟨h1,λj j0 j1=> ?_,λi j i0 ij j1 e=> ?_⟩⟩
 .obtain⟨a,b⟩:=h2 j j0 j1;exact⟨aW ⟨a.2.1.pc.1,b⟩,a,Or.inr ⟨j0,j1,rfl,λi i0 i1=>h3 i j i0 i1 j1⟩⟩
 .obtain⟨a,b,_⟩:=h2 j j0 j1;exact⟨b,(aO.1 (show bp _=true from a)).2⟩
 .obtain⟨_,_,c⟩:=h2 j ah j1;rcases c with⟨c,_⟩ | ⟨_,_,_,c⟩
  .omega
  .exact c i i0 ij e
def adx(l:List Int)(m:Int)(h:l.length<9223372036854775808)(h0:0<=m)(h1:m<=1048576):VD.F () (l,m,()) (λy=>y=(szL l.length m,())):=by
 dsimp only [VD,gm];simp (disch:=omega) only [RR];unfold szL;refine⟨λg=>by rw [if_pos g],λg=>by rw [if_neg ah]⟩
def Yx(l:List Int)(h:l.length<1000000000):NK.F () (l,()) (λy=>y=(l,())):=by
 dsimp only [NK,gm];simp (disch:=omega) only [RR];refine⟨ah,ah,ak (λ(y:List Int×Int×List Int×Unit)=>y.1=l/\0<=y.2.1/\y.2.1<=l.length/\y.2.2.1=l.take y.2.1.toNat++List.replicate (l.length-y.2.1.toNat) 0) (λy=>(l.length-y.2.1).toNat) ⟨rfl,by simp,by simp,rfl⟩ ?_⟩;rintro⟨(l:List Int),(i:Int),(o:List Int),⟨⟩⟩ hI;dsimp only at hI ⊢;obtain⟨rfl,h1,h2,rfl⟩:=hI;have ml:=Ij (l:=l) (z:=(0:Int)) (i:=i.toNat) ah;simp (disch:=omega) only [RR,ml];refine⟨λg=>⟨ah,ah,ah,ah,ah,ah,⟨ah,ah,set_mid h1 g rfl⟩,ah⟩,λg=> ?_⟩;rw [List.take_of_length_le ah,show l.length-i.toNat=0 by omega];simp
def ady(a b:List Int)(hlen:a.length<1000000000):Xh.F () (a,b,()) (λy=>y=(bp (a=b),())):=by
 dsimp only [Xh,gm];simp (disch:=omega) only [RR];refine⟨λh=> ?_,λh=> ?_⟩
 .rw [aY (λe=>h (by rw [e]))]
 have hl:a.length=b.length:=by omega
 refine ak (λ(y:List Int×List Int×Int×Unit)=>y.1=a/\y.2.1=b/\0<=y.2.2.1/\y.2.2.1<=a.length/\All y.2.2.1 (λi=>a.getD i.toNat default=b.getD i.toNat default)) (λy=>(a.length-y.2.2.1).toNat) ⟨rfl,rfl,by simp,by simp,All.zero⟩ ?_;rintro⟨(l1:List Int),(l2:List Int),(i:Int),⟨⟩⟩ hI;dsimp only at hI ⊢;obtain⟨rfl,rfl,h1,h2,h3⟩:=hI;simp (disch:=omega) only [RR,aO,gB];refine⟨λh4=>⟨ah,ah,ah,ah,λh5=> ?_,λh5=>⟨⟨ah,ah,h3.snoc h5⟩,ah⟩⟩,λh4=> ?_⟩
 .rw [aY];intro e;rw [e]at h5;exact h5 rfl
 .rw [aW (jW hl (h3.le ah))]
def szC(q:Cac)(m:Int):Int:=if szL q.words.length m<0 then-1 else szL q.blk.ops.length (szL q.words.length m)
def ShJ(q:Cac):Prop:=q.words.length<9223372036854775808/\q.blk.ops.length<9223372036854775808
def Yy{q:Cac}{m:Int}(h1:m<=1048576):(szC q m<0->szC q m= -1)/\(0<=szC q m->q.words.length<1000000000/\q.blk.ops.length<1000000000/\szC q m<=1048576):=by
 unfold szC;have s1:=Eb (n:=q.words.length) h1;split
 .exact⟨λ_=>rfl,λ_=>by omega⟩
 .have g:=s1.2 ah;have s2:=Eb (n:=q.blk.ops.length) g.2;exact⟨s2.1,λk=>by have:=s2.2 k;omega⟩
structure apU(pp:List Int×Int×Unit->Bool)(ff:List Int×Int×Unit->Int×Unit):Prop where
 hp:∀l m,l.length<9223372036854775808->0<=m->m<=1048576->pp (l,m,())=true
 hf:∀l m,l.length<9223372036854775808->0<=m->m<=1048576->ff (l,m,())=(szL l.length m,())
theorem amS{p1 f1 p2 f2}(U1:apU p1 f1)(U2:apH p2 f2)(q:Cac)(m:Int)(h:ShJ q)(h0:0<=m)(h1:m<=1048576):VG.F (p1,f1,p2,f2,()) (q,m,()) (λy=>y=(szC q m,())):=by
 obtain⟨hp1,hf1⟩:=U1;obtain⟨hp2,hf2⟩:=U2;have mB:∀c:Blk,Co.mk .blk (c.pc,c.len,c.ops,c.fin,c.x,c.y,c.k,())=c:=λ_=>rfl
 dsimp only [VG,gm,zQ,List.cons_append,List.nil_append,List.map_cons,List.map_nil]at*;have s1:=Eb (n:=q.words.length) h1;simp (disch:=omega) only [RR,CAB,mB,hp1 q.words m h.1 h0 h1,hf1 q.words m h.1 h0 h1];unfold szC;refine⟨λg=>by rw [if_pos g],λg=> ?_⟩;rw [if_neg ah];obtain⟨u1,u2⟩:=s1.2 ah;have g:0<=szL q.words.length m:=by omega
 have s2:=Eb (n:=q.blk.ops.length) u2;simp (disch:=omega) only [RR,mB,hp2 q.blk _ h.2 g u2,hf2 q.blk _ h.2 g u2];exact λg=>by rw [s2.1 g]
def Ed:List Cac->Int->Int
 | [],m=>m
 | q::l,m=>if szC q m<0 then-1 else Ed l (szC q m)
def Yz(l:List Cac){i:Nat}(h:l.length<=i)(m:Int):Ed (l.drop i) m=m:=by rw [List.drop_eq_nil_of_le h];rfl
def SQ(l:List Cac){i:Nat}(h:i<l.length)(m:Int):Ed (l.drop i) m=if szC (l.getD i default) m<0 then-1 else Ed (l.drop (i+1)) (szC (l.getD i default) m):=by
 rw [List.drop_eq_getElem_cons h,getD_lt h];rfl
def Rf:∀(l:List Cac) (m:Int),m<=1048576->(Ed l m<0->m<0\/Ed l m= -1)/\(0<=Ed l m->∀q∈l,q.words.length<1000000000/\q.blk.ops.length<1000000000)
 | [],m,_=>⟨λh=>Or.inl h,λ_ q hq=>by cases hq⟩
 | q::l,m,h=>by
  have s:=Yy (q:=q) h;rw [Ed];split
  .exact⟨λ_=>Or.inr rfl,λg=>by omega⟩
  .have g:=s.2 ah;have ih:=Rf l (szC q m) g.2.2;refine⟨λk=> ?_,λk c hc=> ?_⟩
   .rcases ih.1 k with e | e
    .omega
    .exact Or.inr e
   .rcases List.mem_cons.1 hc with rfl | hc
    .exact⟨g.1,g.2.1⟩
    .exact ih.2 k c hc
def acn(l:List Cac)(m:Int):Int:=if m-l.length<0 then-1 else Ed l (m-l.length)
def amT{p1:Cac×Int×Unit->Bool}{f1:Cac×Int×Unit->Int×Unit}(hp1:∀q m,ShJ q->0<=m->m<=1048576->p1 (q,m,())=true)(hf1:∀q m,ShJ q->0<=m->m<=1048576->f1 (q,m,())=(szC q m,()))(l:List Cac)(m:Int)(h:l.length<9223372036854775808/\∀q∈l,ShJ q)(h0:0<=m)(h1:m<=1048576):VH.F (p1,f1,()) (l,m,()) (λy=>y=(acn l m,())):=by
 obtain⟨hl,hq⟩:=h;dsimp only [VH,gm];simp (disch:=omega) only [RR];unfold acn;refine⟨λg=>by rw [if_pos g],λg=> ?_⟩;rw [if_neg ah];refine ak (λ(y:List Cac×Int×Int×Unit)=>y.1=l/\0<=y.2.1/\y.2.1<=1048576/\0<=y.2.2.1/\y.2.2.1<=l.length/\Ed l (m-l.length)=Ed (l.drop y.2.2.1.toNat) y.2.1) (λy=>(l.length-y.2.2.1).toNat) ⟨rfl,by dsimp only;omega,by dsimp only;omega,by simp,by simp,rfl⟩ ?_;rintro⟨(l:List Cac),(k:Int),(i:Int),⟨⟩⟩ hI;dsimp only at hI ⊢;obtain⟨rfl,k1,k2,i1,i2,e⟩:=hI;rw [e];have A:i<l.length->ShJ (((l).getD (i).toNat default)):=λc=>hq _ (dQ i1 c)
 by_cases c:i<l.length
 .have s:=Yy (q:=((l).getD (i).toNat default)) k2;rw [SQ l ah];simp (disch:=omega) only [RR,c,hp1 _ k (A c) k1 k2,hf1 _ k (A c) k1 k2];refine⟨i1,λg=>by rw [if_pos g],λg=>⟨⟨ah,by have:=s.2 ah;omega,ah,ah,?_⟩,ah⟩⟩;rw [if_neg ah,show(i+1).toNat=i.toNat+1 by omega]
 .simp (disch:=omega) only [RR,c,Yz l (show l.length<=i.toNat by omega)]
structure amU(pp:List Int×Unit->Bool)(ff:List Int×Unit->List Int×Unit):Prop where
 hp:∀l,l.length<1000000000->pp (l,())=true
 hf:∀l,l.length<1000000000->ff (l,())=(l,())
theorem ahf{p1 f1 p2 f2}(U1:amU p1 f1)(U2:Y99 p2 f2)(q:Cac)(h1:q.words.length<1000000000)(h2:q.blk.ops.length<1000000000):NS.F (p1,f1,p2,f2,()) (q,()) (λy=>y=cE q):=by
 have mE:∀c:Blk,Co.mk .blk (c.pc,c.len,c.ops,c.fin,c.x,c.y,c.k,())=c:=λ_=>rfl
 dsimp only [NS,gm,zQ];simp (disch:=omega) only [RR,CAB,mE,U1.hp _ h1,U1.hf _ h1,U2.hp _ h2,U2.hf _ h2]
def ahg{p1:Cac×Unit->Bool}{f1:Cac×Unit->Int×Int×Int×Int×Int×Int×List Int×List IOp×Unit}(hp1:∀q,q.words.length<1000000000->q.blk.ops.length<1000000000->p1 (q,())=true)(hf1:∀q,q.words.length<1000000000->q.blk.ops.length<1000000000->f1 (q,())=cE q)(l:List Cac)(h:ShX l):NT.F (p1,f1,()) (l,()) (λy=>y=(l,())):=by
 have hl:=h.1;have mC:=CAM;dsimp only [NT,gm,zQ,List.cons_append,List.nil_append,List.map_cons,List.map_nil]at*;simp (disch:=omega) only [RR];refine⟨ah,ah,ak (λ(y:List Cac×Int×List Cac×Unit)=>y.1=l/\0<=y.2.1/\y.2.1<=l.length/\y.2.2.1=l.take y.2.1.toNat++List.replicate (l.length-y.2.1.toNat) ⟨[],⟨0,0,[],0,0,0,0⟩⟩) (λy=>(l.length-y.2.1).toNat) ⟨rfl,by simp,by simp,rfl⟩ ?_⟩;rintro⟨(l:List Cac),(i:Int),(o:List Cac),⟨⟩⟩ hI;dsimp only at hI ⊢;obtain⟨rfl,i1,i2,rfl⟩:=hI;have a:=h.at i.toNat;have ml:=Ij (l:=l) (z:=(⟨[],⟨0,0,[],0,0,0,0⟩⟩:Cac)) (i:=i.toNat) ah;simp (disch:=omega) only [RR,hp1 _ a.1 a.2,hf1 _ a.1 a.2,mC,ml];refine⟨λg=>⟨ah,ah,ah,ah,ah,ah,⟨ah,ah,set_mid i1 g rfl⟩,ah⟩,λg=> ?_⟩;rw [List.take_of_length_le ah,show l.length-i.toNat=0 by omega];simp
theorem amV{p1 f1 p2 f2}(U1:Y32 p1 f1)(U2:Y94 p2 f2)(a b:Cac)(h1:a.words.length<1000000000)(h2:a.blk.ops.length<1000000000):Xl.F (p1,f1,p2,f2,()) (a,b,()) (λy=>y=(bp (a=b),())):=by
 have mE:∀c:Blk,Co.mk .blk (c.pc,c.len,c.ops,c.fin,c.x,c.y,c.k,())=c:=λ_=>rfl
 dsimp only [Xl,gm,zQ];simp (disch:=omega) only [RR,CAB,mE,U1.hp _ b.words h1,U1.hf _ b.words h1,U2.hp _ b.blk h2,U2.hf _ b.blk h2,aO,gB];refine⟨λe=> ?_,λe=>⟨λf=> ?_,λf=> ?_⟩⟩
 .rw [aY (λg=>e (by rw [g]))]
 .rw [aY (λg=>f (by rw [g]))]
 .rw [aW (by cases a;cases b;dsimp only at e f;rw [e,f])]
def amW{p1:Cac×Cac×Unit->Bool}{f1:Cac×Cac×Unit->Bool×Unit}(hp1:∀a b,a.words.length<1000000000->a.blk.ops.length<1000000000->p1 (a,b,())=true)(hf1:∀a b,a.words.length<1000000000->a.blk.ops.length<1000000000->f1 (a,b,())=(bp (a=b),()))(a b:List Cac)(hD:ShX a):Xm.F (p1,f1,()) (a,b,()) (λy=>y=(bp (a=b),())):=by
 have hlen:=hD.1;dsimp only [Xm,gm];simp (disch:=omega) only [RR];refine⟨λh=> ?_,λh=> ?_⟩
 .rw [aY (λe=>h (by rw [e]))]
 have hl:a.length=b.length:=by omega
 refine ak (λ(y:List Cac×List Cac×Int×Unit)=>y.1=a/\y.2.1=b/\0<=y.2.2.1/\y.2.2.1<=a.length/\All y.2.2.1 (λi=>a.getD i.toNat default=b.getD i.toNat default)) (λy=>(a.length-y.2.2.1).toNat) ⟨rfl,rfl,by simp,by simp,All.zero⟩ ?_;rintro⟨(l1:List Cac),(l2:List Cac),(i:Int),⟨⟩⟩ hI;dsimp only at hI ⊢;obtain⟨rfl,rfl,h1,h2,h3⟩:=hI;have A:=hD.at i.toNat;simp (disch:=omega) only [RR,hp1 _ (((l2).getD (i).toNat default)) A.1 A.2,hf1 _ (((l2).getD (i).toNat default)) A.1 A.2,aO,gB];refine⟨λh4=>⟨ah,ah,ah,ah,λh5=> ?_,λh5=>⟨⟨ah,ah,h3.snoc h5⟩,ah⟩⟩,λh4=> ?_⟩
 .rw [aY];intro e;rw [e]at h5;exact h5 rfl
 .rw [aW (jW hl (h3.le ah))]
theorem apV{p1 f1}(U1:amG p1 f1)(w:List Int)(h:w.length<1000000000):afu.F (p1,f1,()) (w,()) (λy=>y=(iy w,())):=by
 have e:∀x y z u:Int,Co.mk .ins (x,y,z,u,())=⟨x,y,z,u⟩:=λ_ _ _ _=>rfl
 dsimp only [afu,gm];simp only [RR];refine ak (λ(y:List Int×Int×Int×List Ins×Unit)=>y.1=w/\y.2.1=w.length/\0<=y.2.2.1/\y.2.2.1<=w.length/\y.2.2.2.1=(w.take y.2.2.1.toNat).map iY/\∀x∈w.take y.2.2.1.toNat,Wo x/\dK (iY x)) (λy=>(w.length-y.2.2.1).toNat) ⟨rfl,rfl,by simp,by simp,by simp,by simp⟩ ?_;rintro⟨(w:List Int),(n:Int),(i:Int),(o:List Ins),⟨⟩⟩ hI;dsimp only at hI ⊢;obtain⟨rfl,rfl,h1,h2,rfl,h3⟩:=hI;simp (disch:=omega) only [RR,U1.hp,U1.hf];have tl:=List.length_take_le' i.toNat w;refine⟨λg=>⟨h1,g,?_⟩,λg=> ?_⟩
 .have dr:w=w.take i.toNat++(w.getD i.toNat default::w.drop (i.toNat+1)):=by
   rw [getD_lt ah,<-List.drop_eq_getElem_cons ah,List.take_append_drop]
  unfold tkI;by_cases c:Wo (w.getD i.toNat default)/\dK (iY (w.getD i.toNat default))
  .rw [if_pos (aW c)];simp (disch:=omega) only [RR,e];have ts:=bI (d:=default) h1 g (l:=w) rfl;have ml:((w.take i.toNat).map iY).length=i.toNat:=by rw [List.length_map,List.length_take];omega
   refine⟨by rw [ml];simp only [List.length_cons,List.length_nil];omega,⟨ah,ah,by rw [<-ts,List.map_append];rfl,λx hx=> ?_⟩,ah⟩;rw [<-ts,List.mem_append,List.mem_singleton]at hx;exact hx.elim (h3 x) (λq=>q▸c)
  .rw [if_neg (by rw [aY c];decide)];simp (disch:=omega) only [RR]
   conv=>rhs;rw [dr]
   rw [uf _ _ h3,iy,if_neg (by rw [aY c];decide),List.append_nil]
   done
 .rw [List.take_of_length_le ah]at h3 ⊢;have:=uf w [] h3;rw [List.append_nil]at this;rw [this];simp [iy]
theorem amX{p1 f1 p2 f2 p3 f3 p4 f4 p5 f5 p6 f6}(U1:apL p1 f1)(U2:amC p2 f2)(U3:amO p3 f3)(U4:apT p4 f4)(U5:apR p5 f5)(U6:Y96 p6 f6)(l:List Cac)(mem:List Int)(h:ShX l)(hm:mem.length<1000000000):Xg.F (p1,f1,p2,f2,p3,f3,p4,f4,p5,f5,p6,f6,()) (l,mem,()) (λy=>y=(bp (Au l mem),())):=by
 have mE:∀c:Blk,Co.mk .blk (c.pc,c.len,c.ops,c.fin,c.x,c.y,c.k,())=c:=λ_=>rfl
 have mC:=CAM;have hl:=h.1;dsimp only [Xg,gm,zQ];refine ak (λ(y:List Cac×List Int×List Cac×Int×Int×Unit)=>y.1=l/\y.2.1=mem/\y.2.2.1=l/\y.2.2.2.1=l.length/\0<=y.2.2.2.2.1/\y.2.2.2.2.1<=l.length/\∀j:Int,0<=j->j<y.2.2.2.2.1->Rb l mem j) (λy=>(l.length-y.2.2.2.2.1).toNat) ⟨rfl,rfl,rfl,rfl,by simp,by simp,λj h0 h1=>absurd h1 (by simp;omega)⟩ ?_;rintro⟨(l0:List Cac),(mem':List Int),(l':List Cac),(n:Int),(i:Int),⟨⟩⟩ hI;dsimp only at hI ⊢;obtain⟨rfl,rfl,rfl,rfl,i1,i2,i3⟩:=hI;obtain⟨a1,a2⟩:=h.at i.toNat;have tl:=Im (((l').getD (i).toNat default)).words;have P3:=U3.hp (((l').getD (i).toNat default)).words a1;have H3:=U3.hf (((l').getD (i).toNat default)).words a1;have P4:=U4.hp ((l').getD (i).toNat default) mem' a1 hm;have H4:=U4.hf ((l').getD (i).toNat default) mem' a1 hm;have P2:=U2.hp (((l').getD (i).toNat default)).blk.pc (iy (((l').getD (i).toNat default)).words) ah;have H2:=U2.hf (((l').getD (i).toNat default)).blk.pc (iy (((l').getD (i).toNat default)).words) ah;have P1:=U1.hp (((l').getD (i).toNat default)).blk.pc (iy (((l').getD (i).toNat default)).words) ah;have H1:=U1.hf (((l').getD (i).toNat default)).blk.pc (iy (((l').getD (i).toNat default)).words) ah;have lw:((lower (((l').getD (i).toNat default)).blk.pc (iy (((l').getD (i).toNat default)).words)).ops.length:Int)<=5000:=Kn _ _;have P6:=U6.hp (lower (((l').getD (i).toNat default)).blk.pc (iy (((l').getD (i).toNat default)).words)) (((l').getD (i).toNat default)).blk ah a2;have H6:=U6.hf (lower (((l').getD (i).toNat default)).blk.pc (iy (((l').getD (i).toNat default)).words)) (((l').getD (i).toNat default)).blk ah a2;have P5:=U5.hp l' (((l').getD (i).toNat default)).blk.pc hl;have F5:=U5.hf l' (((l').getD (i).toNat default)).blk.pc hl;generalize hk:(f5 (l',(((l').getD (i).toNat default)).blk.pc,())).1=k at F5;by_cases c:i<l'.length
 .simp (disch:=omega) only [RR,CAB,mE,c,P1,H1,P2,H2,P3,H3,P4,H4,P5,hk,P6,H6];have key:Rb l' mem' i↔((Bb mem' ((l').getD (i).toNat default)=true/\((iy (((l').getD (i).toNat default)).words).length:Int)=(((l').getD (i).toNat default)).words.length)/\bp (qb (((l').getD (i).toNat default)).blk.pc (iy (((l').getD (i).toNat default)).words))=true)/\chk (lower (((l').getD (i).toNat default)).blk.pc (iy (((l').getD (i).toNat default)).words)) (((l').getD (i).toNat default)).blk=true/\k=i:=
   ⟨λ⟨o1,⟨o2,o3,o4⟩,o5⟩=>⟨⟨⟨o1,ah⟩,aW o3⟩,o4,FC.one F5 o5⟩,λ⟨⟨⟨o1,o2⟩,o3⟩,o4,o5⟩=>⟨o1,⟨ah,aO.1 o3,o4⟩,o5▸F5⟩⟩
  have bad:¬Rb l' mem' i->((false,()):Bool×Unit)=(bp (Au l' mem'),()):=λn=>by rw [aY (λz=>n (((Rc l' mem').1 z).2 i i1 c))]
  refine⟨i1,λg=>⟨λe=>bad (λo=> ?_),λe=>⟨⟨ah,ah,λj j0 j1=> ?_⟩,ah⟩⟩,λg=>⟨g,bad (λo=> ?_),λz=>z.1.elim⟩⟩
  .obtain⟨⟨⟨o1,o2⟩,o3⟩,o4,o5⟩:=key.1 o;rcases e with(((e | e) | e) | e) | e
   .rw [o1]at e;cases e
   .exact e o2
   .rw [o3]at e;cases e
   .rw [o4]at e;cases e
   .exact e o5
  .by_cases z:j<i
   .exact i3 j j0 z
   .rw [show j=i by omega];exact key.2 ⟨e.1.1,e.1.2,e.2⟩
  .obtain⟨⟨⟨o1,o2⟩,o3⟩,_⟩:=key.1 o;rcases g with(e | e) | e
   .rw [o1]at e;cases e
   .exact e o2
   .rw [o3]at e;cases e
 .simp (disch:=omega) only [RR,c];refine Prod.ext (Bool.eq_iff_iff.2 ?_) rfl;rw [decide_eq_true_eq,aO,Rc];exact⟨λg=>⟨ah,λj j0 j1=>i3 j j0 ah⟩,λg=>by have:=g.1;omega⟩
structure apW(pp:List Cac×List Cac×Unit->Bool)(ff:List Cac×List Cac×Unit->Bool×Unit):Prop where
 hp:∀a b,ShX a->pp (a,b,())=true
 hf:∀a b,ShX a->ff (a,b,())=(bp (a=b),())
structure apX(pp:List Cac×Int×Unit->Bool)(ff:List Cac×Int×Unit->Int×Unit):Prop where
 hp:∀l m,(l.length<9223372036854775808/\∀q∈l,ShJ q)->0<=m->m<=1048576->pp (l,m,())=true
 hf:∀l m,(l.length<9223372036854775808/\∀q∈l,ShJ q)->0<=m->m<=1048576->ff (l,m,())=(acn l m,())
structure apY(pp:List Cac×Unit->Bool)(ff:List Cac×Unit->List Cac×Unit):Prop where
 hp:∀l,ShX l->pp (l,())=true
 hf:∀l,ShX l->ff (l,())=(l,())
def amY{p1 f1 p2 f2 p3 f3 p4 f4 p5 f5 p6 f6 p7 f7}(U1:amQ p1 f1)(U2:apW p2 f2)(U3:Y32 p3 f3)(U4:apX p4 f4)(U5:apY p5 f5)(U6:amU p6 f6)(U7:amQ p7 f7)(l:List Cac)(mem:List Int)(h:l.length<9223372036854775808/\∀q∈l,ShJ q)(hm:mem.length<9223372036854775808):Xn.F (p1,f1,p2,f2,p3,f3,p4,f4,p5,f5,p6,f6,p7,f7,()) (l,mem,()) (λy=>y=(true,())):=by
 dsimp only [Xn,gm];simp (disch:=omega) only [RR,U4.hp l 1048576 h ah ah,U4.hf l 1048576 h ah ah];intro g0 g;have D:ShX l:=by
  unfold acn at g;split at g
  .omega
  .exact⟨ah,(Rf l (1048576-l.length) ah).2 ah⟩
 have M:mem.length<1000000000:=by omega
 simp (disch:=omega) only [RR,U5.hp l D,U5.hf l D,U6.hp mem M,U6.hf mem M,U1.hp l mem D M,U1.hf l mem D M,U7.hp l mem D M,U7.hf l mem D M,U2.hp l l D,U2.hf l l D,U3.hp mem mem M,U3.hf mem mem M];simp [bp]
end Go.TX.F
namespace Go.TX
open Go Go.AE
def enters_of{P:Program}{f:FuncId}{fn:Func}{c:Code}(hf:P.funcs[f]? =some fn)(hname:(fn.name== "runtime.NumGoroutine")=false)(hb:fn.body=some c):Enters P f:=by
 intro args w;have h1:fn.name≠ "runtime.NumGoroutine" :=by simpa using hname
 simp [callFunc,hf,h1,hb,mark]
def Rh(P:Program):Nat->List Field->Bool
 | _,[]=>true
 | k,f::fs=> !(f.name== "_")&&f.offset==k&& (match P.underlying f.type with | some (.int _)=>true | _=>false)&&Rh P (k+1) fs
def Ri{P:Program}(w:World)(d:Nat)(xs ys:List Int)(hl:xs.length=ys.length):∀(fs:List Field) (k:Nat),Rh P k fs=true->k+fs.length=xs.length->
  (Op.eqFields (d+1) (xs.map (Value.int .i64)).toArray (ys.map (Value.int .i64)).toArray fs).run P w= .ok (xs.drop k==ys.drop k) w
 | [],k,_,h2=>by
  rw [List.drop_eq_nil_of_le (show xs.length<=k by simp only [List.length_nil]at h2;omega),List.drop_eq_nil_of_le (show ys.length<=k by simp only [List.length_nil]at h2;omega)];simp [Op.eqFields]
 | f::fs,k,h1,h2=>by
  simp only [List.length_cons]at h2;simp only [Rh,Bool.and_eq_true,Bool.not_eq_true',beq_eq_false_iff_ne,beq_iff_eq]at h1;obtain⟨⟨⟨n1,n2⟩,n3⟩,n4⟩:=h1;have hk:k<xs.length:=by omega
  have hk':k<ys.length:=by omega
  obtain⟨kd,hu⟩:∃kd,P.underlying f.type=some (.int kd):=by
   cases hu:P.underlying f.type with
   | none=>rw [hu]at n3;cases n3
   | some z=>cases z<;>(first | exact⟨_,rfl⟩ | (rw [hu]at n3;cases n3))
  have pk:P.plainKey f.type=true:=by unfold Program.plainKey;rw [hu]
  have p1:=run_part_plain w pk (xs:=(xs.map (Value.int .i64)).toArray) (off:=f.offset) (v:= .int .i64 xs[k]) (by rw [n2];simp [hk]);have p2:=run_part_plain w pk (xs:=(ys.map (Value.int .i64)).toArray) (off:=f.offset) (v:= .int .i64 ys[k]) (by rw [n2];simp [hk']);have ih:=Ri w d xs ys hl fs (k+1) n4 ah;simp only [Op.eqFields,if_pos n1,Sem.run_bind,p1,p2,Result.andThen_ok,run_equalIn_int w d f.type .i64 kd _ _ hu];have e:(xs.drop k==ys.drop k)=((xs[k]==ys[k])&& (xs.drop (k+1)==ys.drop (k+1))):=by rw [List.drop_eq_getElem_cons hk,List.drop_eq_getElem_cons hk'];rfl
  rw [e];by_cases c:(xs[k]==ys[k])=true
  .rw [c];simp only [Bool.not_true,Bool.false_eq_true,if_false,ih,Bool.true_and]
  .have c2:(xs[k]==ys[k])=false:=by simpa using c
   rw [c2];simp only [Bool.not_false,if_true,Sem.run_pure,Bool.false_and]
def ahh{P:Program}{t:TypeId}{n:Nat}(hu:P.underlying t=some (.struct (P.fieldsOf t)))(hs:P.stoodInHeld t=false)(hg:P.eqGuardType P.depth t=false)(hf:Rh P 0 (P.fieldsOf t).toList=true)(hn:(P.fieldsOf t).size=n)(xs ys:List Int)(hx:xs.length=n)(hy:ys.length=n)(w:World):
  (Op.equal t (.agg (xs.map (Value.int .i64)).toArray) (.agg (ys.map (Value.int .i64)).toArray)).run P w= .ok (xs==ys) w/\
  (eqGuard .eql t (.tmp 0) (.tmp 0) (.agg (xs.map (Value.int .i64)).toArray) (.agg (ys.map (Value.int .i64)).toArray)).run P w= .ok () w:=by
 refine⟨?_,run_eqGuard_agg w _ _ _ _ _ _ hg⟩;show(Op.equalIn (9999+1) t _ _).run P w=_;rw [run_equalIn_struct w 9999 t _ _ hu hs,Ri w 9998 xs ys ah _ 0 hf (by rw [Array.length_toList];omega)];rfl
noncomputable def never (s:Sig):Ct aD s:={pre:=λ_=>false,fn:=λ_=>Classical.choice (tK _)}
def jX{E:Tab}{f:FuncId}{s:Sig}(h:Enters E.P f):dI E f (dD (never s)) where
 enters:=h
 calls:=by
  rintro args hh n K ⟨m,vs,h2,h3,h4,h5,cr,h6,h7,h8⟩;exfalso;unfold qD at h6;split at h6
  .split at h6
   .split at h6
    .split at h6
     .cases h6;have:=h7 false (List.mem_append_right _ (List.mem_singleton.2 rfl));cases this
     .cases h6
    .cases h6
   .cases h6
  .cases h6
def entry(W:World):Ctx:={K:=λ_ b=>b<W.heap.size,ν:=λ_=>none,n:=0}
def OU(W:World):bG (entry W) W []:=
 ⟨λl o h=>(by cases h),λl o l' o' b h=>(by cases h),λf b ⟨l,o,h,_⟩=>(by cases h),λf b h=>h,λb h=>h⟩
def Kq{W W':World}{c':Ctx}{h':Heap}(g:Grow (entry W) W [] c' W' h'):RowKit.Below W.heap.size W W':=
 ⟨g.os,g.tape,g.output,g.size,λk hk=>g.kept k hk λ⟨l,o,h,_⟩=>by cases h⟩
def aco{c:Ctx}{w:World}{v:Value}{r:PV}{N:NM}{b:Bool}(h1:bF c w v r)(h2:PVR N r (.c (.d true (.bool b)))):v= .bool b:=by
 cases h2 with
 | one h=>
  cases h with
  | c h=>
   cases h with
   | d h3 _=>
    subst h3;cases h1 with
    | c _ _ h4=>cases h4 with
     | d _ _ _ h5=>cases h5;rfl
  | agg h=>cases h
end Go.TX
namespace Go.TX
open Go Go.AE Go.ChangeShapes Go.WideShapes Go.ChangeAt
inductive DS:Sh->D->Prop
 | int (k:IntKind) (n:Int):DS (.int k) (.int k n)
 | ops (xs:List IOp):xs.length<9223372036854775808->DS (.rows .iop) (.rows 5 (aH .iop xs))
section
variable {H:Type} (enc:TypeId×Value->H) (P:Program) (W:World)
abbrev tr(fuel:Nat)(t:TypeId)(cs:List Value):Option (DataW H×List MemPlace):=DataW.trod enc P W 0 (λ_=>true) true fuel t cs
abbrev inW(W:World)(p:List MemPlace):Prop:=∀x∈p,x.block<W.heap.size
def CO(s:Sh)(t:TypeId):Prop:=∀fuel cs x,tr enc P W fuel t cs=some x->inW W x.2->∃v d,cs=[v]/\bX (λb=>b<W.heap.size) W v d/\DS s d
def EO(c:Co)(G:c.den->Prop)(t:TypeId):Prop:=∀fuel cs x,tr enc P W fuel t cs=some x->inW W x.2->∃z:c.den,F2 (bX (λb=>b<W.heap.size) W) cs (c.row z)/\G z
variable {enc P W}
theorem ahi{k:IntKind}{t:TypeId}(ht:P.underlying t=some (.int k)):CO enc P W (.int k) t:=by
 intro fuel cs x h _;obtain⟨n,rfl,rfl,_⟩:=DataW.trod_int ht h;exact⟨_,_,rfl,.int k n,.int k n⟩
theorem ahj{α β:Type}{R:α->β->Prop}{l:List α}{m:List β}(h:F2 R l m){j:Nat}(a:α)(b:β)(hj:j<m.length):R (l.getD j a) (m.getD j b):=by
 obtain⟨x,h1,h2⟩:=F2.get h (List.getElem?_eq_getElem hj);rw [List.getD_eq_getElem?_getD,h1,List.getD_eq_getElem?_getD,List.getElem?_eq_getElem hj];exact h2
theorem vF{c:Co}{G:c.den->Prop}{t e:TypeId}(ht:P.underlying t=some (.slice e))(hc:P.cellsOf e=c.size)(hs:0<c.size)(hE:EO enc P W c G e){fuel:Nat}{cs:List Value}{x:DataW H×List MemPlace}
  (h:tr enc P W fuel t cs=some x) (hp:inW W x.2):∃v xs,cs=[v]/\bX (λb=>b<W.heap.size) W v (.rows c.size (aH c xs))/\xs.length<9223372036854775808/\∀z∈xs,G z:=by
 rcases Deep.open_slice ht h with⟨rfl,rfl⟩ | ⟨a,len,cap,m,n,D,Pl,rfl,_,hl,hm,hmm,rfl,hx⟩
 .exact⟨_,[],rfl,.none _ _ _,Nat.zero_lt_of_ne_zero (by decide),λ_ h=>by cases h⟩
 have em:m=cap:=by simpa using hmm
 have each:∀i,i<len->∃q:List Value×c.den,W.cells? 0 (a.add (i*c.size)) c.size=some q.1/\F2 (bX (λb=>b<W.heap.size) W) q.1 (c.row q.2)/\G q.2:=λi hi=>by
  obtain⟨cs',h1,h2⟩:=hx i ah;obtain⟨z,z1,z2⟩:=hE n cs' _ h2 (λp hp'=>hp p (List.mem_append_right _ (List.mem_flatMap.2 ⟨i,List.mem_range.2 ah,hp'⟩)));exact⟨(cs',z),by rw [<-hc];exact h1,z1,z2⟩
 obtain⟨q,hq⟩:=Deep.choose_lt each;have ml:(maxLen:Nat)=9223372036854775807:=by decide
 refine⟨_,(List.range len).map λi=>(q i).2,rfl,?_,by rw [List.length_map,List.length_range];omega,λz hz=> ?_⟩
 .by_cases h0:len=0
  .subst h0;exact .none _ _ _
  obtain⟨b,off,spot⟩:=a;have cell:∀i j,i<len->j<c.size->W.cell? (((⟨b,off,spot⟩:Addr).add (i*c.size)).add j)=(q i).1[j]? :=λi j hi hj=>(World.cells?_some (hq i hi).1).2.2 j hj
  have ql:∀i,i<len->(q i).1.length=c.size:=λi hi=>(World.cells?_some (hq i hi).1).2.1
  have hspot:spot=none:=by
   have:=cell 0 0 ah hs;rw [List.getElem?_eq_getElem (by rw [ql 0 ah];exact hs)]at this;simpa [Addr.add]using World.cell?_spot this
  subst hspot;have hbW:b<W.heap.size:=hp (.cell b (off+0)) (List.mem_append_left _ (MemPlace.mem_row.2 ⟨0,by rw [hc];exact Nat.mul_pos ah hs,rfl⟩));have len':(aH c ((List.range len).map λi=>(q i).2)).length=len:=by rw [aH,List.length_map,List.length_map,List.length_range]
  have hget:∀i,i<len->(aH c ((List.range len).map λi=>(q i).2)).getD i []=c.row (q i).2:=λi hi=>by
   rw [List.getD_eq_getElem?_getD,aH,List.map_map,List.getElem?_map,List.getElem?_range hi];rfl
  refine .rows b off cap c.size len _ (λi j=>(q i).1.getD j undef) hbW len'.symm hl (λi j hi hj=> ?_) (λi hi=> ?_) (λi j hi hj=> ?_)
  .rw [len']at hi;have:=cell i j hi hj;rw [add_plain,add_plain]at this;rw [this,List.getD_eq_getElem?_getD,List.getElem?_eq_getElem (by rw [ql i hi];exact hj)];rfl
  .rw [len']at hi;rw [hget i hi];exact lW c _
  .rw [len']at hi;unfold gd;rw [hget i hi];exact ahj (hq i hi).2.1 _ _ (by rw [lW];exact hj)
 .obtain⟨i,hi,rfl⟩:=List.mem_map.1 hz;exact(hq i (List.mem_range.1 hi)).2.2
def fsB(P:Program)(tR:Option TypeId):Nat->List Field->List Sh->Bool
 | _,[],[]=>true
 | k,f::fs,s::S=>f.offset==k&&P.cellsOf f.type==1&& (match s with | .int q=>(match P.underlying f.type with | some (.int q')=>decide (q'=q) | _=>false) | .rows .iop=>some f.type==tR | _=>false)&&fsB P tR (k+1) fs S
 | _,_,_=>false
theorem YA{tR:Option TypeId}{k:Nat}{f:Field}{fs:List Field}{s:Sh}{S:List Sh}(h:fsB P tR k (f::fs) (s::S)=true)(hR:∀t,tR=some t->CO enc P W (.rows .iop) t):
  f.offset=k/\P.cellsOf f.type=1/\CO enc P W s f.type/\fsB P tR (k+1) fs S=true:=by
 simp only [fsB,Bool.and_eq_true,beq_iff_eq]at h;obtain⟨⟨⟨h1,h2⟩,h3⟩,h4⟩:=h;refine⟨h1,h2,?_,h4⟩;cases s with
 | int q=>
  dsimp only at h3;split at h3
  .rename_i q' hu;have e:q'=q:=by simpa using h3
   subst e;exact ahi hu
  .cases h3
 | rows c=>
  cases c<;>dsimp only at h3<;>first | (cases h3;done) | skip
  rw [beq_iff_eq]at h3;exact hR _ h3.symm
 | bool=>cases h3
 | str=>cases h3
theorem Rj{tR:Option TypeId}(hR:∀t,tR=some t->CO enc P W (.rows .iop) t){cs:List Value}{n:Nat}:∀(fs:List Field) (S:List Sh) (k:Nat) (xs:List (DataW H×List MemPlace)),fsB P tR k fs S=true->xs.length=fs.length->
  (∀(i:Nat) (f:Field),fs[i]? =some f->tr enc P W n f.type ((cs.drop f.offset).take (P.cellsOf f.type))=xs[i]?)->inW W (xs.flatMap (·.2))->cs.length=k+fs.length->
  ∃ds,F2 (bX (λb=>b<W.heap.size) W) (cs.drop k) ds/\F2 DS S ds
 | [],S,k,xs,h1,_,_,_,h5=>by
  cases S with
  | nil=>exact⟨[],by rw [List.drop_eq_nil_of_le (by simp at h5;omega)];exact .nil,.nil⟩
  | cons s S=>cases h1
 | f::fs,[],k,xs,h1,_,_,_,_=>by cases h1
 | f::fs,s::S,k,[],_,h2,_,_,_=>by cases h2
 | f::fs,s::S,k,y::xs,h1,h2,h3,h4,h5=>by
  obtain⟨a1,a2,a3,a4⟩:=YA h1 hR;have b:=h3 0 f rfl;rw [a1,a2]at b;obtain⟨v,d,e,r1,r2⟩:=a3 n _ y b (λp hp=>h4 p (List.mem_flatMap.2 ⟨y,List.mem_cons_self ..,hp⟩));simp only [List.length_cons]at h5 h2;obtain⟨ds,i1,i2⟩:=Rj hR fs S (k+1) xs a4 ah (λi g hg=>h3 (i+1) g hg) (λp hp=>h4 p (by rw [List.flatMap_cons];exact List.mem_append_right _ hp)) ah;have hk:k<cs.length:=by omega
  rw [List.drop_eq_getElem_cons hk]at e ⊢;rw [List.take_succ_cons,List.take_zero]at e;cases e;exact⟨d::ds,.cons r1 i1,.cons r2 i2⟩
theorem Rk{t:TypeId}{tR:Option TypeId}{fs:Array Field}{S:List Sh}(ht:P.underlying t=some (.struct fs))(hn:P.cellsOf t=fs.toList.length)(hf:fsB P tR 0 fs.toList S=true)(hR:∀t,tR=some t->CO enc P W (.rows .iop) t){fuel:Nat}{cs:List Value}{x:DataW H×List MemPlace}
  (h:tr enc P W fuel t cs=some x) (hp:inW W x.2):∃ds,F2 (bX (λb=>b<W.heap.size) W) cs ds/\F2 DS S ds:=by
 obtain⟨xs,n,_,rfl,hl,hlen,hf'⟩:=DataW.trod_struct ht h;exact Rj hR fs.toList S 0 xs hf (by rw [hlen,Array.length_toList]) (λi f hi=>hf' i f (by rw [<-Array.getElem?_toList];exact hi)) hp ah
theorem f2c{α β:Type}{R:α->β->Prop}{a:α}{l:List α}{m:List β}(h:F2 R (a::l) m):∃b m',m=b::m'/\R a b/\F2 R l m':=by cases h with | cons h1 h2=>exact⟨_,_,rfl,h1,h2⟩
theorem f2n{α β:Type}{R:α->β->Prop}{m:List β}(h:F2 R [] m):m=[]:=by cases h;rfl
theorem dsi{d:D}(h:DS .i d):∃n,d= .int .i64 n:=by cases h;exact⟨_,rfl⟩
theorem dso{d:D}(h:DS (.rows .iop) d):∃xs:List IOp,d= .rows 5 (aH .iop xs)/\xs.length<9223372036854775808:=by cases h with | ops xs h=>exact⟨xs,rfl,h⟩
theorem ahk{t:TypeId}{fs:Array Field}(ht:P.underlying t=some (.struct fs))(hn:P.cellsOf t=fs.toList.length)(hf:fsB P none 0 fs.toList [.i,.i,.i,.i,.i]=true):EO enc P W .iop (λ_=>True) t:=by
 intro fuel cs x h hp;obtain⟨ds,h1,h2⟩:=Rk ht hn hf (λ_ h=>by cases h) h hp;obtain⟨d0,m0,rfl,e0,h2⟩:=f2c h2;obtain⟨d1,m1,rfl,e1,h2⟩:=f2c h2;obtain⟨d2,m2,rfl,e2,h2⟩:=f2c h2;obtain⟨d3,m3,rfl,e3,h2⟩:=f2c h2;obtain⟨d4,m4,rfl,e4,h2⟩:=f2c h2;obtain rfl:=f2n h2;obtain⟨n0,rfl⟩:=dsi e0;obtain⟨n1,rfl⟩:=dsi e1;obtain⟨n2,rfl⟩:=dsi e2;obtain⟨n3,rfl⟩:=dsi e3;obtain⟨n4,rfl⟩:=dsi e4;exact⟨⟨n0,n1,n2,n3,n4⟩,h1,trivial⟩
theorem ahl{tR t:TypeId}{fs:Array Field}(hr:P.underlying tR=some (.slice t))(ht:P.underlying t=some (.struct fs))(hn:P.cellsOf t=fs.toList.length)(h5:fs.toList.length=5)(hf:fsB P none 0 fs.toList [.i,.i,.i,.i,.i]=true):CO enc P W (.rows .iop) tR:=by
 intro fuel cs x h hp;obtain⟨v,xs,e,r,l,_⟩:=vF (c:= .iop) hr (hn.trans h5) (by decide) (ahk ht hn hf) h hp;exact⟨v,_,e,r,.ops xs l⟩
abbrev BG(b:Blk):Prop:=b.ops.length<9223372036854775808
theorem ahm{t tR:TypeId}{fs:Array Field}(ht:P.underlying t=some (.struct fs))(hn:P.cellsOf t=fs.toList.length)(hf:fsB P (some tR) 0 fs.toList zQ=true)(hR:CO enc P W (.rows .iop) tR):EO enc P W .blk BG t:=by
 intro fuel cs x h hp;obtain⟨ds,h1,h2⟩:=Rk ht hn hf (λ_ h=>by cases h;exact hR) h hp;obtain⟨d0,m0,rfl,e0,h2⟩:=f2c h2;obtain⟨d1,m1,rfl,e1,h2⟩:=f2c h2;obtain⟨d2,m2,rfl,e2,h2⟩:=f2c h2;obtain⟨d3,m3,rfl,e3,h2⟩:=f2c h2;obtain⟨d4,m4,rfl,e4,h2⟩:=f2c h2;obtain⟨d5,m5,rfl,e5,h2⟩:=f2c h2;obtain⟨d6,m6,rfl,e6,h2⟩:=f2c h2;obtain rfl:=f2n h2;obtain⟨n0,rfl⟩:=dsi e0;obtain⟨n1,rfl⟩:=dsi e1;obtain⟨xs,rfl,l⟩:=dso e2;obtain⟨n3,rfl⟩:=dsi e3;obtain⟨n4,rfl⟩:=dsi e4;obtain⟨n5,rfl⟩:=dsi e5;obtain⟨n6,rfl⟩:=dsi e6;exact⟨⟨n0,n1,xs,n3,n4,n5,n6⟩,h1,l⟩
end
end Go.TX
namespace Go.TX
open Go Go.AE Go.ChangeShapes Go.WideShapes Go.ChangeAt
theorem Rl{w:World}{a:Addr}{v:Value}(h:w.cell? a=some v):a.block<w.heap.size:=by
 unfold World.cell? at h;cases hb:w.heap[a.block]? with
 | none=>rw [hb]at h;simp at h
 | some o=>exact(Array.getElem?_eq_some_iff.1 hb).1
section
variable {H:Type} {enc:TypeId×Value->H} {P:Program} {W:World} {sp:Nat->Bool} {hd:Bool}
def amZ:DataW H->Bool
 | .lit (.bool b)=>b
 | _=>default
def iY:DataW H->Int
 | .lit (.int _ n)=>n
 | _=>default
def YB:DataW H->ByteArray
 | .lit (.string b)=>⟨b.toArray⟩
 | _=>default
def ahn{α:Type}(f:DataW H->α):DataW H->List α
 | .slice l _=>l.map f
 | _=> []
def am0:DataW H->Form
 | .agg [a,b,n,s]=>⟨amZ a,amZ b,iY n,ahn YB s⟩
 | _=>default
variable (enc P W sp hd) in
def ED(c:Co)(dec:DataW H->c.den)(t:TypeId):Prop:=∀fuel cs x,DataW.trod enc P W 0 sp hd fuel t cs=some x->F2 (bX (λb=>b<W.heap.size) W) cs (c.row (dec x.1))
theorem am1{α β:Type}{R:α->β->Prop}{l:List α}{m:List β}(h:F2 R l m){j:Nat}(a:α)(b:β)(hj:j<m.length):R (l.getD j a) (m.getD j b):=by
 obtain⟨x,h1,h2⟩:=F2.get h (List.getElem?_eq_getElem hj);rw [List.getD_eq_getElem?_getD,h1,List.getD_eq_getElem?_getD,List.getElem?_eq_getElem hj];exact h2
theorem adz{c:Co}{dec:DataW H->c.den}{t e:TypeId}(ht:P.underlying t=some (.slice e))(hc:P.cellsOf e=c.size)(hs:0<c.size)(hE:ED enc P W sp hd c dec e){fuel:Nat}{cs:List Value}{x:DataW H×List MemPlace}
  (h:DataW.trod enc P W 0 sp hd fuel t cs=some x):∃v,cs=[v]/\bX (λb=>b<W.heap.size) W v (.rows c.size (aH c (ahn dec x.1))):=by
 rcases Deep.open_slice ht h with⟨rfl,rfl⟩ | ⟨a,len,cap,m,n,D,Pl,rfl,_,hl,hm,hmm,rfl,hx⟩
 .exact⟨_,rfl,.none _ _ _⟩
 have lm:len<=m:=by rw [hmm];split<;>omega
 have each:∀i,i<len->∃q:List Value,W.cells? 0 (a.add (i*c.size)) c.size=some q/\F2 (bX (λb=>b<W.heap.size) W) q (c.row (dec (D i))):=λi hi=>by
  obtain⟨cs',h1,h2⟩:=hx i ah;exact⟨cs',by rw [<-hc];exact h1,hE n cs' _ h2⟩
 obtain⟨q,hq⟩:=Deep.choose_lt each;refine⟨_,rfl,?_⟩;by_cases h0:len=0
 .subst h0;exact .none _ _ _
 obtain⟨b,off,spot⟩:=a;have cell:∀i j,i<len->j<c.size->W.cell? (((⟨b,off,spot⟩:Addr).add (i*c.size)).add j)=(q i)[j]? :=λi j hi hj=>(World.cells?_some (hq i hi).1).2.2 j hj
 have ql:∀i,i<len->(q i).length=c.size:=λi hi=>(World.cells?_some (hq i hi).1).2.1
 have c0:=cell 0 0 ah hs;rw [List.getElem?_eq_getElem (by rw [ql 0 ah];exact hs)]at c0;have hspot:spot=none:=by simpa [Addr.add]using World.cell?_spot c0
 subst hspot;have hbW:b<W.heap.size:=by have:=Rl c0;simpa [Addr.add]using this
 have e0:ahn dec (.slice ((List.range len).map D) ((List.range (m-len)).map λj=>D (len+j)))=(List.range len).map λi=>dec (D i):=by show((List.range len).map D).map dec=_;rw [List.map_map];rfl
 dsimp only;rw [e0];have len':(aH c ((List.range len).map λi=>dec (D i))).length=len:=by rw [aH,List.length_map,List.length_map,List.length_range]
 have hget:∀i,i<len->(aH c ((List.range len).map λi=>dec (D i))).getD i []=c.row (dec (D i)):=λi hi=>by
  rw [List.getD_eq_getElem?_getD,aH,List.map_map,List.getElem?_map,List.getElem?_range hi];rfl
 refine .rows b off cap c.size len _ (λi j=>(q i).getD j undef) hbW len'.symm hl (λi j hi hj=> ?_) (λi hi=> ?_) (λi j hi hj=> ?_)
 .rw [len']at hi;have:=cell i j hi hj;rw [add_plain,add_plain]at this;rw [this,List.getD_eq_getElem?_getD,List.getElem?_eq_getElem (by rw [ql i hi];exact hj)];rfl
 .rw [len']at hi;rw [hget i hi];exact lW c _
 .rw [len']at hi;unfold gd;rw [hget i hi];exact am1 (hq i hi).2 _ _ (by rw [lW];exact hj)
theorem aho{t:TypeId}(ht:P.underlying t=some .string):ED enc P W sp hd .str YB t:=by
 intro fuel cs x h;obtain⟨s,rfl,rfl,_⟩:=DataW.trod_string ht h;have e:YB (.lit (.string s.data.toList):DataW H)=s:=by unfold YB;simp
 dsimp only;rw [e];exact .cons (.str s) .nil
theorem acp{t tR tB tI tS:TypeId}{f0 f1 f2 f3:Field}(ht:P.underlying t=some (.struct #[f0,f1,f2,f3]))(hn:P.cellsOf t=4)(o:f0.offset=0/\f1.offset=1/\f2.offset=2/\f3.offset=3)(y:f0.type=tB/\f1.type=tB/\f2.type=tI/\f3.type=tR)
  (hB:P.underlying tB=some .bool) (hI:P.underlying tI=some (.int .i64)) (hR:P.underlying tR=some (.slice tS)) (hS:P.underlying tS=some .string) (k:P.cellsOf tB=1/\P.cellsOf tI=1/\P.cellsOf tR=1/\P.cellsOf tS=1):ED enc P W sp hd .form am0 t:=by
 intro fuel cs x h;obtain⟨xs,n,rfl,rfl,hl,hx,hf⟩:=DataW.trod_struct ht h;rw [hn]at hl;obtain⟨o0,o1,o2,o3⟩:=o;obtain⟨y0,y1,y2,y3⟩:=y;obtain⟨k0,k1,k2,k3⟩:=k
 match cs,hl with
 | [v0,v1,v2,v3],_=>
  match xs,hx with
  | [x0,x1,x2,x3],_=>
   have g0:=hf 0 f0 rfl;have g1:=hf 1 f1 rfl;have g2:=hf 2 f2 rfl;have g3:=hf 3 f3 rfl;rw [y0,o0,k0]at g0;rw [y1,o1,k0]at g1;rw [y2,o2,k1]at g2;rw [y3,o3,k2]at g3;obtain⟨b0,e0,rfl⟩:=DataW.trod_bool hB (show _=some x0 from g0);obtain⟨b1,e1,rfl⟩:=DataW.trod_bool hB (show _=some x1 from g1);obtain⟨n2,e2,rfl,_⟩:=DataW.trod_int hI (show _=some x2 from g2);obtain⟨v,e3,r⟩:=adz (c:= .str) (dec:=YB) hR k3 (by decide) (aho hS) (show _=some x3 from g3);cases e0;cases e1;cases e2;cases e3;exact .cons (.bool _) (.cons (.bool _) (.cons (.int _ _) (.cons r .nil)))
end
end Go.TX
namespace Go.TX
open Go Go.AE Go.ChangeShapes Go.WideShapes Go.ChangeAt
abbrev KG(x:Cac):Prop:=x.words.length<9223372036854775808/\x.blk.ops.length<9223372036854775808
section
variable {H:Type} {enc:TypeId×Value->H} {P:Program} {W:World}
theorem YC{t:TypeId}(ht:P.underlying t=some (.int .i64)):EO enc P W .i64 (λ_=>True) t:=by
 intro fuel cs x h _;obtain⟨n,rfl,rfl,_⟩:=DataW.trod_int ht h;exact⟨n,.cons (.int .i64 n) .nil,trivial⟩
theorem ahp{t tI tW tB:TypeId}{f0 f1:Field}(ht:P.underlying t=some (.struct #[f0,f1]))(hn:P.cellsOf t=8)(h0:f0.offset=0/\f0.type=tW)(h1:f1.offset=1/\f1.type=tB)(hw:P.cellsOf tW=1)(hb:P.cellsOf tB=7)(hW:P.underlying tW=some (.slice tI))(hI:P.underlying tI=some (.int .i64))(hc:P.cellsOf tI=1)(hE:EO enc P W .blk BG tB):EO enc P W .cac KG t:=by
 intro fuel cs x h hp;obtain⟨y0,y1,n,rfl,hl,k0,k1⟩:=trod_struct2 ht h;rw [h0.1,h0.2,hw]at k0;rw [h1.1,h1.2,hb]at k1;obtain⟨v,ws,e,r,l,_⟩:=vF (c:= .i64) hW hc (by decide) (YC hI) k0 (λp q=>hp p (List.mem_append_left _ q));obtain⟨b,b1,b2⟩:=hE _ _ _ k1 (λp q=>hp p (List.mem_append_right _ q));refine⟨⟨ws,b⟩,?_,l,b2⟩;have e':cs=(cs.drop 0).take 1++(cs.drop 1).take 7:=by
  rw [List.drop_zero,List.take_of_length_le (l:=cs.drop 1) (by rw [List.length_drop];omega),List.take_append_drop]
 rw [e',e];exact .cons r b1
def CP(enc:TypeId×Value->H)(P:Program)(W:World)(t:TypeId)(g:D->Prop):Prop:=∀fuel cs x,tr enc P W fuel t cs=some x->inW W x.2->∃v d,cs=[v]/\bX (λb=>b<W.heap.size) W v d/\g d
def FL(enc:TypeId×Value->H)(P:Program)(W:World):Nat->List Field->List (D->Prop)->Prop
 | _,[],[]=>True
 | k,f::fs,g::gs=>f.offset=k/\P.cellsOf f.type=1/\CP enc P W f.type g/\FL enc P W (k+1) fs gs
 | _,_,_=>False
theorem FL.cons{k:Nat}{f:Field}{fs:List Field}{g:D->Prop}{gs:List (D->Prop)}(h1:f.offset=k)(h2:P.cellsOf f.type=1)(h3:CP enc P W f.type g)(h4:FL enc P W (k+1) fs gs):FL enc P W k (f::fs) (g::gs):=⟨h1,h2,h3,h4⟩
theorem FL.nil{k:Nat}:FL enc P W k [] []:=trivial
end
abbrev apZ:Sig:={args:=[.c (.rows false .cac),.c (.rows false .i64)],objs:=[],res:=[.c .bool],dP:=[]}
theorem ahq{E:Tab}{f:FuncId}{c:Ct aD apZ}(hc:dI E f (dD c)){xs:List Cac}{ys:List Int}{W:World}{v u:Value}(hv:bX (λb=>b<W.heap.size) W v (.rows 8 (aH .cac xs)))(hu:bX (λb=>b<W.heap.size) W u (.rows 1 (aH .i64 ys)))
  (hg:oI E (entry W) W) (hp:c.pre (xs,ys,())=true):Go.Calls E.P f #[v,u] W λe W'=>e= .returned (.bool (c.fn (xs,ys,())).1)/\RowKit.Below W.heap.size W W':=by
 refine(hc.calls [.c (.d true (.rows 8 (aH .cac xs))),.c (.d true (.rows 1 (aH .i64 ys)))] [] 0 (λr _ _=>PVR (nmh []) r (.c (.d true (.bool (c.fn (xs,ys,())).1)))) ?_ (entry W) W [v,u] rfl
  (.cons (.c _ _ (.d true _ _ hv)) (.cons (.c _ _ (.d true _ _ hu)) .nil)) (OU W) hg).mono ?_
 .refine⟨0,[.c (.d false (.rows .cac xs)),.c (.d false (.rows .i64 ys))],[],.cons (.one (.c (.d rfl λh=>by cases h))) (.cons (.one (.c (.d rfl λh=>by cases h))) .nil),⟨λl o h=>(by cases h),λ_ _=>rfl⟩,rfl,_,rfl,?_,_,_,rfl,?_⟩
  .intro b hb;rcases List.mem_append.1 hb with h | h
   .cases h
   .rw [List.mem_singleton]at h;rw [h];exact hp
  .intro r _ _ h _ _ _;exact h
 .rintro e W' he;cases e with
  | returned u=>
   obtain⟨c',r,h',j,g,_,_,h1,h2⟩:=he;exact⟨by rw [aco h1 h2],Kq g⟩
  | outgrown=>exact he.elim
  | panicked _=>exact he.elim
end Go.TX
namespace Go.TX.Seat
open Go Go.AE Go.TX Go.TX.F Go.Proofs
set_option maxRecDepth 100000
theorem ap0:∀t n,E.ieq t=some n->∀(xs ys:List Int),xs.length=n->ys.length=n->∀w,
  (Op.equal t (.agg (xs.map (Value.int .i64)).toArray) (.agg (ys.map (Value.int .i64)).toArray)).run E.P w= .ok (xs==ys) w/\
  (eqGuard .eql t (.tmp 0) (.tmp 0) (.agg (xs.map (Value.int .i64)).toArray) (.agg (ys.map (Value.int .i64)).toArray)).run E.P w= .ok () w:=by
 intro t n h;obtain⟨c,hc,rfl⟩:∃c,ieq t=some c/\c.size=n:=by
  have h':(ieq t).map (λc=>c.size)=some n:=h;cases hi:ieq t with
  | none=>rw [hi]at h';cases h'
  | some c=>rw [hi]at h';cases h';exact⟨c,rfl,rfl⟩
 unfold ieq at hc;split at hc
 all_goals first | (cases hc;exact ahh (by kernel_rfl) (by kernel_rfl) (by kernel_rfl) (by kernel_rfl) (by kernel_rfl)) | cases hc
theorem hE:aF E:=⟨apm,ap0⟩
theorem ap1:∀t c,X.ieq t=some c->(c= .ins/\E.ieq t=some 4)\/(c= .iop/\E.ieq t=some 5):=by
 intro t c h;have h:ieq t=some c:=h;have e:E.ieq t=(ieq t).map λc=>c.size:=rfl
 rw [e,h];unfold ieq at h;split at h
 all_goals first | (cases h;first | exact Or.inl ⟨rfl,rfl⟩ | exact Or.inr ⟨rfl,rfl⟩) | cases h
theorem xok:XOK X E:=⟨rfl,λg c h=>(by
    first
    | (cases h;done)
    | (dsimp only [X] at h
       split at h
       · rename_i e;cases h;unfold E;dsimp only;rw [if_pos e];rfl
       · cases h)),ap1⟩
theorem hm:E.P.follows .mixedOrders=true:=by kernel_rfl
structure HL(l:List (Nat×Sig)) where
 C:Cs (std 0) l
 h:∀p∈csl (std 0) l C,dI E p.1 (dD p.2.2)
abbrev hn : HL [] := ⟨(), λ_ h => by cases h⟩
abbrev hk{f : FuncId}{s : Sig}{c : Ct aD s}{l : List (Nat × Sig)}(h : dI E f (dD c))(r : HL l) : HL ((f, s) :: l) := ⟨(c.pre, c.fn, r.C), λp hp => by
 rcases List.mem_cons.1 hp with rfl | hp
 .exact h
 .exact r.h p hp⟩
structure Mt{lk:aB}{s:Sig}{an:Ann}{fn:Func}{l:List (Nat×Sig)}(f:FuncId)(g:Gt lk X E an s fn l) where
 H:HL l
 k:Fn E f (g.F H.C) (cn (g.F H.C))
section
variable {lk:aB} {s:Sig} {an:Ann} {fn:Func} {l:List (Nat×Sig)} {f:FuncId}
@[irreducible] noncomputable def Mt.c {g : Gt lk X E an s fn l} (t : Mt f g) : Ct aD s := cn (g.F t.H.C)
theorem Mt.cs{g:Gt lk X E an s fn l}(t:Mt f g){x:ig s.inp}{Q:ig s.out->Prop}(h:g.F t.H.C x Q):t.c.pre x=true/\Q (t.c.fn x):=by unfold Mt.c;exact t.k.cs h
theorem Mt.ok{g:Gt lk X E an s fn l}(t:Mt f g):dI E f (dD t.c):=by unfold Mt.c;exact t.k.ok
@[reducible] noncomputable def hc {r : List (Nat × Sig)} {g : Gt lk X E an s fn l} (t : Mt f g) (h : HL r) : HL ((f, s) :: r) := hk t.ok h
theorem mkF(hf:E.P.funcs[f]? =some fn)(g:Gt lk X E an s fn l)(H:HL l)
 (hb:fn.body.isSome=true:=by rfl) (hn:(fn.name== "runtime.NumGoroutine")=false:=by kernel_rfl):Fn E f (g.F H.C) (cn (g.F H.C)):=apj hE xok hm hf hb (λ_=>enters_of hf hn) H.h (g.h H.C)
noncomputable def mk (g:Gt lk X E an s fn l) (hf:E.P.funcs[f]? =some fn) (H:HL l)
 (hb:fn.body.isSome=true:=by rfl) (hn:(fn.name== "runtime.NumGoroutine")=false:=by kernel_rfl):Mt f g:=⟨H,mkF hf g H hb hn⟩
end
theorem YD{E:Tab}{f:FuncId}{c:Ct aD {args:=[.c (.int .u64)],objs:=[],res:=[.c (.int .i64)],dP:=[]}}{g:Int->Int}(hent:Enters E.P f)(hg:(λx:Int=>(c.fn (x,())).1)=g)
  (h:∀(x:Int) (w:World),c.pre (x,())=true->Go.Calls E.P f #[.int .u64 x] w λe w'=>e= .returned (.int .i64 (g x))/\w'=w):dI E f (dD c) where
 enters:=hent
 calls:=by
  rintro args hh n K ⟨m,qs,hs,hargs,HR,hlen,cr,hcall,abr,v,kT,hvk,hK⟩ c1 w vs hcn pU Hh Gl;have key:∀f0 (x:Int),qs=[.c (.d f0 (.int .u64 x))]->qD (std m) hs {args:=[.c (.int .u64)],objs:=[],res:=[.c (.int .i64)],dP:=[]} c qs=some {ck:=[c.pre (x,())],ts:=[.i],y:=c.fn (x,()),touched:=[],pure:=true,k:=λy=>some (.c (.d true (.int .i64 y.1)),hs)}:=by
   intro f0 x e;subst e;rfl
  have hq:∃f0 x,qs=[.c (.d f0 (.int .u64 x))]:=by
   unfold qD at hcall;cases qs with
   | nil=>simp [nP]at hcall
   | cons q r=>
    cases r with
    | cons q2 r2=>
     exfalso;simp only [nP]at hcall;cases hx:Ew (std m) hs (.c (.int .u64)) q (es0 (std m) 0 [])with
     | none=>rw [hx]at hcall;simp at hcall
     | some s=>rw [hx]at hcall;simp [nP]at hcall
    | nil=>
     simp only [nP]at hcall;cases q with
     | c y=>
      simp only [Ew,extC]at hcall;cases y with
      | d f0 y=>
       cases y with
       | int k x=>
        by_cases hk:IntKind.u64=k
        .subst hk;exact⟨f0,x,rfl⟩
        .simp [hk]at hcall
       | _=>simp at hcall
      | _=>simp at hcall
     | _=>simp [Ew]at hcall
  obtain⟨f0,x,rfl⟩:=hq;rw [key f0 x rfl]at hcall;simp only [Option.some.injEq]at hcall;subst hcall;simp only [Option.some.injEq,Prod.mk.injEq]at hvk;obtain⟨rfl,rfl⟩:=hvk;have hpre:=abr _ (List.mem_singleton.2 rfl);have hv:vs=[.int .u64 x]:=by
   cases hargs with
   | cons h1 h2=>
    cases h2;cases pU with
    | cons h3 h4=>
     cases h4;cases h1 with
     | one h1=>
      cases h1 with
      | c h1=>
       cases h1 with
       | d h5 _=>
        subst h5;cases h3 with
        | c _ _ h6=>cases h6 with
         | d _ _ _ h7=>cases h7;rfl
      | agg h1=>cases h1
  subst hv;refine(h x w hpre).mono ?_;rintro e w' ⟨rfl,rfl⟩;refine⟨c1,.c (.d true (.int .i64 (g x))),hh,0,.refl _ _ _,Hh,hcn,.c _ _ (.d _ _ _ (.int _ _)),hK _ _ _ ?_ HR (.refl _ _ _) hlen⟩;rw [<-hg];exact .one (.c (.d rfl λ_=> .inl rfl))
end Go.TX.Seat
namespace Go.TX.F
open Go Go.AE Go.TX Go.TX.Seat Go.Proofs
set_option maxRecDepth 100000
set_option maxHeartbeats 4000000
noncomputable def YE:=mk VD Tryz.func38 hn
def am2:=λl m h h0 h1=>(YE.cs (adx l m h h0 h1:)).1
def am3:=λl m h h0 h1=>(YE.cs (adx l m h h0 h1:)).2
noncomputable def YF:=mk VE Tryz.func70 hn
def am4:=λl m h h0 h1=>(YF.cs (adn l m h h0 h1:)).1
def am5:=λl m h h0 h1=>(YF.cs (adn l m h h0 h1:)).2
noncomputable def adA:=mk VF Tryz.func39 (hc YF hn)
def qc:=λb m h h0 h1=>adA.cs (amm am4 am5 b m h h0 h1:)
def am6:=λb m h h0 h1=>(qc b m h h0 h1).1
def am7:=λb m h h0 h1=>(qc b m h h0 h1).2
noncomputable def adB:=mk VG Tryz.func17 (hc YE (hc adA hn))
def og:=λq m h h0 h1=>adB.cs (amS ⟨am2,am3⟩ ⟨am6,am7⟩ q m h h0 h1:)
def am8:=λq m h h0 h1=>(og q m h h0 h1).1
def am9:=λq m h h0 h1=>(og q m h h0 h1).2
noncomputable def adC:=mk VH Tryz.func5 (hc adB hn)
def mQ:=λl m h h0 h1=>adC.cs (amT am8 am9 l m h h0 h1:)
def ana:=λl m h h0 h1=>(mQ l m h h0 h1).1
def anb:=λl m h h0 h1=>(mQ l m h h0 h1).2
noncomputable def xE:=mk L8 Tryz.func62 hn
def Ee:=λa=>(xE.cs (XB a:)).1
def Ef:=λa=>(xE.cs (XB a:)).2
noncomputable def mU:=mk L9 Tryz.func63 hn
def qO:=λa b c=>(mU.cs (XA a b c:)).1
def qP:=λa b c=>(mU.cs (XA a b c:)).2
noncomputable def OV:=mk Ma Tryz.func108 hn
def ahr:=λi=>(OV.cs (tZ i:)).1
def ahs:=λi=>(OV.cs (tZ i:)).2
noncomputable def Io:=mk Mc Tryz.func73 (hc mU (hc OV hn))
def yT:=λi=>Io.cs (EA ⟨qO,qP⟩ ahr ahs i:)
def OW:=λi=>(yT i).1
def OX:=λi=>(yT i).2
noncomputable def YG:=mk Md Tryz.func71 (hc Io (hc xE hn))
def ug:=λw=>YG.cs (ag8 ⟨OW,OX⟩ ⟨Ee,Ef⟩ w:)
def aht:=λw=>(ug w).1
def ahu:=λw=>(ug w).2
noncomputable def YH:=mk Me Tryz.func40 (hc YG hn)
def uh:=λw h=>YH.cs (ahb ⟨aht,ahu⟩ w h:)
def ahv:=λw h=>(uh w h).1
def ahw:=λw h=>(uh w h).2
noncomputable def Ip:=mk Mf Tryz.func74 hn
def YI:=λa=>(Ip.cs (rD a:)).1
def YJ:=λa=>(Ip.cs (rD a:)).2
noncomputable def YK:=mk Mg Tryz.func72 (hc Ip (hc Io hn))
def uj:=λi=>YK.cs (BF ⟨YI,YJ⟩ ⟨OW,OX⟩ i:)
def ahx:=λi=>(uj i).1
def ahy:=λi=>(uj i).2
noncomputable def OY:=mk Mh Tryz.func41 (hc Ip (hc Io (hc mU (hc YK hn))))
def yU:=λpc l hl=>OY.cs (EC ⟨YI,YJ⟩ ⟨OW,OX⟩ ⟨qO,qP⟩ ahx ahy pc l hl:)
def YL:=λpc l hl=>(yU pc l hl).1
def YM:=λpc l hl=>(yU pc l hl).2
noncomputable def YN:=mk Mi Tryz.func182 (hc mU hn)
def um:=λk=>YN.cs (agF ⟨qO,qP⟩ k:)
def ahz:=λk=>(um k).1
def ahA:=λk=>(um k).2
noncomputable def OZ:=mk Mj Tryz.func152 (hc YN hn)
def yV:=λops x n h1=>OZ.cs (agG ahz ahA ops x n h1:)
def YO:=λops x n h1=>(yV ops x n h1).1
def YP:=λops x n h1=>(yV ops x n h1).2
noncomputable def YQ:=mk Mk Tryz.func109 (hc xE (hc mU (hc OZ hn)))
def Bd:=λops i len h0 h1 h3=>YQ.cs (agH ⟨Ee,Ef⟩ ⟨qO,qP⟩ ⟨YO,YP⟩ ops i len h0 h1 h3:)
def ahB:=λops i len h0 h1 h3=>(Bd ops i len h0 h1 h3).1
def ahC:=λops i len h0 h1 h3=>(Bd ops i len h0 h1 h3).2
noncomputable def YR:=mk Ml Tryz.func110 (hc xE (hc OZ hn))
def yX:=λb=>YR.cs (agI ⟨Ee,Ef⟩ ⟨YO,YP⟩ b:)
def ahD:=λb=>(yX b).1
def ahE:=λb=>(yX b).2
noncomputable def O1:=mk Mq Tryz.func75 (hc mU (hc YR (hc YQ hn)))
def Bf:=λb h2=>O1.cs (agJ ⟨qO,qP⟩ ahD ahE ahB ahC b h2:)
def YS:=λb h2=>(Bf b h2).1
def YT:=λb h2=>(Bf b h2).2
noncomputable def O4:=mk Mr Tryz.func76 hn
def ahF:=λa b ha=>(O4.cs (X6 a b ha:)).1
def ahG:=λa b ha=>(O4.cs (X6 a b ha:)).2
noncomputable def Eh:=mk Ms Tryz.func111 (hc mU hn)
def uo:=λa=>Eh.cs (af9 ⟨qO,qP⟩ a:)
def Iq:=λa=>(uo a).1
def Ir:=λa=>(uo a).2
noncomputable def O5:=mk Mv Tryz.func77 (hc Eh hn)
def vU:=O5.cs (agx ⟨Iq,Ir⟩:)
def YU:=(vU).1
def YV:=(vU).2
noncomputable def Ei:=mk Mw Tryz.func163 hn
def O6:=λa b ha=>(Ei.cs (XE a b ha:)).1
def O7:=λa b ha=>(Ei.cs (XE a b ha:)).2
noncomputable def YW:=mk Mx Tryz.func190 (hc mU hn)
def vV:=λm hm=>YW.cs (aga ⟨qO,qP⟩ m hm:)
def ahH:=λm hm=>(vV m hm).1
def ahI:=λm hm=>(vV m hm).2
noncomputable def xG:=mk MB Tryz.func159 (hc YW (hc Ei hn))
def yY:=λa ha=>xG.cs (agb ahH ahI ⟨O6,O7⟩ a ha:)
def Av:=λa ha=>(yY a ha).1
def Aw:=λa ha=>(yY a ha).2
noncomputable def O8:=mk MC Tryz.func183 hn
def ahJ:=λa=>(O8.cs (XG a:)).1
def ahK:=λa=>(O8.cs (XG a:)).2
noncomputable def O9:=mk ME Tryz.func184 hn
def ahL:=λa n ha=>(O9.cs (XF a n ha:)).1
def ahM:=λa n ha=>(O9.cs (XF a n ha:)).2
noncomputable def Pb:=mk MF Tryz.func153 (hc mU (hc xG (hc O9 (hc O8 hn))))
def vW:=λa n ha=>Pb.cs (agd ⟨qO,qP⟩ ⟨Av,Aw⟩ ⟨ahL,ahM⟩ ahJ ahK a n ha:)
def YX:=λa n ha=>(vW a n ha).1
def YZ:=λa n ha=>(vW a n ha).2
noncomputable def uw:=mk MG Tryz.func126 (hc Ei hn)
def rE:=λa b ha=>uw.cs (agc ⟨O6,O7⟩ a b ha:)
def xH:=λa b ha=>(rE a b ha).1
def xI:=λa b ha=>(rE a b ha).2
noncomputable def Pf:=mk MH Tryz.func154 (hc uw hn)
def vX:=λa b ha=>Pf.cs (agf ⟨xH,xI⟩ a b ha:)
def Y0:=λa b ha=>(vX a b ha).1
def Za:=λa b ha=>(vX a b ha).2
noncomputable def Zb:=mk MI Tryz.func112 (hc Pb (hc Pf hn))
def yZ:=λa ha=>Zb.cs (agh ⟨YX,YZ⟩ ⟨Y0,Za⟩ a ha:)
def ahN:=λa ha=>(yZ a ha).1
def ahO:=λa ha=>(yZ a ha).2
noncomputable def mW:=mk MK Tryz.func121 hn
def qQ:=λa ha=>(mW.cs (XI a ha:)).1
def qR:=λa ha=>(mW.cs (XI a ha:)).2
noncomputable def Ph:=mk ML Tryz.func155 (hc mW hn)
def vY:=λa ha=>Ph.cs (agl ⟨qQ,qR⟩ a ha:)
def Zc:=λa ha=>(vY a ha).1
def Zd:=λa ha=>(vY a ha).2
noncomputable def Ze:=mk MN Tryz.func113 (hc Ph hn)
def vZ:=λa ha=>Ze.cs (agm ⟨Zc,Zd⟩ a ha:)
def ahP:=λa ha=>(vZ a ha).1
def ahQ:=λa ha=>(vZ a ha).2
noncomputable def Iu:=mk MO Tryz.func114 (hc Pb (hc Pf (hc Ph hn)))
def y7:=λa t ha ht hok=>Iu.cs (agn ⟨YX,YZ⟩ ⟨Y0,Za⟩ ⟨Zc,Zd⟩ a t ha ht hok:)
def Pj:=λa t ha ht hok=>(y7 a t ha ht hok).1
def Pm:=λa t ha ht hok=>(y7 a t ha ht hok).2
noncomputable def Pn:=mk MQ Tryz.func115 hn
def ahR:=λk l=>(Pn.cs (Yf k l:)).1
def ahS:=λk l=>(Pn.cs (Yf k l:)).2
noncomputable def Po:=mk MR Tryz.func116 (hc mU hn)
def rF:=λa=>Po.cs (af8 ⟨qO,qP⟩ a:)
def Zf:=λa=>(rF a).1
def Zg:=λa=>(rF a).2
noncomputable def Ay:=mk MU Tryz.func204 hn
def Iw:=λa=>(Ay.cs (XD a:)).1
def Iy:=λa=>(Ay.cs (XD a:)).2
noncomputable def Pp:=mk MV Tryz.func202 (hc Ei (hc Ay hn))
def wm:=λl m hl hn hm hma=>Pp.cs (agt ⟨O6,O7⟩ ⟨Iw,Iy⟩ l m hl hn hm hma:)
def Zh:=λl m hl hn hm hma=>(wm l m hl hn hm hma).1
def Zi:=λl m hl hn hm hma=>(wm l m hl hn hm hma).2
noncomputable def Pq:=mk MW Tryz.func203 (hc mW hn)
def y8:=λa ha=>Pq.cs (agk ⟨qQ,qR⟩ a ha:)
def Zj:=λa ha=>(y8 a ha).1
def Zk:=λa ha=>(y8 a ha).2
noncomputable def Zl:=mk MX Tryz.func185 (hc xG (hc Pp (hc Pq hn)))
def wo:=λa b ha hb=>Zl.cs (agu ⟨Av,Aw⟩ ⟨Zh,Zi⟩ ⟨Zj,Zk⟩ a b ha hb:)
def ahT:=λa b ha hb=>(wo a b ha hb).1
def ahU:=λa b ha hb=>(wo a b ha hb).2
noncomputable def Zm:=mk MZ Tryz.func186 (hc xG (hc Ay (hc mW (hc xE hn))))
def rG:=λa n ha=>Zm.cs (agw ⟨Av,Aw⟩ ⟨Iw,Iy⟩ ⟨qQ,qR⟩ ⟨Ee,Ef⟩ a n ha:)
def ahV:=λa n ha=>(rG a n ha).1
def ahW:=λa n ha=>(rG a n ha).2
noncomputable def Pv:=mk M0 Tryz.func205 hn
def ahX:=λa b ha hb sa sb=>(Pv.cs (XL a b ha hb sa sb:)).1
def ahY:=λa b ha hb sa sb=>(Pv.cs (XL a b ha hb sa sb:)).2
noncomputable def Zn:=mk M4 Tryz.func187 (hc xG (hc Ay (hc Pp (hc Pv (hc Pq hn)))))
def wu:=λa b ha hb=>Zn.cs (agv ⟨Av,Aw⟩ ⟨Iw,Iy⟩ ⟨Zh,Zi⟩ ahX ahY ⟨Zj,Zk⟩ a b ha hb:)
def ahZ:=λa b ha hb=>(wu a b ha hb).1
def ah0:=λa b ha hb=>(wu a b ha hb).2
noncomputable def Zo:=mk M5 Tryz.func156 (hc Zn (hc Zl (hc Zm hn)))
def wz:=λop x y hx hy=>Zo.cs (agr ⟨ahZ,ah0⟩ ⟨ahT,ahU⟩ ⟨ahV,ahW⟩ op x y hx hy:)
def ah1:=λop x y hx hy=>(wz op x y hx hy).1
def ah2:=λop x y hx hy=>(wz op x y hx hy).2
noncomputable def Iz:=mk M6 Tryz.func160 (hc xG hn)
def wB:=λa ha=>Iz.cs (agj ⟨Av,Aw⟩ a ha:)
def Pw:=λa ha=>(wB a ha).1
def Px:=λa ha=>(wB a ha).2
noncomputable def Zp:=mk M7 Tryz.func188 (hc Ay (hc xE hn))
def y9:=λop a b=>Zp.cs (agi ⟨Ee,Ef⟩ ⟨Iw,Iy⟩ op a b:)
def ah3:=λop a b=>(y9 op a b).1
def ah4:=λop a b=>(y9 op a b).2
noncomputable def Zq:=mk M8 Tryz.func189 (hc mW hn)
def wC:=λop n y hy=>Zq.cs (agp ⟨qQ,qR⟩ op n y hy:)
def ah5:=λop n y hy=>(wC op n y hy).1
def ah6:=λop n y hy=>(wC op n y hy).2
noncomputable def Zr:=mk M9 Tryz.func157 (hc uw (hc mW (hc Zp (hc Po (hc Iz (hc Zq hn))))))
def wD:=λop x y hx hy=>Zr.cs (agq ⟨xH,xI⟩ ⟨qQ,qR⟩ ⟨ah3,ah4⟩ ⟨Zf,Zg⟩ ⟨Pw,Px⟩ ah5 ah6 op x y hx hy:)
def ah7:=λop x y hx hy=>(wD op x y hx hy).1
def ah8:=λop x y hx hy=>(wD op x y hx hy).2
set_option maxRecDepth 100000
set_option maxHeartbeats 4000000
noncomputable def Zt:=mk Na Tryz.func117 (hc Eh (hc uw (hc Zo (hc Zr (hc Iu hn)))))
def Bg:=λop x y t hop hx hy ht hok=>Zt.cs (ags ⟨Iq,Ir⟩ ⟨xH,xI⟩ ah1 ah2 ah7 ah8 ⟨Pj,Pm⟩ op x y t hop hx hy ht hok:)
def ah9:=λop x y t hop hx hy ht hok=>(Bg op x y t hop hx hy ht hok).1
def aia:=λop x y t hop hx hy ht hok=>(Bg op x y t hop hx hy ht hok).2
noncomputable def Py:=mk Nb Tryz.func158 hn
def aib:=λl k hl=>(Py.cs (Yg l k hl:)).1
def aic:=λl k hl=>(Py.cs (Yg l k hl:)).2
noncomputable def Zu:=mk Nc Tryz.func118 (hc Eh (hc Iu (hc Py hn)))
def uz:=λl k t hl ht hk=>Zu.cs (agR ⟨Iq,Ir⟩ ⟨Pj,Pm⟩ aib aic l k t hl ht hk:)
def aie:=λl k t hl ht hk=>(uz l k t hl ht hk).1
def aif:=λl k t hl ht hk=>(uz l k t hl ht hk).2
noncomputable def IB:=mk Ng Tryz.func120 (hc mW hn)
def uD:=λa ha=>IB.cs (agQ ⟨qQ,qR⟩ a ha:)
def Pz:=λa ha=>(uD a ha).1
def PD:=λa ha=>(uD a ha).2
noncomputable def Zv:=mk Nh Tryz.func119 (hc mW (hc IB hn))
def uE:=λo x y r hx hy hr=>Zv.cs (agS ⟨qQ,qR⟩ ⟨Pz,PD⟩ o x y r hx hy hr:)
def aii:=λo x y r hx hy hr=>(uE o x y r hx hy hr).1
def aij:=λo x y r hx hy hr=>(uE o x y r hx hy hr).2
noncomputable def PE:=mk Ni Tryz.func122 hn
def aik:=λb=>(PE.cs (Yi b:)).1
def ail:=λb=>(PE.cs (Yi b:)).2
noncomputable def PG:=mk Nj Tryz.func123 hn
def ain:=λb=>(PG.cs (Yj b:)).1
def aio:=λb=>(PG.cs (Yj b:)).2
noncomputable def IC:=mk Nk Tryz.func161 hn
def Zw:=λs k=>(IC.cs (Yh s k:)).1
def Zx:=λs k=>(IC.cs (Yh s k:)).2
noncomputable def Zy:=mk Nl Tryz.func162 (hc Iz (hc uw (hc IC hn)))
def Bh:=λs n hs hx hy hf=>Zy.cs (agT ⟨Pw,Px⟩ ⟨xH,xI⟩ ⟨Zw,Zx⟩ s n hs hx hy hf:)
def aip:=λs n hs hx hy hf=>(Bh s n hs hx hy hf).1
def aiq:=λs n hs hx hy hf=>(Bh s n hs hx hy hf).2
noncomputable def Zz:=mk Nn Tryz.func124 (hc Iz (hc xG (hc mW (hc IC (hc Zy (hc IB hn))))))
def wE:=λs n hs=>Zz.cs (agU ⟨Pw,Px⟩ ⟨Av,Aw⟩ ⟨qQ,qR⟩ ⟨Zw,Zx⟩ aip aiq ⟨Pz,PD⟩ s n hs:)
def air:=λs n hs=>(wE s n hs).1
def ais:=λs n hs=>(wE s n hs).2
noncomputable def ZA:=mk Np Tryz.func78 (hc O1 (hc Eh (hc Po (hc Zz (hc O5 (hc Zb (hc mW (hc Ze (hc Zt (hc Iu (hc Zu (hc Zv (hc Pn (hc IB (hc PE (hc PG hn))))))))))))))))
def wF:=λt b ht hb=>ZA.cs (agV ⟨YS,YT⟩ ⟨Iq,Ir⟩ ⟨Zf,Zg⟩ ⟨air,ais⟩ ⟨YU,YV⟩ ⟨ahN,ahO⟩ ⟨qQ,qR⟩ ⟨ahP,ahQ⟩ ah9 aia ⟨Pj,Pm⟩ aie aif aii aij ahR ahS ⟨Pz,PD⟩ aik ail ain aio t b ht hb:)
def ait:=λt b ht hb=>(wF t b ht hb).1
def aiu:=λt b ht hb=>(wF t b ht hb).2
noncomputable def PI:=mk Nq Tryz.func125 (hc uw hn)
def uF:=λa b ha=>PI.cs (agX ⟨xH,xI⟩ a b ha:)
def ZB:=λa b ha=>(uF a b ha).1
def ZE:=λa b ha=>(uF a b ha).2
noncomputable def ZF:=mk Nr Tryz.func127 (hc uw (hc PI hn))
def uG:=λa b ha=>ZF.cs (agY ⟨xH,xI⟩ ⟨ZB,ZE⟩ a b ha:)
def aiv:=λa b ha=>(uG a b ha).1
def aiw:=λa b ha=>(uG a b ha).2
noncomputable def ZG:=mk Ns Tryz.func79 (hc uw (hc ZF (hc PI hn)))
def uH:=λa b ha=>ZG.cs (agZ ⟨xH,xI⟩ ⟨aiv,aiw⟩ ⟨ZB,ZE⟩ a b ha:)
def aix:=λa b ha=>(uH a b ha).1
def aiy:=λa b ha=>(uH a b ha).2
noncomputable def ZH:=mk Nt Tryz.func42 (hc O1 (hc O4 (hc O5 (hc ZA (hc ZG hn)))))
def uI:=λb c hb hc=>ZH.cs (ag0 ⟨YS,YT⟩ ⟨ahF,ahG⟩ ⟨YU,YV⟩ ⟨ait,aiu⟩ ⟨aix,aiy⟩ b c hb hc:)
def aiz:=λb c hb hc=>(uI b c hb hc).1
def aiA:=λb c hb hc=>(uI b c hb hc).2
noncomputable def xJ:=mk Nu Tryz.func128 hn
def xK:=λa1 a2 a3 a4 a5 a6 o ops h=>(xJ.cs (vQ a1 a2 a3 a4 a5 a6 o ops h:)).1
def xL:=λa1 a2 a3 a4 a5 a6 o ops h=>(xJ.cs (vQ a1 a2 a3 a4 a5 a6 o ops h:)).2
noncomputable def IE:=mk Nv Tryz.func129 (hc xJ hn)
def ZI:=λa1 a2 a3 a4 a5 a6 k x ops h=>(IE.cs (vS ⟨xK,xL⟩ a1 a2 a3 a4 a5 a6 k x ops h:)).1
def ZJ:=λa1 a2 a3 a4 a5 a6 k x ops h=>(IE.cs (vS ⟨xK,xL⟩ a1 a2 a3 a4 a5 a6 k x ops h:)).2
noncomputable def Az:=mk Nw Tryz.func130 (hc xJ hn)
def IG:=λa1 a2 a3 a4 a5 a6 k ops h=>(Az.cs (vR ⟨xK,xL⟩ a1 a2 a3 a4 a5 a6 k ops h:)).1
def II:=λa1 a2 a3 a4 a5 a6 k ops h=>(Az.cs (vR ⟨xK,xL⟩ a1 a2 a3 a4 a5 a6 k ops h:)).2
noncomputable def PK:=mk Ny Tryz.func131 (hc Az (hc xJ hn))
def rH:=λa1 a2 a3 a4 a5 a6 k a o ops h=>PK.cs (Aq ⟨IG,II⟩ ⟨xK,xL⟩ a1 a2 a3 a4 a5 a6 k a o ops h:)
def ZK:=λa1 a2 a3 a4 a5 a6 k a o ops h=>(rH a1 a2 a3 a4 a5 a6 k a o ops h).1
def ZL:=λa1 a2 a3 a4 a5 a6 k a o ops h=>(rH a1 a2 a3 a4 a5 a6 k a o ops h).2
noncomputable def PL:=mk Nz Tryz.func132 hn
def aiB:=λk k0 k1=>(PL.cs (rC k k0 k1:)).1
def aiC:=λk k0 k1=>(PL.cs (rC k k0 k1:)).2
noncomputable def ZM:=mk NA Tryz.func133 (hc Az (hc xJ (hc PK (hc IE hn))))
def uJ:=λa1 a2 a3 a4 a5 a6 i n ops hi h=>ZM.cs (BD ⟨IG,II⟩ ⟨xK,xL⟩ ⟨ZK,ZL⟩ ⟨ZI,ZJ⟩ a1 a2 a3 a4 a5 a6 i n ops hi h:)
def aiD:=λa1 a2 a3 a4 a5 a6 i n ops hi h=>(uJ a1 a2 a3 a4 a5 a6 i n ops hi h).1
def aiE:=λa1 a2 a3 a4 a5 a6 i n ops hi h=>(uJ a1 a2 a3 a4 a5 a6 i n ops hi h).2
noncomputable def ZN:=mk NC Tryz.func134 (hc Az hn)
def wG:=λB i hi h=>ZN.cs (Ec ⟨IG,II⟩ B i hi h:)
def aiF:=λB i hi h=>(wG B i hi h).1
def aiG:=λB i hi h=>(wG B i hi h).2
noncomputable def ZO:=mk ND Tryz.func80 (hc Az (hc ZN (hc xJ (hc ZM (hc PK (hc IE (hc PL hn)))))))
def za:=λB i n hi h0 h=>ZO.cs (EB ⟨IG,II⟩ aiF aiG ⟨xK,xL⟩ aiD aiE ⟨ZK,ZL⟩ ⟨ZI,ZJ⟩ aiB aiC B i n hi h0 h:)
def aiH:=λB i n hi h0 h=>(za B i n hi h0 h).1
def aiI:=λB i n hi h0 h=>(za B i n hi h0 h).2
noncomputable def ZP:=mk NG Tryz.func43 (hc OY (hc ZO hn))
def rJ:=λpc l hl=>ZP.cs (Ar ⟨YL,YM⟩ aiH aiI pc l hl:)
def aiJ:=λpc l hl=>(rJ pc l hl).1
def aiK:=λpc l hl=>(rJ pc l hl).2
noncomputable def ZQ:=mk NH Tryz.func18 (hc ZP (hc OY (hc YH (hc ZH hn))))
def rM:=λe hw ho=>ZQ.cs (ahc ⟨aiJ,aiK⟩ ⟨YL,YM⟩ ⟨ahv,ahw⟩ ⟨aiz,aiA⟩ e hw ho:)
def aiL:=λe hw ho=>(rM e hw ho).1
def aiM:=λe hw ho=>(rM e hw ho).2
noncomputable def PN:=mk NI Tryz.func19 hn
def aiN:=λw mem pc hw hm p0 p1=>(PN.cs (Yv w mem pc hw hm p0 p1:)).1
def aiO:=λw mem pc hw hm p0 p1=>(PN.cs (Yv w mem pc hw hm p0 p1:)).2
noncomputable def ZR:=mk NJ Tryz.func6 (hc ZQ (hc PN hn))
def ze:=λl mem h hm=>ZR.cs (ahd aiL aiM ⟨aiN,aiO⟩ l mem h hm:)
def aiP:=λl mem h hm=>(ze l mem h hm).1
def aiQ:=λl mem h hm=>(ze l mem h hm).2
noncomputable def IJ:=mk NK Tryz.func8 hn
def ZT:=λl h=>(IJ.cs (Yx l h:)).1
def ZU:=λl h=>(IJ.cs (Yx l h:)).2
noncomputable def PO:=mk NP Tryz.func135 hn
def aiR:=λo=>(PO.cs (Yk o:)).1
def aiS:=λo=>(PO.cs (Yk o:)).2
noncomputable def ZV:=mk NQ Tryz.func81 (hc PO hn)
def uK:=λl h=>ZV.cs (ag1 aiR aiS l h:)
def aiT:=λl h=>(uK l h).1
def aiU:=λl h=>(uK l h).2
noncomputable def ZW:=mk NR Tryz.func44 (hc ZV hn)
def qd:=λb h=>ZW.cs (ag2 aiT aiU b h:)
def aiV:=λb h=>(qd b h).1
def aiW:=λb h=>(qd b h).2
noncomputable def ZX:=mk NS Tryz.func20 (hc IJ (hc ZW hn))
def oh:=λq h1 h2=>ZX.cs (ahf ⟨ZT,ZU⟩ ⟨aiV,aiW⟩ q h1 h2:)
def aiX:=λq h1 h2=>(oh q h1 h2).1
def aiY:=λq h1 h2=>(oh q h1 h2).2
noncomputable def ZY:=mk NT Tryz.func7 (hc ZX hn)
def mX:=λl h=>ZY.cs (ahg aiX aiY l h:)
def aiZ:=λl h=>(mX l h).1
def ai0:=λl h=>(mX l h).2
noncomputable def jH:=mk VI Tryz.func46 hn
def j6:=λa b c=>(jH.cs (ac7 a b c:)).1
def kg:=λa b c=>(jH.cs (ac7 a b c:)).2
noncomputable def Rm:=mk VJ Tryz.func82 (hc jH hn)
def zf:=λa=>Rm.cs (aln ⟨j6,kg⟩ a:)
def Z0:=λa=>(zf a).1
def Z4:=λa=>(zf a).2
noncomputable def Z5:=mk VK Tryz.func48 (hc jH (hc Rm hn))
def zh:=λi=>Z5.cs (amx ⟨j6,kg⟩ ⟨Z0,Z4⟩ i:)
def adD:=λi=>(zh i).1
def adE:=λi=>(zh i).2
noncomputable def Ej:=mk VL Tryz.func66 (hc jH hn)
def zi:=λa=>Ej.cs (alk ⟨j6,kg⟩ a:)
def FR:=λa=>(zi a).1
def FT:=λa=>(zi a).2
noncomputable def adF:=mk VN Tryz.func45 (hc Z5 (hc Ej hn))
def uL:=λw=>adF.cs (amK ⟨adD,adE⟩ ⟨FR,FT⟩ w:)
def ane:=λw=>(uL w).1
def anf:=λw=>(uL w).2
noncomputable def ang:=mk afu Tryz.func21 (hc adF hn)
def uM:=λw h=>ang.cs (apV ⟨ane,anf⟩ w h:)
def ap2:=λw h=>(uM w h).1
def ap3:=λw h=>(uM w h).2
noncomputable def PU:=mk NU Tryz.func47 hn
def ai1:=λa b ha=>(PU.cs (Yw a b ha:)).1
def ai2:=λa b ha=>(PU.cs (Yw a b ha:)).2
noncomputable def anh:=mk afv Tryz.func22 (hc jH (hc PU hn))
def jI:=λe mem hw hm=>anh.cs (apS ⟨j6,kg⟩ ⟨ai1,ai2⟩ e mem hw hm:)
def ap4:=λe mem hw hm=>(jI e mem hw hm).1
def ap5:=λe mem hw hm=>(jI e mem hw hm).2
set_option maxRecDepth 100000
set_option maxHeartbeats 4000000
noncomputable def adG:=mk VO Tryz.func49 (hc jH hn)
def uN:=λa=>adG.cs (amy ⟨j6,kg⟩ a:)
def ani:=λa=>(uN a).1
def anj:=λa=>(uN a).2
noncomputable def ai3:=mk afw Tryz.func23 (hc adG (hc Z5 (hc jH hn)))
def zk:=λpc l hl=>ai3.cs (apJ ⟨ani,anj⟩ ⟨adD,adE⟩ ⟨j6,kg⟩ pc l hl:)
def ank:=λpc l hl=>(zk pc l hl).1
def anl:=λpc l hl=>(zk pc l hl).2
noncomputable def Z6:=mk VP Tryz.func89 (hc jH hn)
def rO:=λo=>Z6.cs (alV ⟨j6,kg⟩ o:)
def adH:=λo=>(rO o).1
def adI:=λo=>(rO o).2
noncomputable def Z7:=mk VQ Tryz.func136 (hc jH hn)
def Bj:=λa=>Z7.cs (alm ⟨j6,kg⟩ a:)
def adJ:=λa=>(Bj a).1
def adK:=λa=>(Bj a).2
noncomputable def adL:=mk VR Tryz.func164 (hc jH hn)
def kW:=λo=>adL.cs (alW ⟨j6,kg⟩ o:)
def anm:=λo=>(kW o).1
def ano:=λo=>(kW o).2
noncomputable def Z8:=mk VT Tryz.func137 (hc adL (hc jH hn))
def kX:=λb x n h0 h1 h2=>Z8.cs (alY anm ano ⟨j6,kg⟩ b x n h0 h1 h2:)
def adM:=λb x n h0 h1 h2=>(kX b x n h0 h1 h2).1
def adN:=λb x n h0 h1 h2=>(kX b x n h0 h1 h2).2
noncomputable def adO:=mk VU Tryz.func83 (hc Z8 (hc Z6 (hc Ej (hc jH (hc Z7 (hc Rm hn))))))
def lJ:=λb i h0 h1 h2 h3=>adO.cs (alZ ⟨adM,adN⟩ ⟨adH,adI⟩ ⟨FR,FT⟩ ⟨j6,kg⟩ ⟨adJ,adK⟩ ⟨Z0,Z4⟩ b i h0 h1 h2 h3:)
def anp:=λb i h0 h1 h2 h3=>(lJ b i h0 h1 h2 h3).1
def anq:=λb i h0 h1 h2 h3=>(lJ b i h0 h1 h2 h3).2
noncomputable def Rn:=mk VW Tryz.func95 hn
def adP:=λb=>(Rn.cs (adh b:)).1
def adQ:=λb=>(Rn.cs (adh b:)).2
noncomputable def adR:=mk VX Tryz.func84 (hc Rn (hc Z8 (hc Ej (hc jH hn))))
def kY:=λb h2=>adR.cs (al0 ⟨adP,adQ⟩ ⟨adM,adN⟩ ⟨FR,FT⟩ ⟨j6,kg⟩ b h2:)
def anr:=λb h2=>(kY b h2).1
def ant:=λb h2=>(kY b h2).2
noncomputable def Z9:=mk VY Tryz.func50 (hc adR (hc adO (hc jH hn)))
def Bn:=λb h2=>Z9.cs (al1 anr ant anp anq ⟨j6,kg⟩ b h2:)
def adS:=λb h2=>(Bn b h2).1
def adT:=λb h2=>(Bn b h2).2
noncomputable def PW:=mk NV Tryz.func85 hn
def ai4:=λa b ha=>(PW.cs (X5 a b ha:)).1
def ai5:=λa b ha=>(PW.cs (X5 a b ha:)).2
noncomputable def adU:=mk VZ Tryz.func51 (hc PW hn)
def wH:=λa b ha=>adU.cs (ama ⟨ai4,ai5⟩ a b ha:)
def anu:=λa b ha=>(wH a b ha).1
def anv:=λa b ha=>(wH a b ha).2
noncomputable def aac:=mk V3 Tryz.func192 hn
def anw:=λa n=>(aac.cs (ac8 a n:)).1
def anx:=λa n=>(aac.cs (ac8 a n:)).2
noncomputable def aad:=mk NW Tryz.func206 (hc aac hn)
def iM:=λa n ha=>aad.cs (afT anw anx a n ha:)
def ai6:=λa n ha=>(iM a n ha).1
def ai7:=λa n ha=>(iM a n ha).2
noncomputable def aae:=mk NY Tryz.func191 (hc aad hn)
def gV:=λa n ha=>aae.cs (afU ai6 ai7 a n ha:)
def ai8:=λa n ha=>(gV a n ha).1
def ai9:=λa n ha=>(gV a n ha).2
noncomputable def aaf:=mk V4 Tryz.func166 (hc aae hn)
def rP:=λa n ha=>aaf.cs (alr ai8 ai9 a n ha:)
def adV:=λa n ha=>(rP a n ha).1
def adW:=λa n ha=>(rP a n ha).2
noncomputable def acr:=mk afx Tryz.func198 hn
def anz:=λa=>(acr.cs (alo a:)).1
def anA:=λa=>(acr.cs (alo a:)).2
noncomputable def acs:=mk afy Tryz.func174 (hc acr hn)
def om:=λa b=>acs.cs (apq ⟨anz,anA⟩ a b:)
def aja:=λa b=>(om a b).1
def ajb:=λa b=>(om a b).2
noncomputable def acu:=mk afz Tryz.func175 hn
def anB:=λa b=>(acu.cs (alp a b:)).1
def anC:=λa b=>(acu.cs (alp a b:)).2
noncomputable def aag:=mk NZ Tryz.func199 (hc acs hn)
def jc:=λa b ha=>aag.cs (afR ⟨aja,ajb⟩ a b ha:)
def ajc:=λa b ha=>(jc a b ha).1
def ajd:=λa b ha=>(jc a b ha).2
noncomputable def Kr:=mk V5 Tryz.func176 (hc acu (hc acs (hc aag hn)))
def oq:=λa b ha=>Kr.cs (alq ⟨aja,ajb⟩ ajc ajd ⟨anB,anC⟩ a b ha:)
def Ro:=λa b ha=>(oq a b ha).1
def Rp:=λa b ha=>(oq a b ha).2
noncomputable def acv:=mk afA Tryz.func200 (hc acr hn)
def uO:=λa b=>acv.cs (apr ⟨anz,anA⟩ a b:)
def anD:=λa b=>(uO a b).1
def anE:=λa b=>(uO a b).2
noncomputable def aah:=mk N7 Tryz.func178 (hc acv hn)
def iV:=λa ha=>aah.cs (afS ⟨anD,anE⟩ a ha:)
def aje:=λa ha=>(iV a ha).1
def ajf:=λa ha=>(iV a ha).2
noncomputable def aai:=mk V6 Tryz.func180 hn
def anF:=λm=>(aai.cs (ac9 m:)).1
def anG:=λm=>(aai.cs (ac9 m:)).2
noncomputable def aaj:=mk N8 Tryz.func201 (hc aai hn)
def dA:=λa ha=>aaj.cs (afV (G:=(λm:aj=>0<m.atoms.length/\m.atoms.getD 0 default<0)) anF anG a ha:)
def ajg:=λa ha=>(dA a ha).1
def ajh:=λa ha=>(dA a ha).2
noncomputable def aak:=mk N9 Tryz.func179 (hc aaj hn)
def bY:=λa ha=>aak.cs (afW (G:=(λm:aj=>0<m.atoms.length/\m.atoms.getD 0 default<0)) ajg ajh a ha:)
def aji:=λa ha=>(bY a ha).1
def ajj:=λa ha=>(bY a ha).2
noncomputable def Bo:=mk V7 Tryz.func145 (hc jH (hc aaf (hc aah (hc Kr (hc aak hn)))))
def zl:=λa ha=>Bo.cs (als ⟨j6,kg⟩ ⟨adV,adW⟩ aje ajf ⟨Ro,Rp⟩ aji ajj a ha:)
def El:=λa ha=>(zl a ha).1
def Em:=λa ha=>(zl a ha).2
noncomputable def aal:=mk V8 Tryz.func139 (hc jH (hc Z7 (hc aaf (hc Bo (hc Rm hn)))))
def jY:=λa n ha=>aal.cs (alH ⟨j6,kg⟩ ⟨adJ,adK⟩ ⟨adV,adW⟩ ⟨El,Em⟩ ⟨Z0,Z4⟩ a n ha:)
def adX:=λa n ha=>(jY a n ha).1
def adY:=λa n ha=>(jY a n ha).2
noncomputable def Rq:=mk V9 Tryz.func142 (hc acu (hc acs (hc Kr hn)))
def rQ:=λa b ha=>Rq.cs (alu ⟨anB,anC⟩ ⟨aja,ajb⟩ ⟨Ro,Rp⟩ a b ha:)
def aam:=λa b ha=>(rQ a b ha).1
def aan:=λa b ha=>(rQ a b ha).2
noncomputable def En:=mk Wh Tryz.func99 (hc Rq hn)
def lK:=λa b ha=>En.cs (alv ⟨aam,aan⟩ a b ha:)
def FU:=λa b ha=>(lK a b ha).1
def FV:=λa b ha=>(lK a b ha).2
noncomputable def adZ:=mk Wi Tryz.func169 (hc En hn)
def lM:=λa b ha=>adZ.cs (alE ⟨FU,FV⟩ a b ha:)
def anH:=λa b ha=>(lM a b ha).1
def anI:=λa b ha=>(lM a b ha).2
noncomputable def ad1:=mk Wj Tryz.func168 (hc adZ hn)
def kZ:=λa b hb=>ad1.cs (alF ⟨anH,anI⟩ a b hb:)
def anJ:=λa b hb=>(kZ a b hb).1
def anK:=λa b hb=>(kZ a b hb).2
noncomputable def aao:=mk Oa Tryz.func167 (hc ad1 hn)
def dB:=λa b ha hb=>aao.cs (afY anJ anK a b ha hb:)
def ajk:=λa b ha hb=>(dB a b ha hb).1
def ajl:=λa b ha hb=>(dB a b ha hb).2
noncomputable def aap:=mk Wm Tryz.func140 (hc aao hn)
def mY:=λa b ha hb=>aap.cs (alG ajk ajl a b ha hb:)
def ad2:=λa b ha hb=>(mY a b ha hb).1
def ad3:=λa b ha hb=>(mY a b ha hb).2
noncomputable def aaq:=mk Ob Tryz.func177 hn
def eD:=λa=>aaq.cs (afX a:)
def ajm:=λa=>(eD a).1
def ajn:=λa=>(eD a).2
noncomputable def aar:=mk Wn Tryz.func143 (hc aal (hc aap (hc aaq hn)))
def ou:=λt a ht ha=>aar.cs (alJ ⟨adX,adY⟩ ⟨ad2,ad3⟩ ajm ajn t a ht ha:)
def ad4:=λt a ht ha=>(ou t a ht ha).1
def ad5:=λt a ht ha=>(ou t a ht ha).2
noncomputable def aas:=mk Wp Tryz.func144 (hc jH hn)
def uP:=λa=>aas.cs (alz ⟨j6,kg⟩ a:)
def ad6:=λa=>(uP a).1
def ad7:=λa=>(uP a).2
set_option maxRecDepth 100000
set_option maxHeartbeats 4000000
noncomputable def aat:=mk Wq Tryz.func94 (hc aas (hc aar hn))
def qg:=λkd k t fl ht=>aat.cs (al5 ⟨ad6,ad7⟩ ad4 ad5 kd k t fl ht:)
def ad8:=λkd k t fl ht=>(qg kd k t fl ht).1
def ad9:=λkd k t fl ht=>(qg kd k t fl ht).2
noncomputable def aau:=mk Ws Tryz.func86 (hc aat hn)
def oC:=λt fl ht hl=>aau.cs (al6 ⟨ad8,ad9⟩ t fl ht hl:)
def aea:=λt fl ht hl=>(oC t fl ht hl).1
def aeb:=λt fl ht hl=>(oC t fl ht hl).2
noncomputable def Rs:=mk Wt Tryz.func165 hn
def aec:=λa ha=>(Rs.cs (adb a ha:)).1
def aed:=λa ha=>(Rs.cs (adb a ha:)).2
noncomputable def Rt:=mk Wu Tryz.func138 (hc Rs hn)
def lg:=λa ha=>Rt.cs (alB ⟨aec,aed⟩ a ha:)
def aav:=λa ha=>(lg a ha).1
def aaw:=λa ha=>(lg a ha).2
noncomputable def aax:=mk Wv Tryz.func87 (hc Rt hn)
def lN:=λa ha=>aax.cs (alC ⟨aav,aaw⟩ a ha:)
def aee:=λa ha=>(lN a ha).1
def aef:=λa ha=>(lN a ha).2
noncomputable def aeg:=mk Ww Tryz.func52 (hc aax (hc aau hn))
def wI:=aeg.cs (al7 ⟨aee,aef⟩ ⟨aea,aeb⟩:)
def anL:=(wI).1
def anM:=(wI).2
noncomputable def aeh:=mk Wx Tryz.func88 (hc aal (hc aap hn))
def zm:=λa ha=>aeh.cs (alI ⟨adX,adY⟩ ⟨ad2,ad3⟩ a ha:)
def anN:=λa ha=>(zm a ha).1
def anO:=λa ha=>(zm a ha).2
noncomputable def aay:=mk Wy Tryz.func90 (hc jH hn)
def oD:=λo=>aay.cs (alX ⟨j6,kg⟩ o:)
def aaz:=λo=>(oD o).1
def aaA:=λo=>(oD o).2
noncomputable def aaB:=mk Oc Tryz.func91 hn
def dR:=λa h0 h1=>aaB.cs (agK a h0 h1:)
def ajo:=λa h0 h1=>(dR a h0 h1).1
def ajp:=λa h0 h1=>(dR a h0 h1).2
noncomputable def Rv:=mk Wz Tryz.func92 (hc jH hn)
def rR:=λa=>Rv.cs (aly ⟨j6,kg⟩ a:)
def aaC:=λa=>(rR a).1
def aaD:=λa=>(rR a).2
noncomputable def aaE:=mk WA Tryz.func147 (hc Bo hn)
def wJ:=λa ha=>aaE.cs (alA ⟨El,Em⟩ a ha:)
def aei:=λa ha=>(wJ a ha).1
def aej:=λa ha=>(wJ a ha).2
noncomputable def Kt:=mk WB Tryz.func197 hn
def aaF:=λa=>(Kt.cs (ada a:)).1
def aaG:=λa=>(Kt.cs (ada a:)).2
noncomputable def Eo:=mk WE Tryz.func208 (hc Kr hn)
def zn:=λa b ha=>Eo.cs (alD ⟨Ro,Rp⟩ a b ha:)
def aek:=λa b ha=>(zn a b ha).1
def ael:=λa b ha=>(zn a b ha).2
noncomputable def aaH:=mk Od Tryz.func224 (hc Eo hn)
def dL:=λa b d hd h1 h2 h3=>aaH.cs (af0 ⟨aek,ael⟩ a b d hd h1 h2 h3:)
def ajq:=λa b d hd h1 h2 h3=>(dL a b d hd h1 h2 h3).1
def ajr:=λa b d hd h1 h2 h3=>(dL a b d hd h1 h2 h3).2
noncomputable def PX:=mk Oe Tryz.func233 hn
def ajs:=λa b n d hl h1 h2 h3 h4=>(PX.cs (Xw a b n d hl h1 h2 h3 h4:)).1
def ajt:=λa b n d hl h1 h2 h3 h4=>(PX.cs (Xw a b n d hl h1 h2 h3 h4:)).2
noncomputable def AA:=mk Og Tryz.func231 (hc PX hn)
def fO:=λa m b d hl h1 h2 h3 h4=>AA.cs (afZ ajs ajt a m b d hl h1 h2 h3 h4:)
def aju:=λa m b d hl h1 h2 h3 h4=>(fO a m b d hl h1 h2 h3 h4).1
def ajv:=λa m b d hl h1 h2 h3 h4=>(fO a m b d hl h1 h2 h3 h4).2
noncomputable def cK:Nat->Ct aD LQ
 | 0=>never LQ
 | k+1=>cn (DU.F (Eo.c.pre,Eo.c.fn,AA.c.pre,AA.c.fn,(cK k).pre,(cK k).fn,()))
def kK:∀k:Nat,dI E 225 (dD (cK k))/\∀(a m b:Int) (d:List aj),Ah a m b d->b-a<k->(cK k).pre (a,m,b,d,())=true/\Mrg d ((cK k).fn (a,m,b,d,())).1 a b
 | 0=>⟨jX (enters_of Tryz.func225 (by kernel_rfl) rfl),λa m b d h1 h2=>(by have g1:=h1.h2;have g2:=h1.h3;omega)⟩
 | k+1=>by
  have ih:=kK k;have t:Fn E 225 (DU.F (Eo.c.pre,Eo.c.fn,AA.c.pre,AA.c.fn,(cK k).pre,(cK k).fn,())) (cK (k+1)):=mkF Tryz.func225 DU (hc Eo (hc AA (hk ih.1 hn)));exact⟨t.ok,λa m b d h1 h2=>t.cs (af2 ⟨aek,ael⟩ aju ajv (k:Int) (λa m b d h1 h2=>(ih.2 a m b d h1 h2).1) (λa m b d h1 h2=>(ih.2 a m b d h1 h2).2) a m b d h1 ah)⟩
noncomputable def ajw:Ct aD LQ:=cK 1000000000
def ajx:dI E 225 (dD ajw):=(kK 1000000000).1
def aem{a m b:Int}{d:List aj}(h:Ah a m b d):b-a< ((1000000000:Nat):Int):=by have g0:=h.sh.1;have g1:=h.h1;have g2:=h.h4;omega
def ajy:=λa m b d h=>((kK 1000000000).2 a m b d h (aem h)).1
def ajz:=λa m b d h=>((kK 1000000000).2 a m b d h (aem h)).2
noncomputable def aaI:=mk Oh Tryz.func213 (hc aaH (hk ajx hn))
def fP:=λn d hd hn=>aaI.cs (af3 ajq ajr ajy ajz n d hd hn:)
def ajA:=λn d hd hn=>(fP n d hd hn).1
def ajB:=λn d hd hn=>(fP n d hd hn).2
noncomputable def aaJ:=mk Oi Tryz.func207 (hc aaI hn)
def bV:=λd hd=>aaJ.cs (af4 ajA ajB d hd:)
def ajC:=λd hd=>(bV d hd).1
def ajD:=λd hd=>(bV d hd).2
noncomputable def aaK:=mk WG Tryz.func193 (hc Kr (hc Bo (hc Kt (hc Rs (hc aaJ hn)))))
def Ep:=λl hl hc=>aaK.cs (alL ⟨Ro,Rp⟩ ⟨El,Em⟩ ⟨aaF,aaG⟩ ⟨aec,aed⟩ ajC ajD l hl hc:)
def aen:=λl hl hc=>(Ep l hl hc).1
def aeo:=λl hl hc=>(Ep l hl hc).2
noncomputable def aaL:=mk Oj Tryz.func209 hn
def eF:=λn h1 h2=>aaL.cs (af5 n h1 h2:)
def ajE:=λn h1 h2=>(eF n h1 h2).1
def ajF:=λn h1 h2=>(eF n h1 h2).2
noncomputable def aaM:=mk Ol Tryz.func194 (hc aaL hn)
def dO:=λa b ha hb=>aaM.cs (af6 ajE ajF a b ha hb:)
def ajG:=λa b ha hb=>(dO a b ha hb).1
def ajH:=λa b ha hb=>(dO a b ha hb).2
noncomputable def aep:=mk WH Tryz.func170 (hc Bo (hc aaK (hc aaM hn)))
def wK:=λa b ha hb=>aep.cs (alM ⟨El,Em⟩ ⟨aen,aeo⟩ ajG ajH a b ha hb:)
def anP:=λa b ha hb=>(wK a b ha hb).1
def anQ:=λa b ha hb=>(wK a b ha hb).2
noncomputable def PY:=mk Om Tryz.func210 hn
def ajI:=λn h1 h2=>(PY.cs (Xx n h1 h2:)).1
def ajJ:=λn h1 h2=>(PY.cs (Xx n h1 h2:)).2
noncomputable def aaN:=mk Oo Tryz.func195 (hc PY hn)
def jJ:=λa b ha hb=>aaN.cs (af7 ajI ajJ a b ha hb:)
def ajK:=λa b ha hb=>(jJ a b ha hb).1
def ajL:=λa b ha hb=>(jJ a b ha hb).2
noncomputable def aaO:=mk Oq Tryz.func214 (hc acv hn)
def gq:=λa b d hd h1 h2=>aaO.cs (agy ⟨anD,anE⟩ a b d hd h1 h2:)
def ajM:=λa b d hd h1 h2=>(gq a b d hd h1 h2).1
def ajN:=λa b d hd h1 h2=>(gq a b d hd h1 h2).2
noncomputable def ajO:Ct aD Vt:=never Vt
def ajP:dI E 215 (dD ajO):=jX (enters_of Tryz.func215 (by kernel_rfl) rfl)
noncomputable def ajQ:Ct aD Vu:=never Vu
def ajR:dI E 216 (dD ajQ):=jX (enters_of Tryz.func216 (by kernel_rfl) rfl)
noncomputable def ajS:Ct aD LU:=never LU
def ajT:dI E 217 (dD ajS):=jX (enters_of Tryz.func217 (by kernel_rfl) rfl)
noncomputable def ajU:Ct aD Vv:=never Vv
def ajV:dI E 218 (dD ajU):=jX (enters_of Tryz.func218 (by kernel_rfl) rfl)
noncomputable def ajW:Ct aD LW:=never LW
def ajX:dI E 219 (dD ajW):=jX (enters_of Tryz.func219 (by kernel_rfl) rfl)
noncomputable def ajY:Ct aD LY:=never LY
def ajZ:dI E 220 (dD ajY):=jX (enters_of Tryz.func220 (by kernel_rfl) rfl)
noncomputable def aj0:Ct aD LZ:=never LZ
def aj1:dI E 221 (dD aj0):=jX (enters_of Tryz.func221 (by kernel_rfl) rfl)
noncomputable def lF:Ct aD DT:=never DT
def lG:dI E 211 (dD lF):=jX (enters_of Tryz.func211 (by kernel_rfl) rfl)
noncomputable def aaP:=mk Ou Tryz.func211 (hc acv (hc aaO (hk ajP (hk ajR (hk ajT (hk ajV (hk ajX (hk ajZ (hk aj1 (hk lG hn))))))))))
def iI:=λa b k d hd h1 h2=>aaP.cs (agz ajM ajN _ _ _ _ _ _ _ _ _ _ _ _ _ _ _ _ a b k d hd h1 h2:)
def aj2:=λa b k d hd h1 h2=>(iI a b k d hd h1 h2).1
def aj3:=λa b k d hd h1 h2=>(iI a b k d hd h1 h2).2
set_option maxRecDepth 100000
set_option maxHeartbeats 4000000
noncomputable def aaQ:Ct aD Vw:={pre:=λx=>decide ((0:Int)<=x.1)&&decide ((x.1:Int)<=18446744073709551615),fn:=λx=>((Lib.bitLen (x.1:Int).toNat:Int),())}
def aj4(n:Int)(h1:0<=n)(h2:n<=18446744073709551615):aaQ.pre (n,())=true:=by
 show(decide _&&decide _)=true;simp only [Bool.and_eq_true,decide_eq_true_eq];exact⟨h1,h2⟩
def aj5:dI E 212 (dD aaQ):=
 YD (enters_of Tryz.func212 (by kernel_rfl) rfl) rfl λx w h=>by
  have h':(decide ((0:Int)<=x)&&decide (x<=18446744073709551615))=true:=h;simp only [Bool.and_eq_true,decide_eq_true_eq]at h';exact bits_Len x w h'.1 h'.2
noncomputable def aaR:=mk Ov Tryz.func196 (hc aaP (hk aj5 hn))
def ku:=λa ha=>aaR.cs (agA aj2 aj3 aj4 a ha:)
def aj6:=λa ha=>(ku a ha).1
def aj7:=λa ha=>(ku a ha).2
noncomputable def aaS:=mk WI Tryz.func172 (hc Bo (hc Kt (hc aaK (hc aaN (hc aaR hn)))))
def wL:=λa b ha hb=>aaS.cs (alN ⟨El,Em⟩ ⟨aaF,aaG⟩ ⟨aen,aeo⟩ ajK ajL aj6 aj7 a b ha hb:)
def aer:=λa b ha hb=>(wL a b ha hb).1
def aes:=λa b ha hb=>(wL a b ha hb).2
noncomputable def aeu:=mk WJ Tryz.func171 (hc Bo (hc Rv (hc Ej (hc aaS hn))))
def rT:=λa n ha=>aeu.cs (alO ⟨El,Em⟩ ⟨aaC,aaD⟩ ⟨FR,FT⟩ ⟨aer,aes⟩ a n ha:)
def anR:=λa n ha=>(rT a n ha).1
def anS:=λa n ha=>(rT a n ha).2
noncomputable def aev:=mk WK Tryz.func173 (hc Ej (hc Kt hn))
def zo:=λop a b=>aev.cs (alx ⟨FR,FT⟩ ⟨aaF,aaG⟩ op a b:)
def anT:=λop a b=>(zo op a b).1
def anU:=λop a b=>(zo op a b).2
noncomputable def aew:=mk WL Tryz.func141 (hc En (hc Rv (hc aev (hc aep (hc aaS (hc aeu (hc aaE hn)))))))
def wM:=λop x y hx hy=>aew.cs (alP ⟨FU,FV⟩ ⟨aaC,aaD⟩ ⟨anT,anU⟩ ⟨anP,anQ⟩ ⟨aer,aes⟩ ⟨anR,anS⟩ ⟨aei,aej⟩ op x y hx hy:)
def anV:=λop x y hx hy=>(wM op x y hx hy).1
def anW:=λop x y hx hy=>(wM op x y hx hy).2
noncomputable def aex:=mk WM Tryz.func93 (hc Rq (hc aew (hc aar (hc aas hn))))
def qh:=λt op x y ht hx hy=>aex.cs (alQ ⟨aam,aan⟩ anV anW ad4 ad5 ⟨ad6,ad7⟩ t op x y ht hx hy:)
def anX:=λt op x y ht hx hy=>(qh t op x y ht hx hy).1
def anY:=λt op x y ht hx hy=>(qh t op x y ht hx hy).2
noncomputable def aey:=mk WO Tryz.func181 (hc Rt hn)
def oF:=λa ha=>aey.cs (al3 ⟨aav,aaw⟩ a ha:)
def anZ:=λa ha=>(oF a ha).1
def an0:=λa ha=>(oF a ha).2
noncomputable def aez:=mk WQ Tryz.func146 (hc Rt (hc aey hn))
def lQ:=λs hs=>aez.cs (al4 ⟨aav,aaw⟩ ⟨anZ,an0⟩ s hs:)
def an1:=λs hs=>(lQ s hs).1
def an2:=λs hs=>(lQ s hs).2
noncomputable def aeA:=mk WR Tryz.func148 (hc Ej hn)
def wN:=λr a b=>aeA.cs (al2 ⟨FR,FT⟩ r a b:)
def an3:=λr a b=>(wN r a b).1
def an4:=λr a b=>(wN r a b).2
noncomputable def aeB:=mk WS Tryz.func96 (hc aaE (hc Bo (hc Rq (hc aez (hc En (hc aeA hn))))))
def wO:=λs n hs h0 h1=>aeB.cs (al8 ⟨aei,aej⟩ ⟨El,Em⟩ ⟨aam,aan⟩ an1 an2 ⟨FU,FV⟩ ⟨an3,an4⟩ s n hs h0 h1:)
def an5:=λs n hs h0 h1=>(wO s n hs h0 h1).1
def an6:=λs n hs h0 h1=>(wO s n hs h0 h1).2
noncomputable def aeC:=mk WT Tryz.func53 (hc Rn (hc Z9 (hc aay (hc Z6 (hc Rv (hc aeB (hc aeh (hc aax (hc aex (hc aat (hc aau (hc aaB hn))))))))))))
def wP:=λt b ht hb=>aeC.cs (al9 ⟨adP,adQ⟩ ⟨adS,adT⟩ ⟨aaz,aaA⟩ ⟨adH,adI⟩ ⟨aaC,aaD⟩ ⟨an5,an6⟩ ⟨anN,anO⟩ ⟨aee,aef⟩ ⟨anX,anY⟩ ⟨ad8,ad9⟩ ⟨aea,aeb⟩ ajo ajp t b ht hb:)
def an7:=λt b ht hb=>(wP t b ht hb).1
def an8:=λt b ht hb=>(wP t b ht hb).2
noncomputable def aeD:=mk WU Tryz.func150 (hc En hn)
def mZ:=λa b ha=>aeD.cs (amb ⟨FU,FV⟩ a b ha:)
def an9:=λa b ha=>(mZ a b ha).1
def aoa:=λa b ha=>(mZ a b ha).2
noncomputable def aaT:=mk Ow Tryz.func149 (hc aeD hn)
def bg:=λa b ha=>aaT.cs (agM ⟨an9,aoa⟩ a b ha:)
def aj8:=λa b ha=>(bg a b ha).1
def aj9:=λa b ha=>(bg a b ha).2
noncomputable def aaU:=mk WW Tryz.func100 (hc aaT hn)
def qj:=λa b ha=>aaU.cs (amc ⟨aj8,aj9⟩ a b ha:)
def aeE:=λa b ha=>(qj a b ha).1
def aeF:=λa b ha=>(qj a b ha).2
noncomputable def aeG:=mk WX Tryz.func98 (hc En (hc aaU hn))
def qm:=λa b ha=>aeG.cs (amd ⟨FU,FV⟩ ⟨aeE,aeF⟩ a b ha:)
def aob:=λa b ha=>(qm a b ha).1
def aoc:=λa b ha=>(qm a b ha).2
noncomputable def aaV:=mk Ox Tryz.func97 (hc aeG hn)
def aV:=λa b ha=>aaV.cs (agN ⟨aob,aoc⟩ a b ha:)
def akb:=λa b ha=>(aV a b ha).1
def akc:=λa b ha=>(aV a b ha).2
noncomputable def aeH:=mk WY Tryz.func54 (hc En (hc aaU (hc aaV hn)))
def uQ:=λa b ha=>aeH.cs (ame ⟨FU,FV⟩ ⟨aeE,aeF⟩ akb akc a b ha:)
def aod:=λa b ha=>(uQ a b ha).1
def aoe:=λa b ha=>(uQ a b ha).2
noncomputable def aeI:=mk WZ Tryz.func24 (hc Z9 (hc adU (hc aeg (hc aeC (hc aeH hn)))))
def uR:=λb c hb hc=>aeI.cs (amf ⟨adS,adT⟩ ⟨anu,anv⟩ anL anM ⟨an7,an8⟩ ⟨aod,aoe⟩ b c hb hc:)
def aof:=λb c hb hc=>(uR b c hb hc).1
def aog:=λb c hb hc=>(uR b c hb hc).2
noncomputable def Er:=mk W9 Tryz.func102 (hc aay hn)
def Bp:=λkd x y k a1 a2 a3 a4 a5 a6 a ops h=>(Er.cs (adp ⟨aaz,aaA⟩ kd x y k a1 a2 a3 a4 a5 a6 a ops h:)).1
def Bq:=λkd x y k a1 a2 a3 a4 a5 a6 a ops h=>(Er.cs (adp ⟨aaz,aaA⟩ kd x y k a1 a2 a3 a4 a5 a6 a ops h:)).2
noncomputable def aeJ:=mk Xa Tryz.func101 (hc Er hn)
def jZ:=λv i a1 a2 a3 a4 a5 a6 a ops h=>aeJ.cs (amA ⟨Bp,Bq⟩ v i a1 a2 a3 a4 a5 a6 a ops h:)
def aoh:=λv i a1 a2 a3 a4 a5 a6 a ops h=>(jZ v i a1 a2 a3 a4 a5 a6 a ops h).1
def aoi:=λv i a1 a2 a3 a4 a5 a6 a ops h=>(jZ v i a1 a2 a3 a4 a5 a6 a ops h).2
noncomputable def aaW:=mk Xb Tryz.func103 (hc Er hn)
def aoj:=λk a1 a2 a3 a4 a5 a6 a ops h=>(aaW.cs (adq ⟨Bp,Bq⟩ k a1 a2 a3 a4 a5 a6 a ops h:)).1
def aol:=λk a1 a2 a3 a4 a5 a6 a ops h=>(aaW.cs (adq ⟨Bp,Bq⟩ k a1 a2 a3 a4 a5 a6 a ops h:)).2
noncomputable def aaX:=mk Xc Tryz.func104 (hc Er hn)
def aom:=λk a1 a2 a3 a4 a5 a6 a ops h=>(aaX.cs (ads ⟨Bp,Bq⟩ k a1 a2 a3 a4 a5 a6 a ops h:)).1
def aon:=λk a1 a2 a3 a4 a5 a6 a ops h=>(aaX.cs (ads ⟨Bp,Bq⟩ k a1 a2 a3 a4 a5 a6 a ops h:)).2
noncomputable def aaY:=mk Xd Tryz.func105 (hc Er hn)
def aoo:=λop x y a1 a2 a3 a4 a5 a6 a ops h=>(aaY.cs (adt ⟨Bp,Bq⟩ op x y a1 a2 a3 a4 a5 a6 a ops h:)).1
def aop:=λop x y a1 a2 a3 a4 a5 a6 a ops h=>(aaY.cs (adt ⟨Bp,Bq⟩ op x y a1 a2 a3 a4 a5 a6 a ops h:)).2
noncomputable def aeK:=mk Xe Tryz.func55 (hc aaY (hc aaX (hc aeJ (hc Er (hc aaW hn)))))
def lu:=λi B a h h8 h0=>aeK.cs (amB aoo aop aom aon aoh aoi ⟨Bp,Bq⟩ aoj aol i B a h h8 h0:)
def aoq:=λi B a h h8 h0=>(lu i B a h h8 h0).1
def aor:=λi B a h h8 h0=>(lu i B a h h8 h0).2
noncomputable def aaZ:=mk Xf Tryz.func56 hn
def aos:=λb hb=>(aaZ.cs (adk b hb:)).1
def aot:=λb hb=>(aaZ.cs (adk b hb:)).2
noncomputable def aou:=mk afB Tryz.func25 (hc ai3 (hc aaZ (hc aeK hn)))
def rU:=λpc l hl=>aou.cs (apK ⟨ank,anl⟩ ⟨aos,aot⟩ aoq aor pc l hl:)
def ap6:=λpc l hl=>(rU pc l hl).1
def ap7:=λpc l hl=>(rU pc l hl).2
noncomputable def akd:=mk afC Tryz.func58 hn
def ap8:=λe pc=>(akd.cs (amR e pc:)).1
def ap9:=λe pc=>(akd.cs (amR e pc:)).2
noncomputable def aa0:=mk Oy Tryz.func57 (hc akd hn)
def cB:=λl pc h=>aa0.cs (ahe ap8 ap9 l pc h:)
def ake:=λl pc h=>(cB l pc h).1
def akf:=λl pc h=>(cB l pc h).2
set_option maxRecDepth 100000
set_option maxHeartbeats 4000000
noncomputable def aov:=mk afD Tryz.func26 (hc aa0 hn)
def uS:=λl pc h=>aov.cs (apQ ake akf l pc h:)
def aqa:=λl pc h=>(uS l pc h).1
def aqb:=λl pc h=>(uS l pc h).2
noncomputable def aeL:=mk Xg Tryz.func9 (hc aou (hc ai3 (hc ang (hc anh (hc aov (hc aeI hn))))))
def zq:=λl mem h hm=>aeL.cs (amX ⟨ap6,ap7⟩ ⟨ank,anl⟩ ⟨ap2,ap3⟩ ⟨ap4,ap5⟩ ⟨aqa,aqb⟩ ⟨aof,aog⟩ l mem h hm:)
def aow:=λl mem h hm=>(zq l mem h hm).1
def aox:=λl mem h hm=>(zq l mem h hm).2
noncomputable def Rw:=mk Xh Tryz.func11 hn
def aeM:=λa b hlen=>(Rw.cs (ady a b hlen:)).1
def aeN:=λa b hlen=>(Rw.cs (ady a b hlen:)).2
noncomputable def aa1:=mk Xi Tryz.func151 hn
def aoy:=λa b=>(aa1.cs (adl a b:)).1
def aoz:=λa b=>(aa1.cs (adl a b:)).2
noncomputable def aeO:=mk Xj Tryz.func106 (hc aa1 hn)
def uT:=λa b hlen=>aeO.cs (amk aoy aoz a b hlen:)
def aoA:=λa b hlen=>(uT a b hlen).1
def aoB:=λa b hlen=>(uT a b hlen).2
noncomputable def aeP:=mk Xk Tryz.func59 (hc aeO hn)
def qo:=λa b h=>aeP.cs (aml ⟨aoA,aoB⟩ a b h:)
def aoC:=λa b h=>(qo a b h).1
def aoD:=λa b h=>(qo a b h).2
noncomputable def aeQ:=mk Xl Tryz.func27 (hc Rw (hc aeP hn))
def oG:=λa b h1 h2=>aeQ.cs (amV ⟨aeM,aeN⟩ ⟨aoC,aoD⟩ a b h1 h2:)
def aoE:=λa b h1 h2=>(oG a b h1 h2).1
def aoF:=λa b h1 h2=>(oG a b h1 h2).2
noncomputable def aeR:=mk Xm Tryz.func10 (hc aeQ hn)
def ni:=λa b hD=>aeR.cs (amW aoE aoF a b hD:)
def aoG:=λa b hD=>(ni a b hD).1
def aoH:=λa b hD=>(ni a b hD).2
noncomputable def aeS:=mk Xn Tryz.func3 (hc aeL (hc aeR (hc Rw (hc adC (hc ZY (hc IJ (hc ZR hn)))))))
def lS:=λl mem h hm=>aeS.cs (amY ⟨aow,aox⟩ ⟨aoG,aoH⟩ ⟨aeM,aeN⟩ ⟨ana,anb⟩ ⟨aiZ,ai0⟩ ⟨ZT,ZU⟩ ⟨aiP,aiQ⟩ l mem h hm:)
def aoI:=λl mem h hm=>(lS l mem h hm).1
def aoJ:=λl mem h hm=>(lS l mem h hm).2
end Go.TX.F
namespace Go.Proofs.YthhkbfpkkbhibaaGreatDoor
open Go.ChangeShapes Go.WideShapes Go.ChangeAt Go.RowKit
def aqc:ownKnob Tryz.prog.godebug=Option.none:=by kernel_rfl
def aa2:laidOutB Tryz.prog=true:=by kernel_rfl
abbrev Ku:List (String×DataW Unit):=Rows.fnExactCacOkRow.laid
def akg:Tryz.prog.globalNamed (Rows.fnExactCacOkRow.named.getD 0 Rows.fnExactCacOkRow.func)=some 0:=by kernel_rfl
def akh:(Tryz.prog.globals[0]?).map (·.type)=some 124:=by kernel_rfl
def aa3(os:Os)(args:Array Value):laidMetH Tryz.prog Ku ((World.doorLaid Tryz.prog 400 os).forCall (λ_ _=>0) ⟨#[],args,[]⟩).memory:=
 laidMetH_of_parts3 (fuel:=8) (laidMet_of_run' 8 (by kernel_rfl) (by kernel_rfl)) (by kernel_rfl) (by kernel_rfl)
def acw{W:World}(h:laidMetH Tryz.prog Ku W):Go.AE.oI Go.TX.Seat.E (Go.TX.entry W) W:=by
 rw [MakeChecks.laidMetH_plain _ _ _ (by kernel_rfl)]at h;obtain⟨ps,⟨g0,t0,cs0,f0,p0,q0,hg0,ht0,hv0,hd0,_,_⟩,_⟩:=h;obtain rfl:=Option.some.inj (akg.symm.trans hg0);obtain rfl:=Option.some.inj (akh.symm.trans ht0);obtain⟨v,e,r⟩:=Go.TX.adz (c:= .form) (dec:=Go.TX.am0) Tryz.underlying124 (by kernel_rfl) (by decide) (Go.TX.acp Tryz.underlying123 (by kernel_rfl) ⟨rfl,rfl,rfl,rfl⟩ ⟨rfl,rfl,rfl,rfl⟩ Tryz.underlying4 Tryz.underlying3 Tryz.underlying121 Tryz.underlying9 ⟨by kernel_rfl,by kernel_rfl,by kernel_rfl,by kernel_rfl⟩) hd0;have hc:=World.var?_cell hg0 hv0 0;rw [Array.eq_one_of_toList e]at hc;have hc:W.cell? ⟨0,0,none⟩=some v:=by simpa using hc
 intro g d hg;have hg':(if g==0 then some (.rows 4 (Go.TX.aH .form Go.TX.tu))else none)=some d:=hg;split at hg'
 .rename_i c;have c:=beq_iff_eq.1 c;subst c;cases hg';exact⟨Go.TX.Rl hc,v,hc,r⟩
 .cases hg'
set_option maxRecDepth 100000 in
def lifted(os:Os)(started:os.Started)(H:Type)(enc:TypeId×Value->H):
  ReturnsInHanded {} Tryz.checked os 3 .any (λw args=>(Rows.fnExactCacOkSpec.pre enc Tryz.prog Tryz.f3 [] false w args/\laidMetH Tryz.prog Ku w)/\sizedMet enc Tryz.prog Tryz.f3 (OpenSpec.ofChange Rows.fnExactCacOkSpec) false w args) (Rows.fnExactCacOkSpec.post enc Tryz.prog Tryz.f3 false true false false):=by
 refine returnsInHanded_of_change_and (C:=Tryz.checked) (X:=λw _=>laidMetH Tryz.prog Ku w) (λ_ _ _ hh h=>h.of_heap hh) aqc started (by kernel_rfl) Tryz.func3
  (ChangeSpec.witness_shaped (enc:=enc) (C:=Tryz.checked) (os:=os) (X:=λw _=>laidMetH Tryz.prog Ku w) false (World.doorLaid Tryz.prog 400 os) #[.slice none 0 0,.slice none 0 0] 8 rfl (World.shaped_of_RefB (by kernel_rfl) (by kernel_rfl)) (by kernel_rfl) (by kernel_rfl) (by kernel_rfl) (aa3 os _)) ?_
 intro W base args ds gs before hval0 hW _ _ hL _;have hval:∀(j:Nat) t v,Tryz.f3.params[j]? =some t->args[j]? =some v->Value.okWide Tryz.prog W .any base t v:=hval0;have hW':=hW;obtain⟨p,q,hA0,hV,rfl,_,_⟩:=hW;have hA:DataW.TrodAll enc Tryz.prog W 0 (λ_=>true) true Tryz.f3.params.toList args.toList ds p:=hA0;rw [Tryz.params3]at hA hval;obtain⟨v0,v1,d0,d1,p0,p1,rfl,rfl,rfl,h0,h1⟩:=trodAll_two hA;obtain⟨_,_,_,_,g0,_,rfl,_,_,_,_,_⟩:=trodVars_one hV
 clear hA0 hval0
 have aqd:Go.TX.CO enc Tryz.prog W (.rows .iop) 47:=Go.TX.ahl Tryz.underlying47 Tryz.underlying177 (by kernel_rfl) rfl (by kernel_rfl);have aqe:Go.TX.EO enc Tryz.prog W .blk Go.TX.BG 49:=Go.TX.ahm Tryz.underlying49 (by kernel_rfl) (by kernel_rfl) aqd;have aqf:Go.TX.EO enc Tryz.prog W .cac Go.TX.KG 51:=Go.TX.ahp Tryz.underlying51 (by kernel_rfl) ⟨rfl,rfl⟩ ⟨rfl,rfl⟩ (by kernel_rfl) (by kernel_rfl) Tryz.underlying23 Tryz.underlying3 (by kernel_rfl) aqe;have hlt:∀x∈p0++p1,x.block<W.heap.size:=λx hx=>by simpa using hW'.lt x (List.mem_append_left _ hx)
 have hl0:∀x∈p0,x.block<W.heap.size:=λx hx=>hlt x (List.mem_append_left _ hx)
 have hl1:∀x∈p1,x.block<W.heap.size:=λx hx=>hlt x (List.mem_append_right _ hx)
 obtain⟨a0,len,cap,rfl⟩:=okWide_slice Tryz.underlying22 (hval 0 22 v0 rfl rfl);obtain⟨a1,len1,akq,rfl⟩:=okWide_slice Tryz.underlying23 (hval 1 23 v1 rfl rfl);have h0':=h0;have h1':=h1;obtain⟨f0,q0⟩:=h0';obtain⟨f1,q1⟩:=h1';obtain⟨v,xs,e,hr,hb,hc⟩:=Go.TX.vF (c:= .cac) Tryz.underlying22 (by kernel_rfl) (by decide) aqf q0 hl0;obtain⟨u,ys,e',hs,hd,_⟩:=Go.TX.vF (c:= .i64) Tryz.underlying23 (by kernel_rfl) (by decide) (Go.TX.YC Tryz.underlying3) q1 hl1;have ev:Value.slice a0 len cap=v:=by simpa [Value.cells]using e
 have eu:Value.slice a1 len1 akq=u:=by simpa [Value.cells]using e'
 subst ev;subst eu;have hp:=Go.TX.F.aoI xs ys ⟨hb,hc⟩ hd;have hq:=Go.TX.F.aoJ xs ys ⟨hb,hc⟩ hd;refine(Go.TX.ahq Go.TX.F.aeS.ok hr hs (acw hL) hp).mono λe W' ⟨he,hw⟩=> ?_
 have he:e= .returned (.bool true):=he.trans (congrArg (λz:Bool×Unit=>Ending.returned (.bool z.1)) hq);refine⟨_,he,[d0,d1],[g0],(p0++p1)++q,[],p0++p1,q,hW',trodAll_mk1 (shut_bool Tryz.underlying4 true),?_,hw.trodVars aa2 (by kernel_rfl) hV,hw.frame _,λh=>by cases h⟩;exact trodAll_mk2 (Below.trod aa2 (by kernel_rfl) (of_decide_eq_true (by kernel_rfl)) h0 hw hl0) (Below.trod aa2 (by kernel_rfl) (of_decide_eq_true (by kernel_rfl)) h1 hw hl1)
def y1:Tryz.pinned.checked.prog.funcNamed Rows.fnExactCacOkRow.func=some 3:=by kernel_rfl
def aS{a b:Bool}(h:a=true)(k:b=true):(a&&b)=true:=by rw [h,k];rfl
set_option maxHeartbeats 4000000 in
def y2:joinedFacts Tryz.pinned.checked.prog 3 Tryz.f3 Rows.fnExactCacOkSpec Rows.fnExactCacOkRow=true:=by
 unfold joinedFacts
 repeat' with_reducible apply aS
 all_goals (as_aux_lemma=>kernel_rfl)
def y3:Func.isWrapper Tryz.prog Tryz.f3 Rows.fnExactCacOkRow.wrapper Rows.fnExactCacOkRow.mainSum:=(by unfold Func.isWrapper;first | (rw [if_pos (by decide+kernel)];kernel_rfl) | (rw [if_neg (by decide+kernel)];exact⟨rfl,rfl⟩))
def SX:Rows.FnExactCacOkSaid:=
 OpenClaim.holds_of_wide 3 Tryz.f3 rfl rfl rfl rfl rfl rfl rfl ⟨rfl,rfl,rfl,rfl,rfl⟩ rfl rfl rfl rfl rfl y1 Tryz.func3 y2
  (of_decide_eq_true (by kernel_rfl)) y3
  (λos started H enc _=>lifted os started H enc)
theorem x_holds:Rows.FnExactCacOkCardSaid:=
 Claim7.holds_tied_plain_at .later [] [.widerDeep] true (true, "c97ebe739ebc1a611810616ca2523e830bc5cf34d39e551d776101f795ecf87e") false SX (λ_ h=>by cases h) (by kernel_rfl) (λ_ h=>by cases h) fnExactCacOk_row_tie rfl ⟨rfl,rfl⟩ (by kernel_rfl) rfl
  (λf fn hf hfn=>by
   obtain rfl:f=3:=Option.some.inj ((show Tryz.prog.funcNamed Rows.fnExactCacOkRow.func=some 3 by kernel_rfl).symm.trans hf) |>.symm;obtain rfl:fn=Tryz.f3:=(Option.some.inj (Tryz.func3.symm.trans hfn)).symm;refine⟨by kernel_rfl,λj t ht=> ?_⟩;rw [Tryz.params3]at ht;rcases j with _ | _ | j
   .obtain rfl:22=t:=by simpa using ht
    exact(show Tryz.prog.wantsStandIn 22=false by kernel_rfl)
   .obtain rfl:23=t:=by simpa using ht
    exact(show Tryz.prog.wantsStandIn 23=false by kernel_rfl)
   .simp at ht)
  (by kernel_rfl)
end Go.Proofs.YthhkbfpkkbhibaaGreatDoor
