/- Part 4 of a proof: what the last part needs. No condition. -/
import Derived.Test.YtkilhdbfkcffcaaGreatDoorZc
import Derived.Lib.Bytes
set_option maxHeartbeats 1000000
set_option linter.all false
set_option linter.unusedSectionVars false
set_option linter.unusedVariables false
set_option linter.unusedSimpArgs false
namespace Go.TX.F
open Go Go.AE Go.TX List
variable{t:List Atom}{x:List au}
def ac1{l o:List au}(h:aW o)(a:∀k,cf o k=cf l k%65536):su l=(true,o):=by
 unfold su;rw [Tt h.nf a,aJ h,eB rfl]
def aaV(m:au)(a b:List au):prods (m::a) b=b.map (mulM m)++prods a b:=by simp [prods]
def J9{a:Atom}(h:aI t)(d:0<=(aU t a).2):aI (aU t a).1/\t.length<=(aU t a).1.length/\aU (aU t a).1 a=aU t a:=by
 have b:=iN t a;by_cases c:0<=pE t a
 .have e:aU t a=(t,pE t a):=by unfold aU;rw [eB c]
  rw [e];exact⟨h,Nat.le_refl _,e⟩
 .by_cases c2:¬jk a t.length\/t.length=200
  .have e:aU t a=(t, -1):=by unfold aU;rw [dY c,eB c2]
   rw [e]at d;exact absurd d ah
  .have e:aU t a=(t++ [a],(t.length:Int)):=by unfold aU;rw [dY c,dY c2]
   have o:t.length<200:=by have:=h.2;omega
   have ok:=Dt (a:=a) h o;refine⟨ok.1,ok.2.1,?_⟩;rw [e];have n:∀i:Int,0<=i->i<t.length->(t++ [a]).getD i.toNat default=t.getD i.toNat default:=λi q p=>by
    rw [getD_lt (show i.toNat< (t++ [a]).length by rw [eG];omega),getD_lt (show i.toNat<t.length by omega),getElem_append_left]
   have m:(t++ [a]).getD ((t.length:Int)).toNat default=a:=by
    rw [getD_lt (show((t.length:Int)).toNat< (t++ [a]).length by rw [eG];simp)];simp
   have f:pE (t++ [a]) a=t.length:=by
    refine(iN (t++ [a]) a).uniq (Or.inr ⟨ah,by rw [eG];simp only [fA,fE];omega,by dsimp only;rw [m],λj k l=> ?_⟩);dsimp only;rw [n j k l];rcases b with⟨_,g⟩ | ⟨g,_⟩
    .exact g j k l
    .exact absurd g c
   show aU (t++ [a]) a=_;unfold aU;rw [f,eB ah]
def aeD{b:Int}{x y:List au}(h:aI t)(f:(tDo t b x y).1≠ []):aI (tDo t b x y).1/\t.length<=(tDo t b x y).1.length/\tDo (tDo t b x y).1 b x y=tDo t b x y:=by
 by_cases c:(ig b x y).2=true
 .have e:∀t,tDo t b x y=(t,(ig b x y).1):=λt=>by unfold tDo;rw [eB c]
  rw [e t];exact⟨h,Nat.le_refl _,e t⟩
 .by_cases c2:b≠2/\0<ji x y
  .have e:∀t,tDo t b x y=if(aU t ⟨4,b,y,x⟩).2<0 then([],[])else((aU t ⟨4,b,y,x⟩).1,fJ (aU t ⟨4,b,y,x⟩).2):=λt=>by unfold tDo;rw [dY c,eB c2]
   rw [e t]at f ⊢;by_cases d:(aU t ⟨4,b,y,x⟩).2<0
   .rw [eB d]at f;exact absurd rfl f
   .rw [dY d];obtain⟨i,g,j⟩:=J9 (a:=⟨4,b,y,x⟩) h ah;refine⟨i,g,?_⟩;rw [e,j,dY d]
  .have e:∀t,tDo t b x y=if(aU t ⟨4,b,x,y⟩).2<0 then([],[])else((aU t ⟨4,b,x,y⟩).1,fJ (aU t ⟨4,b,x,y⟩).2):=λt=>by unfold tDo;rw [dY c,dY c2]
   rw [e t]at f ⊢;by_cases d:(aU t ⟨4,b,x,y⟩).2<0
   .rw [eB d]at f;exact absurd rfl f
   .rw [dY d];obtain⟨i,g,j⟩:=J9 (a:=⟨4,b,x,y⟩) h ah;refine⟨i,g,?_⟩;rw [e,j,dY d]
def Ka(h:aW x):aW (jP x 65535)/\∀k,cf (jP x 65535) k=(65535*cf x k)%65536:=by
 have hc:∀(l:List au) k,cf (l.map λm=>(⟨m.bD*65535%65536,m.atoms⟩:au)) k%65536=(65535*cf l k)%65536:=λl k=>by
  induction l with
  | nil=>rfl
  | cons m l b=>rw [map_cons,bE,bE];dsimp only;split<;>omega
 have no:Nf (x.map λm=>(⟨m.bD*65535%65536,m.atoms⟩:au)):=⟨by
  rw [pairwise_map];exact h.nf.ss,λm hm=>by
  rw [mem_map]at hm;obtain⟨n,hn,rfl⟩:=hm;have:=h.nf.co n hn;dsimp only;omega⟩
 have ok:aW (x.map λm=>(⟨m.bD*65535%65536,m.atoms⟩:au)):=jc.2 ⟨no,by rw [length_map];exact h.len,λm hm=>by
  rw [mem_map]at hm;obtain⟨n,hn,rfl⟩:=hm;exact show n.atoms.length<=4/\aok n.atoms from h.aok hn⟩
 have a:prods x (dV 65535)=x.map λm=>(⟨m.bD*65535%65536,m.atoms⟩:au):=by
  unfold dV;rw [eB ah,Fa];exact map_congr_left λm hm=>J5 65535 (h.aok hm).2
 have e:jP x 65535=x.map λm=>(⟨m.bD*65535%65536,m.atoms⟩:au):=by
  unfold jP qB;rw [eB (by rw [aJ h];rfl),eB (by rw [aJ h,aJ (sZ _)];rfl),a,ac1 ok (λk=>by have:=no.bnd k;omega)]
 rw [e];exact⟨ok,λk=>by rw [<-hc];have:=no.bnd k;omega⟩
def sub_self(h:aW x):ig 2 x x=([],true):=by
 obtain⟨b,a⟩:=Ka h;unfold ig qA;rw [dY ah,eB rfl,eB (by rw [aJ h,aJ b];rfl),ac1 eP (λk=>by rw [dA,a,jO];omega)]
def oO(h:(bP x).2=true):aW x/\x=dV (bP x).1/\0<=(bP x).1/\(bP x).1<=65535:=by
 unfold bP at h ⊢;by_cases c:aW x
 .rw [aJ c,eB rfl]at h ⊢;refine⟨c,?_⟩;by_cases b:x.length=0
  .rw [eB b];exact⟨by rw [eq_nil_of_length_eq_zero b];rfl,ah,ah⟩
  .rw [dY b]at h ⊢;by_cases a:x.length=1/\(x.getD 0 default).atoms.length=0
   .rw [eB a]
    match x,c,a with
    | [m],c,a=>
     have hc:=c.nf.co m (by simp);have d:m.atoms=[]:=eq_nil_of_length_eq_zero a.2;refine⟨?_,by show 0<=m.bD;omega,by show m.bD<=65535;omega⟩;show [m]=dV m.bD;unfold dV;rw [eB hc,<-d]
   .rw [dY a]at h;exact absurd h (by simp)
 .rw [aV c]at h;exact absurd h (by simp)
def NW{a:Int}(b:0<=a)(c:a<=65535):fF .and .i64 a a=a:=by
 unfold fF;dsimp only;have e:((2^IntKind.i64.bits:Nat):Int)=18446744073709551616:=by decide
 rw [BitVec.and_self,BitVec.toNat_ofInt,e,w64 ah ah];omega
def aeE(a:Int):fF .xor .i64 a a=0:=by
 unfold fF;dsimp only;rw [BitVec.xor_self];rfl
def NY(a:Int):fF .and .i64 a 0=0:=by
 unfold fF;dsimp only;rw [show BitVec.ofInt IntKind.i64.bits 0=0#IntKind.i64.bits by rfl,BitVec.and_zero];rfl
end Go.TX.F
namespace Go.TX.F
open Go Go.AE Go.TX List
abbrev Y47(b:Unit->Bool)(a:Unit->lX):Prop:=b ()=true/\a ()=(true,())
variable{d:List Int}
def ac2{i j x:Int}(b:0<=i)(a:i<d.length)(c:0<=j):((d.set i.toNat x).getD (j).toNat default)=if j=i then x else((d).getD (j).toNat default):=by
 simp only [getD];by_cases h:j=i
 .subst h;rw [eB rfl,getElem?_set_self ah];rfl
 .rw [dY h,getElem?_set_ne ah]
def aeF{i j:Int}(e:0<=i)(b:i<d.length)(g:0<=j)(c:j<d.length)(f:i≠j):((d.set i.toNat ((d).getD (j).toNat default)).set j.toNat ((d).getD (i).toNat default)).Perm d:=by
 rw [perm_iff_count];intro x;rw [getD_lt (show i.toNat<d.length by omega),getD_lt (show j.toNat<d.length by omega),count_set (by simp;omega),count_set ah,getElem_set_ne ah];have a:(if d[i.toNat]==x then 1 else 0)<=List.count x d:=by
  split
  .rename_i h;exact List.count_pos_iff.2 (by rw [<-eq_of_beq h];exact getElem_mem _)
  .omega
 split<;>split<;>simp_all<;>omega
def asw{p f}(U:Y5 p f)(a b:Int)(d:List Int)(hd:d.length<1000000000)(u:a=0)(x:b=d.length):
  aac.F (p,f,()) (a,b,d,()) (λy=>y.1=oD d):=by
 subst u;dsimp only [aac,gm];simp (disch:=omega) only [RR];have fin:∀e:List Int,e.Perm d->(∀q:Int,1<=q->q<e.length->((e).getD (q-1).toNat default)<=((e).getD (q).toNat default))->e=oD d:=λe m l=>
  Ce ((dG (d:=default) (R:=λa b:Int=>a<=b) (λu x=>Int.le_trans u x)).2 l) m
 refine ay (λ(y:Int×aBS)=>y.1=0/\y.2.1=b/\1<=y.2.2.1/\(y.2.2.1<=b\/y.2.2.1=1)/\y.2.2.2.1.Perm d/\∀q,1<=q->q<y.2.2.1->((y.2.2.2.1).getD (q-1).toNat default)<=((y.2.2.2.1).getD (q).toNat default)) (λy=>(b-y.2.2.1).toNat)
  ⟨rfl,rfl,by simp,Or.inr rfl,Perm.refl d,λq m l=>by dsimp only at l;omega⟩ ?_
 rintro⟨(M:Int),(E:Int),(i:Int),(e:List Int),⟨⟩⟩ hI;dsimp only at hI ⊢;obtain⟨rfl,rfl,L,N,v,z⟩:=hI;have J:=v.length_eq;simp (disch:=omega) only [RR];refine⟨λI=> ?_,λI=>fin e v λq m l=>z q m ah⟩
 refine ay (λ(y:Int×Int×aBS)=>y.1=0/\y.2.1=E/\y.2.2.1=i/\0<=y.2.2.2.1/\y.2.2.2.1<=i/\y.2.2.2.2.1.Perm d
   /\(∀q,1<=q->q<=i->q≠y.2.2.2.1->((y.2.2.2.2.1).getD (q-1).toNat default)<=((y.2.2.2.2.1).getD (q).toNat default))/\(1<=y.2.2.2.1->y.2.2.2.1+1<=i->((y.2.2.2.2.1).getD (y.2.2.2.1-1).toNat default)<=((y.2.2.2.2.1).getD (y.2.2.2.1+1).toNat default))) (λy=>y.2.2.2.1.toNat)
  ⟨rfl,rfl,rfl,by simp;omega,by simp,v,λq m l K=>z q m (by dsimp only at K;omega),λm l=>by dsimp only at l;omega⟩ ?_
 rintro⟨(D:Int),(C:Int),(O:Int),(j:Int),(r:List Int),⟨⟩⟩ hI;dsimp only at hI ⊢;obtain⟨rfl,rfl,rfl,F,G,o,n,t⟩:=hI;have B:=o.length_eq;simp (disch:=omega) only [RR,length_set,U]
 repeat' (refine And.intro ?_ ?_)
 all_goals try omega
 .intro ⟨m,l⟩;have h:∀k,0<=k->(((r.set j.toNat ((r).getD (j-1).toNat default)).set (j-1).toNat ((r).getD (j).toNat default)).getD (k).toNat default)=if k=j-1 then((r).getD (j).toNat default)else if k=j then((r).getD (j-1).toNat default)else((r).getD (k).toNat default):=λk hk=>by
   rw [ac2 ah (by simp;omega) hk,ac2 ah ah hk]
  repeat' (refine And.intro ?_ ?_)
  all_goals try omega
  .exact(aeF ah ah ah ah ah).trans o
  .intro q s w k3;rw [h _ ah,h _ ah];by_cases A:q=j
   .subst A;rw [eB rfl,dY ah,eB rfl];omega
   .rw [dY ah];by_cases H:q=j+1
    .subst H;rw [eB ah,dY ah,dY ah];exact t ah ah
    .rw [dY ah,dY ah,dY ah];exact n q s w A
  .intro s w;rw [h _ ah,h _ ah,dY ah,dY ah,dY ah,eB ah];have:=n (j-1) ah ah ah;exact this
 .intro g;refine⟨⟨ah,ah,o,λq s w=> ?_⟩,ah⟩;by_cases c:q=j
  .subst c;rw [Bool.and_eq_false_iff,decide_eq_false_iff_not,decide_eq_false_iff_not]at g;omega
  .exact n q s ah c
def asx{j:aBS->Bool}{i:aBS->bn}{p:sj->Bool}{f:sj->lX}(l:∀(a b:Int) (d:List Int),d.length<1000000000->a=0->b=d.length->j (a,b,d,())=true/\(i (a,b,d,())).1=oD d)(p2 p3 f2 f3 p4 f4 p5 f5 p6 f6 p7 f7 p8 f8 p9 f9)(a b k:Int)(d:List Int)(hd:d.length<=12)(m:a=0)(c:b=d.length):
  aad.F (p,f,j,i,p2,f2,p3,f3,p4,f4,p5,f5,p6,f6,p7,f7,p8,f8,p9,f9,()) (a,b,k,d,()) (λy=>y.1=oD d):=by
 subst m;dsimp only [aad,gm];simp (disch:=omega) only [RR];refine ay (λ(y:Int×Int×Int×Bool×Bool×bn)=>y.1=0/\y.2.1=b/\y.2.2.2.2.2.1=d) (λy=>0) ⟨rfl,rfl,rfl⟩ ?_;rintro⟨(n:Int),(g:Int),(o:Int),(u:Bool),(v:Bool),(e:List Int),⟨⟩⟩ hI;dsimp only at hI ⊢;obtain⟨rfl,rfl,rfl⟩:=hI;simp (disch:=omega) only [RR];exact⟨λ_=>⟨(l 0 g e ah rfl c).1,(l 0 g e ah rfl c).2⟩,λh=>absurd h ah⟩
def asy{c:Int×aBS->Bool}{f:Int×aBS->bn}{h:eu->Bool}{i:eu->eu}(g:∀(a b k:Int) (d:List Int),d.length<=12->a=0->b=d.length->c (a,b,k,d,())=true/\(f (a,b,k,d,())).1=oD d)(j:∀n,0<=n->n<=18446744073709551615->h (n,())=true)(a:List Int)(l:a.length<=8):
  aae.F (c,f,h,i,()) (a,()) (λy=>y=(oD a,())):=by
 dsimp only [aae,gm];have e:IntKind.u64.wrap (a.length:Int)=(a.length:Int):=IntWalk.u64_in _ ah;refine⟨?_,(g _ _ _ _ ah rfl rfl).1,by rw [(g _ _ _ _ ah rfl rfl).2]⟩;rw [e];exact j _ ah ah
end Go.TX.F
namespace Go.TX.F
open Go Go.AE Go.TX List
variable{l:List Int}
def wOK(l:List Int):Prop:=∀z∈l,0<=z/\z<=65535
def wOK.at(h:wOK l)(n:Nat):0<=l.getD n default/\l.getD n default<=65535:=by
 by_cases hn:n<l.length
 .rw [getD_lt hn];exact h _ (getElem_mem _)
 .rw [getD,getElem?_eq_none ah];decide
def iq(v:List Int)(k:Int):Int:=if k<v.length then((v).getD (k).toNat default)else 0
def Du{v:List Int}(h:wOK v)(k:Int):0<=iq v k/\iq v k<=65535:=by
 unfold iq;split
 .exact h.at _
 .omega
def evM(v:List Int)(c:Int)(l:List Int):Int:=l.foldl (λc k=>c*iq v k%65536) c
def evF(v:List Int)(p:List au):Int:=p.foldl (λs m=>(s+evM v m.bD m.atoms)%65536) 0
def asz{p1 f1}(e:Y9 p1 f1)(a:List Int)(h:a.length<1000000000):
  Zw.F (p1,f1,()) (a,()) (λy=>y=(bp (wOK a),())):=by
 dsimp only [Zw,gm];simp (disch:=omega) only [RR];refine ay (λ(y:aBY)=>y.1=a/\y.2.1=a.length/\0<=y.2.2.1/\y.2.2.1<=a.length/\All y.2.2.1 (λi=>0<=((a).getD (i).toNat default)/\((a).getD (i).toNat default)<=65535)) (λy=>(a.length-y.2.2.1).toNat) ⟨rfl,rfl,by simp,by simp,All.zero⟩ ?_;rintro⟨(l:List Int),(n:Int),(i:Int),⟨⟩⟩ hI;dsimp only at hI ⊢;obtain⟨rfl,rfl,k,j,c⟩:=hI;simp (disch:=omega) only [RR,e];refine⟨λf=>⟨ah,ah,λb=> ?_,λb=>⟨⟨ah,ah,c.snoc ?_⟩,ah⟩⟩,λf=> ?_⟩
 .rw [jJ]at b;rw [aV λg=>b (g.at _)]
 .rw [bF]at b;exact b
 .rw [aJ];exact qC (d:=default) (G:=λz:Int=>0<=z/\z<=65535).1 (c.le ah)
def Qs(v:List Int)(p:List au):0<=evF v p/\evF v p<=65535:=by
 unfold evF;have:∀(p:List au) (s:Int),0<=s/\s<=65535->0<=p.foldl (λs m=>(s+evM v m.bD m.atoms)%65536) s/\p.foldl (λs m=>(s+evM v m.bD m.atoms)%65536) s<=65535:=by
  intro p
  induction p with
  | nil=>exact λs h=>h
  | cons m p a=>exact λs h=>a _ (by dsimp only;omega)
 exact this p 0 ah
def aVal(regs b ins out:List Int)(a:Atom):Int:=
 if a.kind=1 then iq regs a.k else if a.kind=2 then iq b a.k else if a.kind=3 then iq ins a.k else wdo a.k (evF out a.x) (evF out a.y)
def tv(regs b ins:List Int)(t:List Atom):List Int:=t.foldl (λo a=>o++ [aVal regs b ins o a]) []
def ai9{regs b ins:List Int}(d:wOK regs)(c:wOK b)(e:wOK ins)(out:List Int)(a:Atom):0<=aVal regs b ins out a/\aVal regs b ins out a<=65535:=by
 unfold aVal
 repeat' split
 .exact Du d _
 .exact Du c _
 .exact Du e _
 .exact Dr _ _ _
def wOK.snoc(h:wOK l){x:Int}(b:0<=x/\x<=65535):wOK (l++ [x]):=λz a=>by
 rw [mem_append,mem_singleton]at a;rcases a with a | rfl
 .exact h z a
 .exact b
def Qt(regs b ins:List Int)(t:List Atom)(a:Atom):tv regs b ins (t++ [a])=tv regs b ins t++ [aVal regs b ins (tv regs b ins t) a]:=by
 unfold tv;rw [foldl_append];rfl
def aja(regs b ins:List Int)(t:List Atom):(tv regs b ins t).length=t.length:=by
 suffices h:∀(t:List Atom) (o:List Int),(t.foldl (λo a=>o++ [aVal regs b ins o a]) o).length=o.length+t.length by
  have:=h t [];rw [fE,Nat.zero_add]at this;exact this
 intro t
 induction t with
 | nil=>exact λo=>rfl
 | cons a t c=>exact λo=>by rw [foldl_cons,c,eG,fA,fA,fE];omega
def ao3{regs b ins:List Int}(e:wOK regs)(d:wOK b)(f:wOK ins)(t:List Atom):wOK (tv regs b ins t):=by
 suffices h:∀(t:List Atom) (o:List Int),wOK o->wOK (t.foldl (λo a=>o++ [aVal regs b ins o a]) o)from h t [] (λz g=>by cases g)
 intro t
 induction t with
 | nil=>exact λo h=>h
 | cons a t c=>exact λo h=>c _ (h.snoc (ai9 e d f _ _))
def asA{p1 f1}(e:Y40 p1 f1)(n:Int)(b:List Int)(p:Int)(d:Bt b)(hn:0<=n/\n<=100)(r:0<=p)(m:p<800000000):Zl.F (p1,f1,()) (n,b,p,()) (λ(y:wz)=>y.1=b/\p<=y.2.1/\y.2.1<=p+300/\y.2.2.1.length=n/\wOK y.2.2.1):=by
 dsimp only [Zl,gm];simp (disch:=omega) only [RR];refine ay (λ(y:Int×Int×wz)=>y.1=n/\0<=y.2.1/\y.2.1<=n/\y.2.2.1=b/\p<=y.2.2.2.1/\y.2.2.2.1<=p+3*y.2.1/\y.2.2.2.2.1.length=y.2.1/\wOK y.2.2.2.2.1) (λy=>(n-y.2.1).toNat) ⟨rfl,by simp,by simp;omega,rfl,by simp,by simp,rfl,λz f=>(by cases f)⟩ ?_;rintro⟨(l:Int),(k:Int),(c:List Int),(q:Int),(o:List Int),⟨⟩⟩ hI;dsimp only at hI ⊢;obtain⟨rfl,j,u,rfl,k3,w,s,a⟩:=hI;obtain⟨i,v,t,g⟩:=(e c q d ah ah).2;simp (disch:=omega) only [RR,(e c q d ah ah).1,eG,fA,fE];exact⟨λh=>⟨ah,⟨ah,ah,i,ah,ah,ah,a.snoc g⟩,ah⟩,λh=>⟨ah,ah,ah,a⟩⟩
end Go.TX.F
namespace Go.TX.F
open Go Go.AE Go.TX List
variable{a:Int}{k:Int}{t:List Atom}
def prA(v:List Int)(l:List Int):Int:=l.foldr (λk c=>iq v k*c) 1
def evS(v:List Int)(p:List au):Int:=(p.map λm=>m.bD*prA v m.atoms).sum
theorem kg(v:List Int)(k:Int)(l:List Int):prA v (k::l)=iq v k*prA v l:=rfl
def Kc(v:List Int):∀a b:List Int,prA v (a++b)=prA v a*prA v b
 | [],b=>by show prA v b=1*_;rw [Int.one_mul]
 | k::a,b=>by rw [cons_append,kg,kg,Kc v a b,Int.mul_assoc]
def ajb(v:List Int){a b:List Int}(h:a.Perm b):prA v a=prA v b:=by
 induction h with
 | nil=>rfl
 | cons x _ c=>rw [kg,kg,c]
 | swap x y l=>rw [kg,kg,kg,kg,Int.mul_left_comm]
 | trans _ _ e d=>exact e.trans d
def lG(v:List Int)(m:au)(p:List au):evS v (m::p)=m.bD*prA v m.atoms+evS v p:=by simp [evS]
def Cg(v:List Int)(a b:List au):evS v (a++b)=evS v a+evS v b:=by simp [evS]
theorem ac3(v:List Int):evS v []=0:=rfl
def ajc(v:List Int):∀(l:List Int) (c:Int),evM v c l%65536=c*prA v l%65536
 | [],c=>by show c%65536=c*1%65536;rw [Int.mul_one]
 | k::l,c=>by
  show evM v (c*iq v k%65536) l%65536=_;rw [ajc v l,kg,<-Int.mul_assoc,Int.mul_emod,Int.emod_emod_of_dvd _ (Int.dvd_refl _),<-Int.mul_emod]
def vZ(v:List Int)(p:List au):evF v p=evS v p%65536:=by
 have:∀(p:List au) (s:Int),p.foldl (λs m=>(s+evM v m.bD m.atoms)%65536) s%65536=(s+evS v p)%65536:=by
  intro p
  induction p with
  | nil=>intro s;show s%65536=(s+0)%65536;rw [Int.add_zero]
  | cons m p a=>
   intro s;rw [foldl_cons,a,lG];have h:=ajc v m.atoms m.bD;omega
 have h:=this p 0;have r:=Qs v p;unfold evF at r ⊢;rw [Int.zero_add]at h;omega
def NZ(v:List Int)(k:List Int):∀l:List au,evS v l=cf l k*prA v k+evS v (l.filter λm=>decide (m.atoms≠k))
 | []=>by rw [jO,Int.zero_mul];rfl
 | m::l=>by
  have a:=NZ v k l;rw [lG,bE];by_cases h:m.atoms=k
  .rw [eB h,filter_cons_of_neg (by simp [h]),a,Int.add_mul,h];omega
  .rw [dY h,filter_cons_of_pos (by simp [h]),lG,a,Int.zero_add];omega
def N7(k j:List Int):∀l:List au,cf (l.filter λm=>decide (m.atoms≠k)) j=if j=k then 0 else cf l j
 | []=>by rw [filter_nil,jO];split<;>rfl
 | m::l=>by
  have b:=N7 k j l;by_cases h:m.atoms=k
  .rw [filter_cons_of_neg (by simp [h]),b,bE];by_cases a:j=k
   .rw [eB a,eB a]
   .rw [dY a,dY a,dY (by rw [h];exact λe=>a e.symm)];omega
  .rw [filter_cons_of_pos (by simp [h]),bE,b,bE];by_cases a:j=k
   .rw [eB a,eB a,dY (by rw [a];exact h)];rfl
   .rw [dY a,dY a]
def Tx(v:List Int):∀(n:Nat) (l:List au),l.length<=n->(∀k,cf l k%65536=0)->evS v l%65536=0
 | 0,[],_,_=>rfl
 | n+1,[],_,_=>rfl
 | n+1,m::l,hl,h=>by
  have b:=NZ v m.atoms (m::l);have a:((m::l).filter λx=>decide (x.atoms≠m.atoms)).length<=n:=by
   rw [filter_cons_of_neg (by simp)];have:=length_filter_le (λx:au=>decide (x.atoms≠m.atoms)) l;simp only [fA]at hl;omega
  have c:=Tx v n _ a (λk=>by
   rw [N7];split
   .rfl
   .exact h k)
  have e:=h m.atoms;have d:cf (m::l) m.atoms*prA v m.atoms%65536=0:=by rw [Int.mul_emod,e,Int.zero_mul];rfl
  rw [b];omega
def negL(l:List au):List au:=l.map λm=>⟨-m.bD,m.atoms⟩
def aaW(k:List Int):∀l:List au,cf (negL l) k= -cf l k
 | []=>rfl
 | m::l=>by
  have a:=aaW k l;show cf (⟨-m.bD,m.atoms⟩::negL l) k=_;rw [bE,bE,a];dsimp only;split<;>omega
def Qu(v:List Int):∀l:List au,evS v (negL l)= -evS v l
 | []=>rfl
 | m::l=>by
  have a:=Qu v l;show evS v (⟨-m.bD,m.atoms⟩::negL l)=_;rw [lG,lG,a];dsimp only;rw [Int.neg_mul];omega
def N8(v:List Int){a b:List au}(h:∀k,cf a k%65536=cf b k%65536):evS v a%65536=evS v b%65536:=by
 have c:=Tx v _ (a++negL b) (Nat.le_refl _) (λk=>by rw [dA,aaW];have:=h k;omega);rw [Cg,Qu]at c;omega
def ins(c:Int)(a:List Int):List au->List au
 | []=>if c%65536=0 then []else [⟨c%65536,a⟩]
 | m::o=>if dZ a m.atoms<0 then(if c%65536=0 then m::o else⟨c%65536,a⟩::m::o)
  else if a=m.atoms then(if(c+m.bD)%65536=0 then o else⟨(c+m.bD)%65536,a⟩::o)else m::ins c a o
def ajd{c:Int}{a:List Int}{x:au}(b:dZ x.atoms a<0):∀ {o:List au},(∀y∈o,lt x y)->∀y∈ins c a o,lt x y
 | [],_,y,hy=>by
  unfold ins at hy;split at hy
  .cases hy
  .rw [mem_singleton]at hy;subst hy;exact b
 | m::o,h,y,hy=>by
  unfold ins at hy;split at hy
  .split at hy
   .exact h y hy
   .rcases mem_cons.1 hy with rfl | hy
    .exact b
    .exact h y hy
  .split at hy
   .split at hy
    .exact h y (mem_cons_of_mem _ hy)
    .rcases mem_cons.1 hy with rfl | hy
     .exact b
     .exact h y (mem_cons_of_mem _ hy)
   .rcases mem_cons.1 hy with rfl | hy
    .exact h _ (mem_cons_self ..)
    .exact ajd b (λz d=>h z (mem_cons_of_mem _ d)) y hy
def aje(c:Int)(a:List Int):∀ {o:List au},Nf o->Nf (ins c a o)/\∀k,cf (ins c a o) k=((if a=k then c else 0)+cf o k)%65536
 | [],h=>by
  unfold ins;by_cases j:c%65536=0
  .rw [eB j];exact⟨h,λk=>by rw [jO];split<;>omega⟩
  .rw [dY j];refine⟨⟨pairwise_singleton _ _,λm hm=>by rw [mem_singleton]at hm;subst hm;dsimp only;omega⟩,λk=> ?_⟩;rw [bE,jO];dsimp only;split<;>omega
 | m::o,h=>by
  have q:=h.bnd;have n:Nf o:=⟨h.ss.tail,λx d=>h.co x (mem_cons_of_mem _ d)⟩;have hm:=h.co m (mem_cons_self ..);unfold ins;by_cases j:dZ a m.atoms<0
  .rw [eB j];by_cases i:c%65536=0
   .rw [eB i];exact⟨h,λk=>by have:=q k;split<;>omega⟩
   .rw [dY i];have g:Nf (⟨c%65536,a⟩::m::o):=⟨List.pairwise_cons.2 ⟨λy l=>by
     rcases mem_cons.1 l with rfl | l
     .exact j
     .exact eO (b:=m) j (rel_of_pairwise_cons h.ss l),h.ss⟩,λx d=>by
     rcases mem_cons.1 d with rfl | d
     .dsimp only;omega
     .exact h.co x d⟩
    refine⟨g,λk=> ?_⟩;have hk:=q k;have r:=g.bnd k;rw [bE]at r ⊢;dsimp only at r ⊢;split<;>split at r<;>omega
  .rw [dY j];by_cases i:a=m.atoms
   .rw [eB i];by_cases s:(c+m.bD)%65536=0
    .rw [eB s];refine⟨n,λk=> ?_⟩;have ok:=n.bnd k;have hk:=q k;rw [bE]at hk ⊢;rw [i];by_cases f:m.atoms=k
     .rw [eB f,eB f];have:cf o k=0:=iF λx d e=>(rel_of_pairwise_cons h.ss d:lt m x).ne (f.trans e.symm)
      omega
     .rw [dY f,dY f];omega
    .rw [dY s];have g:Nf (⟨(c+m.bD)%65536,a⟩::o):=⟨List.pairwise_cons.2 ⟨λy l=>by
      have:lt m y:=rel_of_pairwise_cons h.ss l;unfold lt at this ⊢;rw [i];exact this,n.ss⟩,λx d=>by
      rcases mem_cons.1 d with rfl | d
      .dsimp only;omega
      .exact n.co x d⟩
     refine⟨g,λk=> ?_⟩;have ok:=n.bnd k;rw [bE,bE];dsimp only;rw [i];by_cases f:m.atoms=k
     .rw [eB f,eB f,eB f];have:cf o k=0:=iF λx d e=>(rel_of_pairwise_cons h.ss d:lt m x).ne (f.trans e.symm)
      omega
     .rw [dY f,dY f,dY f];omega
   .rw [dY i];obtain⟨t,u⟩:=aje c a n;have p:dZ m.atoms a<0:=by
     have:=qL m.atoms a;by_cases z:dZ m.atoms a=0
     .exact absurd (kM.1 z).symm i
     .omega
    refine⟨⟨List.pairwise_cons.2 ⟨ajd p (λy l=>rel_of_pairwise_cons h.ss l),t.ss⟩,λx d=>by
     rcases mem_cons.1 d with rfl | d
     .exact hm
     .exact t.co x d⟩,λk=> ?_⟩
    rw [bE,bE,u k];by_cases f:m.atoms=k
    .have:cf o k=0:=iF λx d e=>(rel_of_pairwise_cons h.ss d:lt m x).ne (f.trans e.symm)
     rw [eB f,dY (by rw [<-f];exact i),this];omega
    .rw [dY f];omega
def ao4:∀l:List au,∃o,Nf o/\∀k,cf o k=cf l k%65536
 | []=>⟨[],⟨Pairwise.nil,λm hm=>by cases hm⟩,λk=>rfl⟩
 | m::l=>by
  obtain⟨o,d,c⟩:=ao4 l;obtain⟨b,a⟩:=aje m.bD m.atoms d;refine⟨_,b,λk=> ?_⟩;rw [a,bE,c];split<;>omega
def anF(l:List au):Nf (nf l)/\∀k,cf (nf l) k=cf l k%65536:=by
 obtain⟨o,b,a⟩:=ao4 l;rw [Tt b a];exact⟨b,a⟩
def ajf(v:List Int){l:List au}(h:(su l).1=true):evF v (su l).2=evS v l%65536:=by
 unfold su at h ⊢;dsimp only at h ⊢;rw [h,eB rfl,vZ];exact N8 v λk=>by rw [(anF l).2];omega
def ajg(v:List Int){a b:List au}(h:(qA a b).1=true):evF v (qA a b).2=(evF v a+evF v b)%65536:=by
 unfold qA at h ⊢;split at h
 .rename_i c;rw [eB c,ajf v h,Cg,vZ,vZ];omega
 .cases h
def Tz(v:List Int)(m:au):∀b:List au,evS v (b.map (mulM m))%65536=m.bD*prA v m.atoms*evS v b%65536
 | []=>by rw [map_nil,ac3,Int.mul_zero]
 | n::b=>by
  have a:=Tz v m b;rw [map_cons,lG,lG,Int.mul_add];have e:(mulM m n).bD*prA v (mulM m n).atoms%65536=m.bD*prA v m.atoms*(n.bD*prA v n.atoms)%65536:=by
   have p:prA v (mulM m n).atoms=prA v m.atoms*prA v n.atoms:=by rw [<-Kc];exact ajb v (mergeSort_perm _ _)
   rw [p];show m.bD*n.bD%65536*_%65536=_;rw [Int.mul_emod,Int.emod_emod_of_dvd _ (Int.dvd_refl _),<-Int.mul_emod]
   congr 1
   rw [Int.mul_assoc,Int.mul_assoc,Int.mul_left_comm n.bD]
  omega
def N9(v:List Int)(b:List au):∀a:List au,evS v (prods a b)%65536=evS v a*evS v b%65536
 | []=>by show evS v []%65536=_;rw [ac3,Int.zero_mul]
 | m::a=>by
  have c:=N9 v b a;have h:=Tz v m b;rw [aaV,Cg,lG,Int.add_mul];omega
def asB(v:List Int){a b:List au}(h:(qB a b).1=true):evF v (qB a b).2=(evF v a*evF v b)%65536:=by
 unfold qB at h ⊢;split at h
 .rename_i c;rw [eB c,ajf v h,N9,vZ,vZ,<-Int.mul_emod]
 .cases h
def asC(v:List Int){x:List au}(h:aW x):evF v (jP x 65535)=(-evF v x)%65536:=by
 rw [vZ,vZ];have:=N8 v (a:=jP x 65535) (b:=negL x) λk=>by rw [(Ka h).2,aaW];omega
 rw [this,Qu];omega
def Dv(v:List Int){n:Int}(h:0<=n/\n<=65535):evF v (dV n)=n:=by
 unfold dV;split
 .show(0+n)%65536=n;omega
 .show(0:Int)=n;omega
def ac4(v:List Int)(h:0<=k/\k<=199)(a:wOK v):evF v (fJ k)=iq v k:=by
 have r:=Du a k;unfold fJ;rw [eB h];show(0+1*iq v k%65536)%65536=_;omega
def Oa(b:0<=a)(c:a<=65535):fF .xor .i64 a 0=a:=by
 have:=NW b c;unfold fF at this ⊢;dsimp only at this ⊢;rw [BitVec.and_self]at this;rw [show BitVec.ofInt IntKind.i64.bits 0=0#IntKind.i64.bits by rfl,BitVec.xor_zero];exact this
def TA(b:1<=a/\a<=5){x y:List au}(d:aW x)(c:aW y):aW (ig a x y).1:=by
 unfold ig;split
 .exact acZ _ _
 .split
  .exact acZ _ _
  .split
   .exact anE _ _
   .unfold Gw
    repeat' split
    all_goals first | exact sZ _ | exact eP | assumption
theorem anG(v:List Int){x y:List au}(w:1<=a/\a<=5)(D:aW x)(B:aW y)(h:(ig a x y).2=true):evF v (ig a x y).1=wdo a (evF v x) (evF v y):=by
 have l:=Qs v x;have q:=Qs v y;have W:wdo a (evF v x) (evF v y)=if a=1 then(evF v x+evF v y)%65536 else if a=2 then(evF v x-evF v y)%65536 else if a=3 then(evF v x*evF v y)%65536 else if a=4 then fF .and .i64 (evF v x) (evF v y)else if a=5 then fF .xor .i64 (evF v x) (evF v y)else 0:=by
  unfold wdo;rw [eB ⟨l,q⟩]
 unfold ig at h ⊢;by_cases f:a=1
 .rw [eB f]at h ⊢;rw [W,eB f];exact ajg v h
 rw [dY f]at h ⊢;by_cases i:a=2
 .rw [eB i]at h ⊢;rw [W,dY f,eB i];dsimp only at h ⊢;rw [ajg v h,asC v B];omega
 rw [dY i]at h ⊢;by_cases j:a=3
 .rw [eB j]at h ⊢;rw [W,dY f,dY i,eB j];exact asB v h
 rw [dY j]at h ⊢;unfold Gw at h ⊢;have N:∀ {z:List au},(bP z).2=true->evF v z=(bP z).1:=λ{z} g=>by
  obtain⟨_,A,C⟩:=oO g;have:=Dv v C;rw [<-A]at this;exact this
 have k:a=4->wdo a (evF v x) (evF v y)=fF .and .i64 (evF v x) (evF v y):=λe=>by rw [W,dY f,dY i,dY j,eB e]
 have r:a≠4->wdo a (evF v x) (evF v y)=fF .xor .i64 (evF v x) (evF v y):=λe=>by rw [W,dY f,dY i,dY j,dY e,eB ah]
 have t:evF v []=0:=rfl;split
 .rename_i g;rw [Bool.and_eq_true]at g;rw [N g.1,N g.2];exact Dv v (Dr _ _ _)
 .rename_i g0;rw [dY g0]at h;by_cases m:ji x y=0
  .have exy:=iZ.1 m;by_cases n:a=4
   .rw [eB ⟨m,n⟩,k n,<-exy,NW l.1 l.2]
   .rw [dY (λg=>n g.2),eB m,r n,<-exy,aeE];exact t
  .rw [dY (λg=>m g.1),dY m]at h ⊢;by_cases p:(bP x).2=true
   .rw [eB p]at h ⊢;have o:=N p;by_cases c:a=4/\(bP x).1=0
    .rw [eB c,k c.1,o,c.2,E8,NY];exact t
    .rw [dY c]at h ⊢;by_cases b:(a=4/\(bP x).1=65535)\/(a=5/\(bP x).1=0)
     .rw [eB b];rcases b with⟨b,d⟩ | ⟨b,d⟩
      .rw [k b,o,d,E8,JY];dsimp only;omega
      .rw [r ah,o,d,NI,Oa q.1 q.2]
     .rw [dY b]at h;cases h
   .rw [dY p]at h ⊢;by_cases u:(bP y).2=true
    .rw [eB u]at h ⊢;have s:=N u;by_cases c:a=4/\(bP y).1=0
     .rw [eB c,k c.1,s,c.2,NY];exact t
     .rw [dY c]at h ⊢;by_cases b:(a=4/\(bP y).1=65535)\/(a=5/\(bP y).1=0)
      .rw [eB b];rcases b with⟨b,d⟩ | ⟨b,d⟩
       .rw [k b,s,d,JY];dsimp only;omega
       .rw [r ah,s,d,Oa l.1 l.2]
      .rw [dY b]at h;cases h
    .rw [dY u]at h;cases h
def Ob{v w:List Int}{p:List au}{n:Nat}(f:aW p)(i:bB p n)(h:∀k:Int,0<=k->k<n->iq v k=iq w k):evF v p=evF w p:=by
 have e:∀l:List au,(∀m∈l,∀k∈m.atoms,0<=k/\k<n)->evS v l=evS w l:=by
  intro l
  induction l with
  | nil=>exact λ_=>rfl
  | cons m l j=>
   intro g;rw [lG,lG,j λx d=>g x (mem_cons_of_mem _ d)];have:∀a:List Int,(∀k∈a,0<=k/\k<n)->prA v a=prA w a:=by
    intro a
    induction a with
    | nil=>exact λ_=>rfl
    | cons k a c=>intro b;rw [kg,kg,c λx d=>b x (mem_cons_of_mem _ d),h k (b k (mem_cons_self ..)).1 (b k (mem_cons_self ..)).2]
   rw [this m.atoms (g m (mem_cons_self ..))]
 rw [vZ,vZ,e p λm hm k hk=>⟨((f.aok hm).2.2 k hk).1,dw.1 i m hm k hk⟩]
def Fb(regs d ins:List Int):∀(b a:List Atom),∃c,tv regs d ins (a++b)=tv regs d ins a++c
 | [],a=>⟨[],by rw [append_nil,append_nil]⟩
 | x::b,a=>by
  obtain⟨c,hc⟩:=Fb regs d ins b (a++ [x]);rw [append_assoc,singleton_append]at hc;rw [hc,Qt];exact⟨_,append_assoc _ _ _⟩
def za{v c:List Int}(a:0<=k)(h:k<v.length):iq (v++c) k=iq v k:=by
 unfold iq;rw [eB (by rw [eG];omega),eB h,getD_lt (show k.toNat< (v++c).length by rw [eG];omega),getD_lt (show k.toNat<v.length by omega),getElem_append_left]
def ayn{regs b ins:List Int}(h:aI t)(o:0<=k)(s:k<t.length)(hk:(t.getD k.toNat default).kind=4):
  iq (tv regs b ins t) k=wdo (t.getD k.toNat default).k (evF (tv regs b ins t) (t.getD k.toNat default).x) (evF (tv regs b ins t) (t.getD k.toNat default).y):=by
 have hd:=(h.1 k o s).1;unfold jk at hd;rw [eB hk]at hd;obtain⟨_,m,p,r,q⟩:=hd;have f:t=t.take k.toNat++((t).getD (k).toNat default)::t.drop (k.toNat+1):=by
  rw [getD_lt (show k.toNat<t.length by omega),<-drop_eq_getElem_cons,take_append_drop]
 generalize ((t).getD (k).toNat default)=a at hk m p r q f ⊢;have i:((t.take k.toNat).length:Int)=k:=by rw [length_take];omega
 generalize t.take k.toNat=d at f i;generalize t.drop (k.toNat+1)=l at f;have g:t=(d++ [a])++l:=by rw [f,append_assoc,singleton_append]
 obtain⟨c,hc⟩:=Fb regs b ins l (d++ [a]);rw [<-g,Qt]at hc;have lv:=aja regs b ins d;rw [hc];have e:∀j:Int,0<=j->j<d.length->iq (tv regs b ins d++ [aVal regs b ins (tv regs b ins d) a]++c) j=iq (tv regs b ins d) j:=λj u v=>by
  rw [append_assoc,za u ah]
 rw [Ob m (n:=d.length) (by rw [i];exact r) e,Ob p (n:=d.length) (by rw [i];exact q) e];rw [za o (by rw [eG,lv];simp only [fA,fE];omega)];unfold iq;rw [eB (by rw [eG,lv];simp only [fA,fE];omega),getD_lt (by rw [eG,lv];simp only [fA,fE];omega),getElem_append_right ah];simp only [lv,show k.toNat-d.length=0 by omega,getElem_cons_zero];unfold aVal;rw [dY ah,dY ah,dY ah]
def ayo{regs b ins:List Int}(v:wOK regs)(A:wOK b)(u:wOK ins){x y:List au}(q:aI t)(j:1<=a/\a<=5)(n:aW x)(l:aW y)(E:bB x t.length)(D:bB y t.length)
  (i:(tDo t a x y).1≠ []):aI (tDo t a x y).1/\(∃c,(tDo t a x y).1=t++c/\c.length<=1)/\aW (tDo t a x y).2/\
   evF (tv regs b ins (tDo t a x y).1) (tDo t a x y).2=wdo a (evF (tv regs b ins (tDo t a x y).1) x) (evF (tv regs b ins (tDo t a x y).1) y):=by
 have ok:=(aeD q i).1;by_cases c:(ig a x y).2=true
 .have e:tDo t a x y=(t,(ig a x y).1):=by unfold tDo;rw [eB c]
  rw [e];exact⟨q,⟨[],by rw [append_nil],by simp⟩,TA j n l,anG _ j n l c⟩
 have P:∀(h f:List au),aW h->aW f->tDo t a x y=(if(aU t ⟨4,a,h,f⟩).2<0 then([],[])else((aU t ⟨4,a,h,f⟩).1,fJ (aU t ⟨4,a,h,f⟩).2))->
   (∃c,(tDo t a x y).1=t++c/\c.length<=1)/\aW (tDo t a x y).2/\evF (tv regs b ins (tDo t a x y).1) (tDo t a x y).2=wdo a (evF (tv regs b ins (tDo t a x y).1) h) (evF (tv regs b ins (tDo t a x y).1) f):=by
  intro h f s z e;rw [e]at i ok ⊢;by_cases m:(aU t ⟨4,a,h,f⟩).2<0
  .rw [eB m]at i;exact absurd rfl i
  rw [dY m]at i ok ⊢;dsimp only at i ok ⊢;have K:∃k:Int,0<=k/\k< (aU t ⟨4,a,h,f⟩).1.length/\(aU t ⟨4,a,h,f⟩).2=k/\((aU t ⟨4,a,h,f⟩).1).getD k.toNat default=⟨4,a,h,f⟩/\∃c,(aU t ⟨4,a,h,f⟩).1=t++c/\c.length<=1:=by
   by_cases d:0<=pE t ⟨4,a,h,f⟩
   .have e2:aU t ⟨4,a,h,f⟩=(t,pE t ⟨4,a,h,f⟩):=by unfold aU;rw [eB d]
    rw [e2];rcases iN t ⟨4,a,h,f⟩with⟨g,_⟩ | ⟨g1,g2,g3,_⟩
    .exact absurd d ah
    .exact⟨_,g1,g2,rfl,g3.symm,[],by rw [append_nil],by simp⟩
   .by_cases d2:¬jk ⟨4,a,h,f⟩ t.length\/t.length=200
    .have e2:aU t ⟨4,a,h,f⟩=(t, -1):=by unfold aU;rw [dY d,eB d2]
     rw [e2]at m;exact absurd (show(-1:Int)<0 by decide) m
    .have e2:aU t ⟨4,a,h,f⟩=(t++ [⟨4,a,h,f⟩],(t.length:Int)):=by unfold aU;rw [dY d,dY d2]
     rw [e2];refine⟨t.length,ah,by simp only [eG,fA,fE];omega,rfl,?_,[⟨4,a,h,f⟩],rfl,by simp⟩;rw [getD_lt (show((t.length:Int)).toNat< (t++ [(⟨4,a,h,f⟩:Atom)]).length by simp),getElem_append_right (by simp)];simp
  obtain⟨k,p,B,k3,r,w⟩:=K;rw [k3];refine⟨w,oN k,?_⟩;have C:=ok.2;rw [ac4 _ ⟨p,ah⟩ (ao3 v A u _),ayn ok p B (by rw [r]),r]
 by_cases o:a≠2/\0<ji x y
 .obtain⟨h1,h2,h3⟩:=P y x l n (by unfold tDo;rw [dY c,eB o]);exact⟨ok,h1,h2,by rw [h3,aiZ o.1]⟩
 .obtain⟨h1,h2,h3⟩:=P x y n l (by unfold tDo;rw [dY c,dY o]);exact⟨ok,h1,h2,h3⟩
end Go.TX.F
namespace Go.TX.F
open Go Go.AE Go.TX List
variable{α:Type}{t:List Atom}{a:Atom}
abbrev hX(o:IOp):Prop:=o.kind≠1/\o.kind≠2/\o.kind≠6
abbrev hY(o:IOp):Prop:=o.kind=3\/o.kind=5
abbrev mkV(o:IOp):Prop:=(1<=o.kind/\o.kind<=4)\/o.kind=6
abbrev evO(o:IOp):Prop:=4<=o.kind/\o.kind<=7
def Vl(a:List IOp)(x n:Int):Prop:=0<=x/\x<n/\mkV ((a).getD (x).toNat default)
structure pU(ops:List IOp)(len i:Int)(o:IOp):Prop where
 kd:1<=o.kind/\o.kind<=8
 x1:hX o->Vl ops o.x i
 x0:¬hX o->o.x=0
 y1:hY o->Vl ops o.y i
 y0:¬hY o->o.y=0
 k1:o.kind=1->0<=o.k/\o.k<=65535
 k2:o.kind=2\/o.kind=8->0<=o.k/\o.k<=3
 k3:o.kind=3->1<=o.k/\o.k<=5
 k0:4<=o.kind->o.kind<=7->o.k=0
 a1:evO o->0<=o.at_/\o.at_<len
 a0:¬evO o->o.at_=0
structure Dw(b:Blk):Prop where
 f:1<=b.fin/\b.fin<=4
 x1:b.fin≠1->Vl b.ops b.x b.ops.length
 x0:b.fin=1->b.x=0
 y1:3<=b.fin->Vl b.ops b.y b.ops.length
 y0:b.fin<=2->b.y=0
 k1:b.fin≠2->0<=b.k/\b.k<=65535
 k0:b.fin=2->b.k=0
structure dB(b:Blk):Prop where
 ln:1<=b.len/\b.len<=8
 pc:0<=b.pc/\b.pc<=64-b.len
 sz:b.ops.length<=48
 op:∀i:Int,0<=i->i<b.ops.length->pU b.ops b.len i ((b.ops).getD (i).toNat default)
 en:Dw b
structure SS where
 t:List Atom
 regs:List (List au)
 vals:List (List au)
 ld:Int
 inn:Int
 evs:List Ev
def xOf(s:SS)(o:IOp):List au:=if hX o then((s.vals).getD (o.x).toNat default)else []
def yOf(s:SS)(o:IOp):List au:=if hY o then((s.vals).getD (o.y).toNat default)else []
def aOf(s:SS)(o:IOp):Atom:=if o.kind=4 then⟨2,s.ld,[],[]⟩else⟨3,s.inn,[],[]⟩
noncomputable def nT (s:SS) (o:IOp):List Atom:=if o.kind=3 then(tDo s.t o.k (xOf s o) (yOf s o)).1 else if o.kind=4\/o.kind=6 then(aU s.t (aOf s o)).1 else s.t
noncomputable def nV (s:SS) (o:IOp):List au:=if o.kind=1 then dV o.k else if o.kind=2 then((s.regs).getD (o.k).toNat default)else if o.kind=3 then(tDo s.t o.k (xOf s o) (yOf s o)).2 else if o.kind=4\/o.kind=6 then fJ (aU s.t (aOf s o)).2 else []
def nR(s:SS)(o:IOp):List (List au):=if o.kind=8 then s.regs.set o.k.toNat (xOf s o)else s.regs
def nE(s:SS)(o:IOp):List Ev:=if evO o then s.evs++ [⟨o.kind,o.at_,xOf s o,yOf s o,if o.kind=4\/o.kind=5 then s.regs else []⟩]else s.evs
noncomputable def stp (s:SS) (o:IOp):SS:=⟨nT s o,nR s o,s.vals++ [nV s o],if o.kind=4 then s.ld+1 else s.ld,if o.kind=6 then s.inn+1 else s.inn,nE s o⟩
noncomputable def rN (t:List Atom):Nat->List Atom×List (List au)
 | 0=>(t,[])
 | n+1=>((aU (rN t n).1 ⟨1,n,[],[]⟩).1,(rN t n).2++ [fJ (aU (rN t n).1 ⟨1,n,[],[]⟩).2])
noncomputable def s0 (t:List Atom):SS:=⟨(rN t 4).1,(rN t 4).2,[],0,0,[]⟩
noncomputable def eU (t:List Atom) (b:Blk):SS:=b.ops.foldl stp (s0 t)
def sD(b:Blk)(s:SS):Sym:=⟨s.evs,s.regs,b.fin,if b.fin=1 then []else((s.vals).getD (b.x).toNat default),if 3<=b.fin then((s.vals).getD (b.y).toNat default)else [],b.k⟩
def aeG:Sym:=⟨[],[],0,[],[],0⟩
noncomputable def symEnd (s:Sym) (a:Int):Sym:=
 if bp (aW s.x/\aW s.y)=false then aeG
 else if s.fin=2/\(bP s.x).2=true then⟨s.events,s.regs,1,[],[],(bP s.x).1⟩
 else if s.fin≠3/\s.fin≠4 then s
 else if s.x=s.y\/(bP s.x).2=true/\(bP s.y).2=true then
  ⟨s.events,s.regs,1,[],[],if s.x=s.y/\s.fin=3\/((bP s.x).2=true/\(bP s.y).2=true)/\(s.fin=3/\(bP s.x).1=(bP s.y).1\/s.fin=4/\(bP s.x).1< (bP s.y).1)then s.k else a⟩
 else if s.fin=3/\0<ji s.x s.y then⟨s.events,s.regs,s.fin,s.y,s.x,s.k⟩else s
noncomputable def bR (t:List Atom) (b:Blk):List Atom×Sym:=if bp (aI t/\t.length<=100/\dB b)=true then((eU t b).t,symEnd (sD b (eU t b)) (b.pc+b.len))else([],aeG)
def uX(t:List Atom)(a:Atom):t<+:(aU t a).1:=by
 unfold aU;split
 .exact prefix_refl _
 .split
  .exact prefix_refl _
  .exact prefix_append _ _
def oZ{a b:List α}(h:a<+:b):a.length<=b.length:=h.length_le
def Ke{d:α}{a b:List α}(h:a<+:b){i:Int}(e:i.toNat<a.length):b.getD i.toNat d=a.getD i.toNat d:=by
 obtain⟨c,rfl⟩:=h;rw [getD_lt e,getD_lt (by rw [eG];omega),getElem_append_left e]
def tq(h:0<=(aU t a).2):(aU t a).2< (aU t a).1.length/\(((aU t a).1).getD ((aU t a).2).toNat default)=a:=by
 have b:=iN t a
 revert h
 unfold aU;split
 .intro h;rcases b with⟨e,_⟩ | ⟨_,c,d,_⟩
  .exact absurd h (by dsimp only;omega)
  .exact⟨c,d.symm⟩
 .split
  .intro h;exact absurd h (by dsimp only;omega)
  .intro _;dsimp only;refine⟨by rw [eG];simp only [fA,fE];omega,?_⟩;rw [getD_lt (by rw [eG];simp only [fA,fE];omega)];simp
def aaX{u:List Atom}(h:aI u){k:Int}(b:0<=k)(d:k<u.length)(c:((u).getD (k).toNat default)=a):aU u a=(u,k):=by
 have e:pE u a=k:=by
  refine(iN u a).uniq (Or.inr ⟨b,d,c.symm,λj f i=> ?_⟩);have:=(qN.1 h).1 k b d;have g:=this.2 j f i;dsimp only at g ⊢;rw [c]at g;exact g
 unfold aU;rw [e,eB b]
def Dx{t u:List Atom}(d:aI u)(h:0<=(aU t a).2)(b:(aU t a).1<+:u):aU u a=(u,(aU t a).2):=by
 obtain⟨e,c⟩:=tq h;have:=oZ b;exact aaX d h ah (by rw [Ke b ah,c])
def TB{c n:Int}{x y:List au}(b:bB x n)(a:bB y n):bB (ig c x y).1 n:=by
 unfold ig;split
 .exact J7 b a
 .split
  .refine J7 b ?_;unfold jP;split
   .exact J8 a (y9 _ _)
   .exact kN _
  .split
   .exact J8 b a
   .unfold Gw
    repeat' split
    all_goals first | exact b | exact a | exact kN _ | exact y9 _ _
structure asD(t:List Atom)(op:Int)(x y:List au):Prop where
 tok:aI (tDo t op x y).1
 pre:t<+:(tDo t op x y).1
 len:(tDo t op x y).1.length<=t.length+1
 pok:aW (tDo t op x y).2
 und:bB (tDo t op x y).2 (tDo t op x y).1.length
 ok:tOk t op x y=true
def anH{b:Int}{x y:List au}(h:aI t)(o:t.length<200)(n:1<=b/\b<=5)(k:aW x)(j:aW y)(m:bB x t.length)(l:bB y t.length):asD t b x y:=by
 by_cases c:(ig b x y).2=true
 .have e:tDo t b x y=(t,(ig b x y).1):=by unfold tDo;rw [eB c]
  refine⟨?_,?_,?_,?_,?_,by unfold tOk;rw [c];rfl⟩<;>rw [e]
  .exact h
  .exact prefix_refl _
  .exact Nat.le_succ _
  .exact TA n k j
  .exact TB m l
 .have key:∀f d,aW f->aW d->bB f t.length->bB d t.length->0<=(aU t ⟨4,b,f,d⟩).2/\aI (aU t ⟨4,b,f,d⟩).1/\(aU t ⟨4,b,f,d⟩).1.length<=t.length+1:=λf d s u q r=>by
   have i:=Dt (a:=⟨4,b,f,d⟩) h o;have p:=i.2.2.2 (by unfold jk;rw [eB rfl];exact⟨n,s,u,q,r⟩);exact⟨p,i.1,i.2.2.1⟩
  by_cases g:b≠2/\0<ji x y
  .obtain⟨k1,k2,k3⟩:=key y x j k l m;have e:tDo t b x y=((aU t ⟨4,b,y,x⟩).1,fJ (aU t ⟨4,b,y,x⟩).2):=by unfold tDo;rw [dY c,eB g,dY ah]
   refine⟨?_,?_,?_,?_,?_,by unfold tOk;rw [eB g,decide_eq_false ah,Bool.not_false,Bool.or_true]⟩<;>rw [e]
   .exact k2
   .exact uX _ _
   .exact k3
   .exact oN _
   .exact vY (tq k1).1
  .obtain⟨k1,k2,k3⟩:=key x y k j m l;have e:tDo t b x y=((aU t ⟨4,b,x,y⟩).1,fJ (aU t ⟨4,b,x,y⟩).2):=by unfold tDo;rw [dY c,dY g,dY ah]
   refine⟨?_,?_,?_,?_,?_,by unfold tOk;rw [dY g,decide_eq_false ah,Bool.not_false,Bool.or_true]⟩<;>rw [e]
   .exact k2
   .exact uX _ _
   .exact k3
   .exact oN _
   .exact vY (tq k1).1
def aaY{t u:List Atom}{a:Int}{x y:List au}(d:aI u)(h:tOk t a x y=true)(b:(tDo t a x y).1<+:u):tDo u a x y=(u,(tDo t a x y).2):=by
 by_cases c:(ig a x y).2=true
 .unfold tDo;rw [eB c,eB c]
 .by_cases c2:a≠2/\0<ji x y
  .have k1:0<=(aU t ⟨4,a,y,x⟩).2:=by
    unfold tOk at h;rw [eB c2,Bool.or_eq_true,Bool.not_eq_true',decide_eq_false_iff_not]at h;have:=h.resolve_left c;omega
   have e:tDo t a x y=((aU t ⟨4,a,y,x⟩).1,fJ (aU t ⟨4,a,y,x⟩).2):=by unfold tDo;rw [dY c,eB c2,dY ah]
   rw [e]at b ⊢;have:=Dx d k1 b;unfold tDo;rw [dY c,eB c2,this,dY (by dsimp only;omega)]
  .have k1:0<=(aU t ⟨4,a,x,y⟩).2:=by
    unfold tOk at h;rw [dY c2,Bool.or_eq_true,Bool.not_eq_true',decide_eq_false_iff_not]at h;have:=h.resolve_left c;omega
   have e:tDo t a x y=((aU t ⟨4,a,x,y⟩).1,fJ (aU t ⟨4,a,x,y⟩).2):=by unfold tDo;rw [dY c,dY c2,dY ah]
   rw [e]at b ⊢;have:=Dx d k1 b;unfold tDo;rw [dY c,dY c2,this,dY (by dsimp only;omega)]
end Go.TX.F
namespace Go.TX.F
open Go Go.AE Go.TX List
variable{n:Int}{i:Nat}{s:SS}{t:List Atom}{b:Blk}{u:List Atom}
structure SI(n:Int)(i:Nat)(s:SS):Prop where
 tok:aI s.t
 tl:(s.t.length:Int)<=n+i
 r4:s.regs.length=4
 rok:∀p∈s.regs,aW p/\bB p s.t.length
 vl:s.vals.length=i
 vok:∀p∈s.vals,aW p/\bB p s.t.length
 ld:0<=s.ld/\s.ld<=i
 inn:0<=s.inn/\s.inn<=i
def Fe{l:List (List au)}(h:∀p∈l,aW p/\bB p n)(i:Int):aW ((l).getD (i).toNat default)/\bB ((l).getD (i).toNat default) n:=by
 by_cases c:i.toNat<l.length
 .rw [getD_lt c];exact h _ (getElem_mem _)
 .rw [getD_eq_getElem?_getD,getElem?_eq_none ah];exact⟨eP,kN _⟩
def SI.x(h:SI n i s)(o:IOp):aW (xOf s o)/\bB (xOf s o) s.t.length:=by
 unfold xOf;split
 .exact Fe h.vok _
 .exact⟨eP,kN _⟩
def SI.y(h:SI n i s)(o:IOp):aW (yOf s o)/\bB (yOf s o) s.t.length:=by
 unfold yOf;split
 .exact Fe h.vok _
 .exact⟨eP,kN _⟩
def anI(h:SI n i s)(c:i<200)(o:IOp)(m:Int):jk (aOf s o) m:=by
 have b:=h.ld;have a:=h.inn;unfold aOf;split
 .unfold jk;rw [dY (by simp)];exact⟨⟨rfl,rfl⟩,Or.inr ⟨Or.inl rfl,by dsimp only;omega,by dsimp only;omega⟩⟩
 .unfold jk;rw [dY (by simp)];exact⟨⟨rfl,rfl⟩,Or.inr ⟨Or.inr rfl,by dsimp only;omega,by dsimp only;omega⟩⟩
structure SOK(s:SS)(o:IOp):Prop where
 pre:s.t<+:(stp s o).t
 d:o.kind=3->asD s.t o.k (xOf s o) (yOf s o)
 p:o.kind=4\/o.kind=6->0<=(aU s.t (aOf s o)).2
def Ch{o:IOp}(h:SI n i s)(hk:o.kind=3->1<=o.k/\o.k<=5)(hn:n+i<200)(g:i<200):SI n (i+1) (stp s o)/\SOK s o:=by
 have m:=h.tl;have tl:s.t.length<200:=by omega
 have hd:o.kind=3->asD s.t o.k (xOf s o) (yOf s o):=λe=>anH h.tok tl (hk e) (h.x o).1 (h.y o).1 (h.x o).2 (h.y o).2
 have c:=Dt (a:=aOf s o) h.tok tl;have b:=c.2.2.2 (anI h g o _);have T:aI (nT s o)/\(nT s o).length<=s.t.length+1/\s.t<+:nT s o:=by
  unfold nT;split
  .rename_i e;have:=hd e;exact⟨this.tok,this.len,this.pre⟩
  .split
   .exact⟨c.1,c.2.2.1,uX _ _⟩
   .exact⟨h.tok,Nat.le_succ _,prefix_refl _⟩
 have d:∀ {p:List au},aW p/\bB p s.t.length->aW p/\bB p (nT s o).length:=λb=>⟨b.1,qO b.2 (by have:=oZ T.2.2;omega)⟩
 have V:aW (nV s o)/\bB (nV s o) (nT s o).length:=by
  unfold nV;split
  .exact⟨sZ _,y9 _ _⟩
  .split
   .exact d (Fe h.rok _)
   .split
    .rename_i e;have:=hd e;refine⟨this.pok,?_⟩;have f:nT s o=(tDo s.t o.k (xOf s o) (yOf s o)).1:=by unfold nT;rw [eB e]
     rw [f];exact this.und
    .split
     .rename_i e1 f;have j:nT s o=(aU s.t (aOf s o)).1:=by unfold nT;rw [dY ah,eB f]
      rw [j];exact⟨oN _,vY (tq b).1⟩
     .exact⟨eP,kN _⟩
 have l:=h.ld;have k:=h.inn;refine⟨⟨T.1,?_,?_,?_,?_,?_,?_,?_⟩,⟨T.2.2,hd,λ_=>b⟩⟩
 .have:=T.2.1;show((nT s o).length:Int)<=_;omega
 .show(nR s o).length=4;unfold nR;split
  .rw [length_set];exact h.r4
  .exact h.r4
 .show∀p∈nR s o,_;intro p b;unfold nR at b;split at b
  .rcases mem_or_eq_of_mem_set b with b | rfl
   .exact d (h.rok p b)
   .exact d (h.x o)
  .exact d (h.rok p b)
 .show(s.vals++ [nV s o]).length=i+1;rw [eG,h.vl];rfl
 .show∀p∈s.vals++ [nV s o],_;intro p b;rw [mem_append,mem_singleton]at b;rcases b with b | rfl
  .exact d (h.vok p b)
  .exact V
 .show 0<=(if o.kind=4 then s.ld+1 else s.ld)/\(if o.kind=4 then s.ld+1 else s.ld)<=_;split<;>omega
 .show 0<=(if o.kind=6 then s.inn+1 else s.inn)/\(if o.kind=6 then s.inn+1 else s.inn)<=_;split<;>omega
def wh:∀(a:List IOp) (i:Nat) (s:SS),SI n i s->(∀o∈a,o.kind=3->1<=o.k/\o.k<=5)->n+i+a.length<=200->i+a.length<=200->SI n (i+a.length) (a.foldl stp s)/\s.t<+:(a.foldl stp s).t
 | [],i,s,h,_,_,_=>⟨h,prefix_refl _⟩
 | o::r,i,s,h,hk,h1,h2=>by
  rw [fA]at h1 h2;obtain⟨d,e⟩:=Ch h (hk o mem_cons_self) ah ah;obtain⟨c,f⟩:=wh r (i+1) (stp s o) d (λo b=>hk o (mem_cons_of_mem _ b)) ah ah;rw [foldl_cons,fA,show i+(r.length+1)=i+1+r.length by omega];exact⟨c,e.pre.trans f⟩
structure RI(t:List Atom)(n:Nat)(r:List Atom×List (List au)):Prop where
 tok:aI r.1
 tl:r.1.length<=t.length+n
 pre:t<+:r.1
 r4:r.2.length=n
 rok:∀p∈r.2,aW p/\bB p r.1.length
def Gg(h:aI t)(e:t.length<=196):∀n:Nat,n<=4->RI t n (rN t n)
 | 0,_=>⟨h,Nat.le_refl _,prefix_refl _,rfl,λp b=>absurd b (by simp [rN])⟩
 | n+1,hn=>by
  have c:=Gg h e n ah;have l:=c.tl;have b:=Dt (a:=⟨1,n,[],[]⟩) c.tok ah;have f:=b.2.2.2 (by unfold jk;rw [dY (by simp)];exact⟨⟨rfl,rfl⟩,Or.inl ⟨rfl,by dsimp only;omega,by dsimp only;omega⟩⟩);have d:=uX (rN t n).1 ⟨1,n,[],[]⟩;unfold rN;refine⟨b.1,?_,c.pre.trans d,?_,λp h=> ?_⟩
  .have:=b.2.2.1;dsimp only;omega
  .dsimp only;rw [eG,c.r4];rfl
  .dsimp only at h ⊢;rw [mem_append,mem_singleton]at h;rcases h with h | rfl
   .have:=c.rok p h;exact⟨this.1,qO this.2 (by have:=oZ d;omega)⟩
   .exact⟨oN _,vY (tq f).1⟩
def Ci(h:aI t)(c:t.length<=196){n:Nat}(hn:n<4):0<=(aU (rN t n).1 ⟨1,n,[],[]⟩).2:=by
 have b:=Gg h c n ah;have l:=b.tl;exact(Dt (a:=⟨1,n,[],[]⟩) b.tok ah).2.2.2 (by unfold jk;rw [dY (by simp)];exact⟨⟨rfl,rfl⟩,Or.inl ⟨rfl,by dsimp only;omega,by dsimp only;omega⟩⟩)
def Kg(h:aI t)(b:t.length<=196):SI (t.length+4) 0 (s0 t):=by
 have:=Gg h b 4 ah;have l:=this.tl;exact⟨this.tok,by show((rN t 4).1.length:Int)<=_;omega,this.r4,this.rok,rfl,λp a=>absurd a (by simp [s0]),by simp [s0],by simp [s0]⟩
def dB.k3(h:dB b):∀o∈b.ops,o.kind=3->1<=o.k/\o.k<=5:=λo a=>by
 obtain⟨i,c,rfl⟩:=getElem_of_mem a;have:=(h.op i ah ah).k3;rw [show(i:Int).toNat=i from rfl,getD_lt c]at this;exact this
def Qv(h:aI t)(f:t.length<=100)(c:dB b):SI (t.length+4) b.ops.length (eU t b)/\t<+:(eU t b).t:=by
 have e:=c.sz;obtain⟨a,d⟩:=wh b.ops 0 (s0 t) (Kg h ah) c.k3 ah ah;rw [Nat.zero_add]at a;exact⟨a,(Gg h ah 4 ah).pre.trans d⟩
def SS.on(s:SS)(u:List Atom):SS:=⟨u,s.regs,s.vals,s.ld,s.inn,s.evs⟩
theorem asE{o:IOp}(b:aI u)(h:SOK s o)(a:(stp s o).t<+:u):stp (s.on u) o=(stp s o).on u:=by
 have a:nT s o<+:u:=a;have d:xOf (s.on u) o=xOf s o:=rfl;have f:yOf (s.on u) o=yOf s o:=rfl;have g:aOf (s.on u) o=aOf s o:=rfl;have eT:nT (s.on u) o=u:=by
  unfold nT;split
  .rename_i e;rw [d,f];have c:=(h.d e).ok;unfold nT at a;rw [eB e]at a;rw [show(s.on u).t=u from rfl,aaY b c a]
  .split
   .rename_i e1 e2;unfold nT at a;rw [dY e1,eB e2]at a;rw [g,show(s.on u).t=u from rfl,Dx b (h.p e2) a]
   .rfl
 have i:nV (s.on u) o=nV s o:=by
  unfold nV;split
  .rfl
  .split
   .rfl
   .split
    .rename_i e;rw [d,f];have c:=(h.d e).ok;unfold nT at a;rw [eB e]at a;rw [show(s.on u).t=u from rfl,aaY b c a]
    .split
     .rename_i e1 e2;unfold nT at a;rw [dY e1,eB e2]at a;rw [g,show(s.on u).t=u from rfl,Dx b (h.p e2) a]
     .rfl
 show SS.mk (nT (s.on u) o) (nR (s.on u) o) ((s.on u).vals++ [nV (s.on u) o]) _ _ (nE (s.on u) o)=SS.mk u (nR s o) (s.vals++ [nV s o]) _ _ (nE s o);rw [eT,i];rfl
def ajh(d:aI u):∀(a:List IOp) (i:Nat) (s:SS),SI n i s->(∀o∈a,o.kind=3->1<=o.k/\o.k<=5)->n+i+a.length<=200->i+a.length<=200->(a.foldl stp s).t<+:u->a.foldl stp (s.on u)=(a.foldl stp s).on u
 | [],i,s,h,_,_,_,_=>rfl
 | o::r,i,s,h,hk,h1,h2,hp=>by
  rw [fA]at h1 h2;obtain⟨c,e⟩:=Ch h (hk o mem_cons_self) ah ah;rw [foldl_cons]at hp;obtain⟨_,f⟩:=wh r (i+1) (stp s o) c (λo b=>hk o (mem_cons_of_mem _ b)) ah ah;rw [foldl_cons,foldl_cons,asE d e (f.trans hp)];exact ajh d r (i+1) (stp s o) c (λo b=>hk o (mem_cons_of_mem _ b)) ah ah hp
def ao5{t u:List Atom}(h:aI t)(b:t.length<=196)(c:aI u):∀n:Nat,n<=4->(rN t n).1<+:u->rN u n=(u,(rN t n).2)
 | 0,_,_=>rfl
 | n+1,hn,hp=>by
  have e:=Ci h b (n:=n) ah;have f:=uX (rN t n).1 ⟨1,n,[],[]⟩;have a:(aU (rN t n).1 ⟨1,n,[],[]⟩).1<+:u:=hp;have d:=ao5 h b c n ah (f.trans a);show((aU (rN u n).1 ⟨1,n,[],[]⟩).1,(rN u n).2++ [fJ (aU (rN u n).1 ⟨1,n,[],[]⟩).2])=(u,(rN t n).2++ [fJ (aU (rN t n).1 ⟨1,n,[],[]⟩).2]);rw [d];dsimp only;rw [Dx c e a]
def anJ{t u:List Atom}(h:aI t)(j:t.length<=100)(c:dB b)(f:aI u)(a:(eU t b).t<+:u):eU u b=(eU t b).on u:=by
 have i:=c.sz;have d:=Kg h ah;obtain⟨_,g⟩:=wh b.ops 0 (s0 t) d c.k3 ah ah;have e:s0 u=(s0 t).on u:=by
  unfold s0 SS.on;rw [ao5 h ah f 4 ah (g.trans a)]
 unfold eU at a ⊢;rw [e];exact ajh f b.ops 0 (s0 t) d c.k3 ah ah a
def wo(h:aI t)(a:t.length<=100)(c:dB b):bR t b=((eU t b).t,symEnd (sD b (eU t b)) (b.pc+b.len)):=by
 unfold bR;rw [eB (aJ ⟨h,a,c⟩)]
def aeH{t u:List Atom}(h:aI t)(e:t.length<=100)(a:dB b)(f:aI u)(c:u.length<=100)(d:(bR t b).1<+:u):bR u b=(u,(bR t b).2):=by
 rw [wo h e a]at d ⊢;rw [wo f c a,anJ h e a f d];rfl
def Ao(h:aI t)(a:t.length<=100)(d:dB b):aI (bR t b).1/\t<+:(bR t b).1/\(bR t b).1.length<=t.length+b.ops.length+4:=by
 unfold bR;rw [eB (aJ ⟨h,a,d⟩)];obtain⟨c,e⟩:=Qv h a d;have:=c.tl;exact⟨c.tok,e,by dsimp only;omega⟩
end Go.TX.F
namespace Go.TX.F
open Go Go.AE Go.TX List
variable{n:Int}{i:Nat}{s:SS}{b:Blk}
def ShP(l:List (List au)):Prop:=l.length<1000000000/\∀p∈l,Sh p
def ShE(e:Ev):Prop:=Sh e.x/\Sh e.y/\ShP e.regs
def aji(l:List Ev):Prop:=l.length<1000000000/\∀e∈l,ShE e
structure ShY(s:Sym):Prop where
 e:aji s.events
 r:ShP s.regs
 x:Sh s.x
 y:Sh s.y
def ShP.at{l:List (List au)}(h:ShP l)(n:Nat):Sh (l.getD n default):=by
 by_cases c:n<l.length
 .rw [getD_lt c];exact h.2 _ (getElem_mem _)
 .rw [getD_eq_getElem?_getD,getElem?_eq_none ah];exact rC
def Qw:ShP []:=⟨by simp,λp h=>absurd h (by simp)⟩
def aji.at{l:List Ev}(h:aji l)(n:Nat):ShE (l.getD n default):=by
 by_cases c:n<l.length
 .rw [getD_lt c];exact h.2 _ (getElem_mem _)
 .rw [getD_eq_getElem?_getD,getElem?_eq_none ah];exact⟨rC,rC,Qw⟩
def anK:ShY aeG:=⟨⟨by simp [aeG],λe h=>absurd h (by simp [aeG])⟩,Qw,rC,rC⟩
def SI.regs(h:SI n i s):ShP s.regs:=⟨by have:=h.r4;omega,λp a=>(h.rok p a).1.sh⟩
def anL{o:IOp}(h:SI n i s)(b:s.evs.length<=i/\∀e∈s.evs,ShE e):(stp s o).evs.length<=i+1/\∀e∈(stp s o).evs,ShE e:=by
 show(nE s o).length<=i+1/\∀e∈nE s o,ShE e;unfold nE;split
 .refine⟨by rw [eG];have:=b.1;simp only [fA,fE];omega,λe a=> ?_⟩;rw [mem_append,mem_singleton]at a;rcases a with a | rfl
  .exact b.2 e a
  .refine⟨(h.x o).1.sh,(h.y o).1.sh,?_⟩;dsimp only;split
   .exact h.regs
   .exact Qw
 .exact⟨by have:=b.1;omega,b.2⟩
def Qx:∀(a:List IOp) (i:Nat) (s:SS),SI n i s->(∀o∈a,o.kind=3->1<=o.k/\o.k<=5)->n+i+a.length<=200->i+a.length<=200->(s.evs.length<=i/\∀e∈s.evs,ShE e)->(a.foldl stp s).evs.length<=i+a.length/\∀e∈(a.foldl stp s).evs,ShE e
 | [],i,s,h,_,_,_,h3=>h3
 | o::r,i,s,h,hk,h1,h2,h3=>by
  rw [fA]at h1 h2;obtain⟨c,d⟩:=Ch h (hk o mem_cons_self) ah ah;have:=Qx r (i+1) (stp s o) c (λo b=>hk o (mem_cons_of_mem _ b)) ah ah (anL h h3);rw [foldl_cons,fA,show i+(r.length+1)=i+1+r.length by omega];exact this
def evT(e:Ev):Int×Int×Nat:=(e.kind,e.at_,e.regs.length)
def opT(o:IOp):Int×Int×Nat:=(o.kind,o.at_,if o.kind=4\/o.kind=5 then 4 else 0)
def ac5(a:List IOp):List IOp:=a.filter λo=>decide (evO o)
def ac6:∀(a:List IOp) (s:SS),s.regs.length=4->(a.foldl stp s).evs.map evT=s.evs.map evT++(ac5 a).map opT
 | [],s,_=>by simp [ac5]
 | o::r,s,h=>by
  have b:(stp s o).regs.length=4:=by
   show(nR s o).length=4;unfold nR;split
   .rw [length_set];exact h
   .exact h
  rw [foldl_cons,ac6 r (stp s o) b];show(nE s o).map evT++_=_;unfold nE ac5;by_cases c:evO o
  .have e:evT ⟨o.kind,o.at_,xOf s o,yOf s o,if o.kind=4\/o.kind=5 then s.regs else []⟩=opT o:=by
    unfold evT opT;dsimp only;split
    .rw [h]
    .rfl
   rw [eB c,filter_cons_of_pos (by simpa using c),map_append,append_assoc];refine congrArg (s.evs.map evT++ ·) ?_;show evT _::_=opT o::_;rw [e];rfl
  .rw [dY c,filter_cons_of_neg (by simpa using c)]
def Ho(h:SI n i s):aW (sD b s).x/\aW (sD b s).y:=by
 unfold sD;dsimp only;constructor
 .split
  .exact eP
  .exact(Fe h.vok _).1
 .split
  .exact(Fe h.vok _).1
  .exact eP
def Dy{s:Sym}(h:aW s.x/\aW s.y):(symEnd s n).events=s.events/\(symEnd s n).regs=s.regs/\aW (symEnd s n).x/\aW (symEnd s n).y:=by
 unfold symEnd;rw [dY (by rw [aJ h];simp)]
 repeat' split
 all_goals first | exact⟨rfl,rfl,h⟩ | exact⟨rfl,rfl,eP,eP⟩ | exact⟨rfl,rfl,h.2,h.1⟩
structure ayp(t:List Atom)(b:Blk):Prop where
 evs:(bR t b).2.events.map evT=(ac5 b.ops).map opT
 r4:(bR t b).2.regs.length=4
 sh:ShY (bR t b).2
 ne:0< (bR t b).1.length
theorem TD{t:List Atom}(h:aI t)(i:t.length<=100)(a:dB b):ayp t b:=by
 have j:=a.sz;have c:=Kg h ah;obtain⟨g,l⟩:=Qv h i a;have f:=Qx b.ops 0 (s0 t) c a.k3 ah ah ⟨by simp [s0],λe d=>absurd d (by simp [s0])⟩;have d:=ac6 b.ops (s0 t) c.r4;have hk:=Dy (n:=b.pc+b.len) (Ho (b:=b) g);have e:bR t b=((eU t b).t,symEnd (sD b (eU t b)) (b.pc+b.len)):=by unfold bR;rw [eB (aJ ⟨h,i,a⟩)]
 rw [Nat.zero_add]at f;refine⟨?_,?_,?_,?_⟩
 .rw [e];dsimp only;rw [hk.1];show(eU t b).evs.map evT=_;unfold eU;rw [d];rfl
 .rw [e];dsimp only;rw [hk.2.1];exact g.r4
 .rw [e];refine⟨?_,?_,hk.2.2.1.sh,hk.2.2.2.sh⟩
  .rw [hk.1];exact⟨by have:=f.1;show(b.ops.foldl stp (s0 t)).evs.length<_;omega,f.2⟩
  .rw [hk.2.1];exact g.regs
 .rw [e];have r:=wh b.ops 0 (s0 t) c a.k3 ah ah;have:=oZ r.2;have p:=tq (Ci h ah (n:=3) ah);have k:=Ci h ah (n:=3) ah;show 0< (eU t b).t.length;have:(s0 t).t.length=(aU (rN t 3).1 ⟨1,(3:Nat),[],[]⟩).1.length:=rfl;unfold eU;omega
def Dz(t:List Atom)(b:Blk):ShY (bR t b).2/\ShT (bR t b).1:=by
 by_cases c:aI t/\t.length<=100/\dB b
 .exact⟨(TD c.1 c.2.1 c.2.2).sh,(Ao c.1 c.2.1 c.2.2).1.sh⟩
 .unfold bR;rw [aV c,dY (by simp)];exact⟨anK,anB⟩
noncomputable def t4:List Atom:=(rN [] 4).1
def Fg:aI []:=qN.2 ⟨All.zero,by simp⟩
def TF:aI t4/\t4.length<=4:=by
 have:=Gg Fg (by simp) 4 ah;exact⟨this.tok,Nat.le_trans this.tl (by simp)⟩
noncomputable def chk (b c:Blk):Bool:=bp (dB b/\dB c/\b.pc=c.pc/\b.len=c.len/\(b=c\/(bR t4 b).2=(bR (bR t4 b).1 c).2))
structure Lk(b c:Blk):Prop where
 ob:dB b
 oc:dB c
 pc:b.pc=c.pc
 len:b.len=c.len
 run:∀u,aI u->u.length<=100->(bR u b).1=u->bR u c=bR u b
def Lk.refl(h:dB b):Lk b b:=⟨h,h,rfl,rfl,λ_ _ _ _=>rfl⟩
def anM(a:dB b):aI (bR t4 b).1/\(bR t4 b).1.length<=100/\bR (bR t4 b).1 b=bR t4 b:=by
 have c:=TF;have d:=Ao c.1 ah a;have e:=a.sz;refine⟨d.1,ah,?_⟩;have:=aeH c.1 ah a d.1 ah (prefix_refl _);rw [this]
theorem Lk.chk{b c:Blk}(h:Lk b c):chk b c=true:=by
 obtain⟨e,d,a⟩:=anM h.ob;refine aJ ⟨h.ob,h.oc,h.pc,h.len,Or.inr ?_⟩;rw [h.run _ e d (by rw [a]),a]
end Go.TX.F
namespace Go.TX.F
open Go Go.AE Go.TX List
def TG:Blk:=⟨0,0,[],0,0,0,0⟩
theorem oP{α:Type}{d x:α}{l:List α}{i:Nat}:(l++ [x]).getD i d=if i<l.length then l.getD i d else if i=l.length then x else d:=by grind
def aaZ(f:SS->IOp->SS)(s:SS){l:List IOp}{i:Nat}(h:i<l.length):(l.take (i+1)).foldl f s=f ((l.take i).foldl f s) l[i]:=by
 rw [take_succ_eq_append_getElem h,foldl_append];rfl
def ren(nm:List Int)(o:IOp):IOp:=⟨o.kind,if hX o then((nm).getD (o.x).toNat default)else o.x,if hY o then((nm).getD (o.y).toNat default)else o.y,o.k,o.at_⟩
def Kh(nm:List Int)(b:Blk)(ops:List IOp):Blk:=⟨b.pc,b.len,ops.map (ren nm),b.fin,if b.fin=1 then b.x else((nm).getD (b.x).toNat default),if 3<=b.fin then((nm).getD (b.y).toNat default)else b.y,b.k⟩
def cpN(s:List Int×List Int)(i:Int)(o:IOp):Int:=if o.kind=2/\0<=((s.2).getD (o.k).toNat default)then((s.2).getD (o.k).toNat default)else i
def cpL(s:List Int×List Int)(i:Int)(o:IOp):List Int:=if o.kind=2 then(if 0<=((s.2).getD (o.k).toNat default)then s.2 else s.2.set o.k.toNat i)else if o.kind=8 then s.2.set o.k.toNat ((s.1).getD (o.x).toNat default)else s.2
def cpS(ops:List IOp):Nat->List Int×List Int
 | 0=>([],[-1, -1, -1, -1])
 | i+1=>((cpS ops i).1++ [cpN (cpS ops i) i (ops.getD i default)],cpL (cpS ops i) i (ops.getD i default))
noncomputable def fC (b:Blk):Blk:=if bp (dB b)=true then Kh (cpS b.ops b.ops.length).1 b b.ops else TG
theorem wu(ops:List IOp):∀i,(cpS ops i).1.length=i/\(cpS ops i).2.length=4
 | 0=>⟨rfl,rfl⟩
 | i+1=>by
  obtain⟨a,b⟩:=wu ops i
  grind [cpS,eG,cpL,default,length_set]
theorem asF(a:List IOp):∀ {i n:Nat} {j:Nat},j<i->i<=n->(cpS a n).1.getD j default=(cpS a i).1.getD j default:=by
 intro i n j d c
 induction n with
 | zero=>omega
 | succ n b=>grind [cpS,default,oP,wu]
def Qy{α:Type}{d x:α}{l:List α}{i j:Int}(c:0<=i)(b:0<=j)(a:j<l.length):(l.set j.toNat x).getD i.toNat d=if i=j then x else l.getD i.toNat d:=by grind
variable{m:List Bool}{b:Blk}
def fcO(f:List IOp)(o:IOp):IOp:=if o.kind=3/\(((f).getD (o.x).toNat default)).kind=1/\(((f).getD (o.y).toNat default)).kind=1 then⟨1,0,0,wdo o.k (((f).getD (o.x).toNat default)).k (((f).getD (o.y).toNat default)).k,0⟩else o
def fc(a:List IOp):Nat->List IOp
 | 0=> []
 | i+1=>fc a i++ [fcO (fc a i) (a.getD i default)]
def fcB(b:Blk)(f:List IOp):Blk:=
 if b.fin=2/\(((f).getD (b.x).toNat default)).kind=1 then⟨b.pc,b.len,f,1,0,b.y,(((f).getD (b.x).toNat default)).k⟩
 else if 3<=b.fin/\(((f).getD (b.x).toNat default)).kind=1/\(((f).getD (b.y).toNat default)).kind=1 then⟨b.pc,b.len,f,1,0,0,if b.fin=3/\(((f).getD (b.x).toNat default)).k=(((f).getD (b.y).toNat default)).k\/b.fin=4/\(((f).getD (b.x).toNat default)).k< (((f).getD (b.y).toNat default)).k then b.k else b.pc+b.len⟩
 else⟨b.pc,b.len,f,b.fin,b.x,b.y,b.k⟩
noncomputable def gB (b:Blk):Blk:=if bp (dB b)=true then fcB b (fc b.ops b.ops.length)else TG
def rD(a:List IOp):∀i,(fc a i).length=i
 | 0=>rfl
 | i+1=>by show(fc a i++ [_]).length=_;rw [eG,rD a i];rfl
def ayq(a:List IOp){i n j:Nat}(e:j<i)(d:i<=n):(fc a n).getD j default=(fc a i).getD j default:=by
  induction n with
  | zero => have : i = 0 := by omega
            subst this;rfl
  | succ n b=>
    by_cases c:i=n+1
    · subst c;rfl
    · have:=b ah;rw [<-this];show(fc a n++ [_]).getD j default=_;rw [oP,eB (by rw [rD];omega)]
def ajj(a:List IOp){i n:Nat}(h:i<n):(fc a n).getD i default=fcO (fc a i) (a.getD i default):=by
 rw [ayq a (show i<i+1 by omega) (show i+1<=n by omega)];show(fc a i++ [_]).getD i default=_;rw [oP,dY (by rw [rD];omega),eB (by rw [rD])]
def ayr(b:Blk)(f:List IOp):(fcB b f).pc=b.pc/\(fcB b f).len=b.len/\(fcB b f).ops=f:=by
 unfold fcB;split
 .exact⟨rfl,rfl,rfl⟩
 .split<;>exact⟨rfl,rfl,rfl⟩
def kpS(a:List IOp)(b:List Bool):Nat->List Int×List IOp
 | 0=>([],[])
 | i+1=>((kpS a b i).1++ [((kpS a b i).2.length:Int)],if b.getD i default=true then(kpS a b i).2++ [a.getD i default]else(kpS a b i).2)
def tu(b:Blk)(a:List Bool):Blk:=Kh (kpS b.ops a b.ops.length).1 b (kpS b.ops a b.ops.length).2
def pF:List IOp->Int->Bool
 | [],_=>false
 | o::l,r=>if o.kind=4\/o.kind=5\/o.kind=2/\o.k=r then false else if o.kind=8/\o.k=r then true else pF l r
def qD(a:List IOp)(b:List Bool):∀i,(kpS a b i).1.length=i/\(kpS a b i).2.length<=i
 | 0=>⟨rfl,Nat.le_refl _⟩
 | i+1=>by
  obtain⟨c,d⟩:=qD a b i;unfold kpS;refine⟨by rw [eG,c];rfl,?_⟩;dsimp only;split
  .rw [eG];simp only [fA,fE];omega
  .omega
def Hq(a:List IOp)(b:List Bool){i n:Nat}(h:i<=n):(kpS a b i).2<+:(kpS a b n).2/\(kpS a b i).1<+:(kpS a b n).1:=by
 induction n with
 | zero=>rw [show i=0 by omega];exact⟨prefix_refl _,prefix_refl _⟩
 | succ n d=>
  by_cases c:i=n+1
  .subst c;exact⟨prefix_refl _,prefix_refl _⟩
  .obtain⟨h1,h2⟩:=d ah;refine⟨h1.trans ?_,h2.trans (prefix_append _ _)⟩;show _<+:if b.getD n default=true then _ else _
   split
   .exact prefix_append _ _
   .exact prefix_refl _
def asG(a:List IOp)(b:List Bool){j n:Nat}(h:j<n):(kpS a b n).1.getD j default=((kpS a b j).2.length:Int):=by
 have:=Ke (d:=default) (Hq a b (show j+1<=n by omega)).2 (i:=j) (by have:=(qD a b (j+1)).1;omega);rw [show((j:Int)).toNat=j from rfl]at this;rw [this];show((kpS a b j).1++ [_]).getD j default=_;rw [oP,(qD a b j).1,dY ah,eB rfl]
def ajk(a:List IOp)(b:List Bool){j n:Nat}(h:j<n)(k:b.getD j default=true):(kpS a b j).2.length< (kpS a b n).2.length/\(kpS a b n).2.getD (kpS a b j).2.length default=a.getD j default:=by
 have e:(kpS a b (j+1)).2=(kpS a b j).2++ [a.getD j default]:=by show(if b.getD j default=true then _ else _)=_;rw [eB k]
 have p:=(Hq a b (show j+1<=n by omega)).1;have l:=oZ p;rw [e,eG]at l;simp only [fA,fE]at l;refine⟨ah,?_⟩;have:=Ke (d:=default) p (i:=(kpS a b j).2.length) (by rw [e,eG];simp);rw [show((((kpS a b j).2.length:Nat):Int)).toNat=(kpS a b j).2.length from rfl]at this;rw [this,e,oP,dY ah,eB rfl]
def aa0(a:List IOp)(b:List Bool):∀ {n m:Nat},m< (kpS a b n).2.length->∃j,j<n/\b.getD j default=true/\(kpS a b j).2.length=m
 | 0,m,h=>absurd h (by simp [kpS])
 | n+1,m,h=>by
  have h:m< (if b.getD n default=true then(kpS a b n).2++ [a.getD n default]else(kpS a b n).2).length:=h;by_cases c:m< (kpS a b n).2.length
  .obtain⟨j,h1,h2,h3⟩:=aa0 a b c;exact⟨j,ah,h2,h3⟩
  .split at h
   .rename_i k;rw [eG]at h;simp only [fA,fE]at h;exact⟨n,ah,k,ah⟩
   .omega
def ajl(f:IOp->IOp){l:List IOp}{m:Nat}(h:m<l.length):(l.map f).getD m default=f (l.getD m default):=by
 rw [getD_lt (by rw [length_map];exact h),getD_lt h,getElem_map]
def fV(a:List IOp):List Bool:=(range a.length).map λi=> !(decide ((a.getD i default).kind=8)&&pF (a.drop (i+1)) (a.getD i default).k)
noncomputable def kP (b:Blk):Blk:=if bp (dB b)=true then tu b (fV b.ops)else TG
def Oc{a:List IOp}{i:Nat}(h:i<a.length):(fV a).getD i default= !(decide ((a.getD i default).kind=8)&&pF (a.drop (i+1)) (a.getD i default).k):=by
 unfold fV;rw [getD_lt (by rw [length_map,length_range];exact h),getElem_map,getElem_range]
def us0(b:Blk):List Bool:=(λm:List Bool=>if 3<=b.fin then m.set b.y.toNat true else m) (if b.fin=1 then replicate b.ops.length false else(replicate b.ops.length false).set b.x.toNat true)
def usO(o:IOp)(i:Nat)(m:List Bool):List Bool:=
 if(m.getD i default || decide (4<=o.kind))=true then(λm:List Bool=>if hY o then m.set o.y.toNat true else m) ((λm:List Bool=>if hX o then m.set o.x.toNat true else m) (m.set i true))else m
def us(b:Blk):Nat->List Bool
 | 0=>us0 b
 | k+1=>usO (b.ops.getD (b.ops.length-1-k) default) (b.ops.length-1-k) (us b k)
noncomputable def Hr (b:Blk):List Bool:=if bp (dB b)=true then us b b.ops.length else []
noncomputable def iW (b:Blk):Blk:=if bp (dB b)=true then tu b (us b b.ops.length)else TG
def anN(o:IOp)(i:Nat)(m:List Bool):(usO o i m).length=m.length:=by
 unfold usO;dsimp only;repeat' split
 all_goals simp only [length_set]
def anO(b:Blk):(us0 b).length=b.ops.length:=by
 unfold us0;dsimp only;repeat' split
 all_goals simp only [length_set,length_replicate]
theorem Cj(b:Blk):∀k,(us b k).length=b.ops.length
 | 0=>anO b
 | k+1=>by unfold us;rw [anN,Cj b k]
def Aq{i:Nat}{j:Int}(h:j.toNat<m.length):(m.set j.toNat true).getD i default=(m.getD i default || decide (i=j.toNat)):=by
 by_cases c:i=j.toNat
 .subst c;rw [getD_lt (by rw [length_set];exact h),getElem_set_self,decide_eq_true rfl,Bool.or_true]
 .rw [decide_eq_false c,Bool.or_false];simp only [getD,getElem?_set_ne (Ne.symm c)]
def ac7{o:IOp}{i t:Nat}(l:i<m.length)(n:hX o->o.x.toNat<m.length)(g:hY o->o.y.toNat<m.length):(usO o i m).getD t default=true↔m.getD t default=true\/(m.getD i default=true\/4<=o.kind)/\(t=i\/hX o/\t=o.x.toNat\/hY o/\t=o.y.toNat):=by
 unfold usO;dsimp only;by_cases c:(m.getD i default || decide (4<=o.kind))=true
 .rw [eB c];rw [Bool.or_eq_true,decide_eq_true_eq]at c;have e:∀t:Nat,(m.set i true).getD t default=true↔m.getD t default=true\/t=i:=λt=>by
   have:=Aq (m:=m) (i:=t) (j:=(i:Int)) l;rw [show((i:Int)).toNat=i from rfl]at this;rw [this,Bool.or_eq_true,decide_eq_true_eq]
  have f:∀t:Nat,((if hX o then(m.set i true).set o.x.toNat true else m.set i true).getD t default=true)↔(m.getD t default=true\/t=i)\/hX o/\t=o.x.toNat:=λt=>by
   by_cases d:hX o
   .rw [eB d,Aq (by rw [length_set];exact n d),Bool.or_eq_true,decide_eq_true_eq,e];exact⟨λh=>h.elim Or.inl (λh=>Or.inr ⟨d,h⟩),λh=>h.elim Or.inl (λh=>Or.inr h.2)⟩
   .rw [dY d,e];exact⟨Or.inl,λh=>h.elim id (λh=>absurd h.1 d)⟩
  have k:(if hX o then(m.set i true).set o.x.toNat true else m.set i true).length=m.length:=by split<;>simp only [length_set]
  by_cases d:hY o
  .rw [eB d,Aq (by rw [k];exact g d),Bool.or_eq_true,decide_eq_true_eq,f];have b:=eq_true c;have a:=eq_true d;generalize hY o=Y at a ⊢;generalize hX o=Z;rw [b,a];grind
  .rw [dY d,f];have b:=eq_true c;have a:=eq_false d;generalize hY o=Y at a ⊢;generalize hX o=Z;rw [b,a];grind
 .rw [dY c];rw [Bool.or_eq_true,decide_eq_true_eq]at c;simp only [c,false_and,or_false]
def aa1{t:Nat}{j:Int}(h:j.toNat<m.length):(m.set j.toNat true).getD t default=true↔m.getD t default=true\/t=j.toNat:=by rw [Aq h,Bool.or_eq_true,decide_eq_true_eq]
def anP(k:dB b)(t:Nat):(us0 b).getD t default=true↔b.fin≠1/\t=b.x.toNat\/3<=b.fin/\t=b.y.toNat:=by
 have e:=k.en;have j:=e.x1;have h:=e.y1;unfold us0;dsimp only;have r:∀t,(replicate b.ops.length false).getD t default=false:=λt=>by
  by_cases c:t<b.ops.length
  .rw [getD_lt (by rw [length_replicate];exact c),getElem_replicate]
  .rw [getD_eq_getElem?_getD,getElem?_eq_none (by rw [length_replicate];omega)];rfl
 have a:∀t:Nat,((if b.fin=1 then replicate b.ops.length false else(replicate b.ops.length false).set b.x.toNat true).getD t default=true)↔b.fin≠1/\t=b.x.toNat:=λt=>by
  by_cases d:b.fin=1
  .rw [eB d,r];simp [d]
  .have:=j d;have i:=this.1;have f:=this.2.1;rw [dY d,Aq (by rw [length_replicate];omega),r];simp [d]
 have g:(if b.fin=1 then replicate b.ops.length false else(replicate b.ops.length false).set b.x.toNat true).length=b.ops.length:=by split<;>simp only [length_set,length_replicate]
 by_cases d:3<=b.fin
 .have:=h d;have i:=this.1;have f:=this.2.1;rw [eB d,Aq (by rw [g];omega),Bool.or_eq_true,decide_eq_true_eq,a];simp only [d,true_and]
 .rw [dY d,a];simp only [d,false_and,or_false]
def ajm(b:Blk)(a:List Bool):(tu b a).ops.length=(kpS b.ops a b.ops.length).2.length:=length_map _
theorem Ki(o:IOp)(l:List IOp)(r:Int):pF (o::l) r=if o.kind=4\/o.kind=5\/o.kind=2/\o.k=r then false else if o.kind=8/\o.k=r then true else pF l r:=rfl
def TH(a:dB b):kP b=tu b (fV b.ops):=by unfold kP;rw [eB (aJ a)]
def TI(a:dB b):iW b=tu b (us b b.ops.length):=by unfold iW;rw [eB (aJ a)]
def TJ(b:Blk)(a:List Bool):(tu b a).ops.length<=b.ops.length:=by rw [ajm];exact(qD b.ops a b.ops.length).2
def Ck(b:Blk):(kP b).ops.length<=b.ops.length:=by
 unfold kP;split
 .exact TJ _ _
 .exact Nat.zero_le _
def wB(b:Blk):(iW b).ops.length<=b.ops.length:=by
 unfold iW;split
 .exact TJ _ _
 .exact Nat.zero_le _
def anQ(b:Blk)(f:List IOp):(fcB b f).ops=f:=by
 unfold fcB;split; · rfl
 split<;>rfl
def ze(b:Blk):(gB b).ops.length<=b.ops.length:=by
 unfold gB;split
 .rw [anQ,rD];exact Nat.le_refl _
 .exact Nat.zero_le _
def wC(b:Blk):(fC b).ops.length<=b.ops.length:=by
 unfold fC;split
 .exact Nat.le_of_eq (length_map _)
 .exact Nat.zero_le _
noncomputable def zf (b:Blk):Blk:=iW (kP (iW (gB (fC b))))
def Fh(b:Blk):(zf b).ops.length<=b.ops.length:=Nat.le_trans (wB _) (Nat.le_trans (Ck _) (Nat.le_trans (wB _) (Nat.le_trans (ze _) (wC _))))
def DC(a:dB b):gB b=fcB b (fc b.ops b.ops.length):=by unfold gB;rw [eB (aJ a)]
def TK(a:dB b):fC b=Kh (cpS b.ops b.ops.length).1 b b.ops:=by unfold fC;rw [eB (aJ a)]
end Go.TX.F
namespace Go.TX.F
open Go Go.AE Go.TX List
def RB:(∀o:IOp,cO .iop 0 o=o.kind)/\(∀o:IOp,cO .iop 1 o=o.x)/\(∀o:IOp,cO .iop 2 o=o.y)/\(∀o:IOp,cO .iop 3 o=o.k)/\(∀o:IOp,cO .iop 4 o=o.at_)/\
  (∀b:Blk,cO .blk 0 b=b.pc)/\(∀b:Blk,cO .blk 1 b=b.len)/\(∀b:Blk,jN .blk 2 .iop b=b.ops)/\(∀b:Blk,cO .blk 3 b=b.fin)/\(∀b:Blk,cO .blk 4 b=b.x)/\(∀b:Blk,cO .blk 5 b=b.y)/\(∀b:Blk,cO .blk 6 b=b.k)/\
  (∀x,Co.mk .iop x=⟨x.1,x.2.1,x.2.2.1,x.2.2.2.1,x.2.2.2.2.1⟩)/\(∀x,Co.mk .blk x=⟨x.1,x.2.1,x.2.2.1,x.2.2.2.1,x.2.2.2.2.1,x.2.2.2.2.2.1,x.2.2.2.2.2.2.1⟩)/\
  (∀i:Ins,cO .ins 0 i=i.op)/\(∀i:Ins,cO .ins 1 i=i.d)/\(∀i:Ins,cO .ins 2 i=i.a)/\(∀i:Ins,cO .ins 3 i=i.k)/\(∀x,Co.mk .ins x=⟨x.1,x.2.1,x.2.2.1,x.2.2.2.1⟩)/\
  (∀e:Ev,cO .ev 0 e=e.kind)/\(∀e:Ev,cO .ev 1 e=e.at_)/\(∀e:Ev,jN .ev 2 .mono e=e.x)/\(∀e:Ev,jN .ev 3 .mono e=e.y)/\(∀e:Ev,jN .ev 4 .poly e=e.regs)/\(∀x,Co.mk .ev x=⟨x.1,x.2.1,x.2.2.1,x.2.2.2.1,x.2.2.2.2.1⟩)/\
  (∀s:Sym,jN .sym 0 .ev s=s.events)/\(∀s:Sym,jN .sym 1 .poly s=s.regs)/\(∀s:Sym,cO .sym 2 s=s.fin)/\(∀s:Sym,jN .sym 3 .mono s=s.x)/\(∀s:Sym,jN .sym 4 .mono s=s.y)/\(∀s:Sym,cO .sym 5 s=s.k)/\
  (∀x,Co.mk .sym x=⟨x.1,x.2.1,x.2.2.1,x.2.2.2.1,x.2.2.2.2.1,x.2.2.2.2.2.1⟩)/\(∀x,Co.mk .bool x=x.1)/\(∀x:Bool,LW .bool 0 x=x):=
 ⟨λ_=>rfl,λ_=>rfl,λ_=>rfl,λ_=>rfl,λ_=>rfl,λ_=>rfl,λ_=>rfl,λ_=>rfl,λ_=>rfl,λ_=>rfl,λ_=>rfl,λ_=>rfl,λ_=>rfl,λ_=>rfl,λ_=>rfl,λ_=>rfl,λ_=>rfl,λ_=>rfl,λ_=>rfl,λ_=>rfl,λ_=>rfl,λ_=>rfl,λ_=>rfl,λ_=>rfl,λ_=>rfl,λ_=>rfl,λ_=>rfl,λ_=>rfl,λ_=>rfl,λ_=>rfl,λ_=>rfl,λ_=>rfl,λ_=>rfl,λ_=>rfl⟩
abbrev hK(o:IOp):Prop:=o.kind=1\/o.kind=2\/o.kind=3\/o.kind=8
def ays{p1 f1}(a:Y1 p1 f1)(o:IOp):
  aht.F (p1,f1,()) (o,()) (λy=>y=(decide (hX o),decide (hY o),decide (hK o),decide (evO o),())):=by
 dsimp only [aht,gm];simp (disch:=omega) only [RR,RB,a];refine Prod.ext ?_ (Prod.ext ?_ (Prod.ext ?_ (Prod.ext ?_ rfl)))<;>rw [Bool.eq_iff_iff]<;>simp [hX,hY,hK,evO,inB,or_assoc,and_assoc]
def ayt{p1 f1}(a:Y1 p1 f1)(o:IOp):
  ahu.F (p1,f1,()) (o,()) (λy=>y=(decide (mkV o),())):=by
 dsimp only [ahu,gm];simp (disch:=omega) only [RR,RB,a];refine Prod.ext ?_ rfl;rw [Bool.eq_iff_iff];simp [mkV,inB]
def ayu{p1 f1}(a:Y1 p1 f1)(o:IOp):
  ahS.F (p1,f1,()) (o,()) (λy=>y=(decide (evO o),())):=by
 dsimp only [ahS,gm];simp (disch:=omega) only [RR,RB,a];refine Prod.ext ?_ rfl;rw [Bool.eq_iff_iff];simp [evO,inB]
def ayv{p1 f1}{c:IOp×Unit->Bool}{a:IOp×Unit->lX}(e:∀o,c (o,())=true/\a (o,())=(decide (mkV o),()))(d:Y1 p1 f1)(b:Blk)(x n:Int)(h:0<=n)(g:n<=b.ops.length)(f:b.ops.length<1000000000):
  ahv.F (c,a,p1,f1,()) (b,x,n,()) (λy=>y=(bp (Vl b.ops x n),())):=by
 dsimp only [ahv,gm];simp (disch:=omega) only [RR,RB,d,e,bF,jJ];refine⟨ah,ah,?_⟩;refine Prod.ext ?_ rfl;dsimp only;rw [Bool.eq_iff_iff,aF,Bool.and_eq_true,bF,decide_eq_true_eq];unfold Vl;constructor
 .rintro⟨⟨a1,a2⟩,a3⟩;exact⟨a1,ah,a3⟩
 .rintro⟨a1,a2,a3⟩;exact⟨⟨a1,ah⟩,a3⟩
def TL{b:List IOp}{len i:Int}{o:IOp}:pU b len i o↔(1<=o.kind/\o.kind<=8)/\(hX o/\Vl b o.x i\/¬hX o/\o.x=0)/\(hY o/\Vl b o.y i\/¬hY o/\o.y=0)/\
  (hK o/\(o.kind=1/\(0<=o.k/\o.k<=65535)\/(o.kind=2\/o.kind=8)/\(0<=o.k/\o.k<=3)\/o.kind=3/\(1<=o.k/\o.k<=5))\/¬hK o/\o.k=0)/\(evO o/\(0<=o.at_/\o.at_<len)\/¬evO o/\o.at_=0):=by
 constructor
 .rintro⟨kd,x1,x0,y1,y0,k1,k2,k3,k0,a1,a0⟩;refine⟨kd,?_,?_,?_,?_⟩
  .by_cases h:hX o
   .exact Or.inl ⟨h,x1 h⟩
   .exact Or.inr ⟨h,x0 h⟩
  .by_cases h:hY o
   .exact Or.inl ⟨h,y1 h⟩
   .exact Or.inr ⟨h,y0 h⟩
  .unfold hK;omega
  .by_cases h:evO o
   .exact Or.inl ⟨h,a1 h⟩
   .exact Or.inr ⟨h,a0 h⟩
 .rintro⟨kd,x,y,k,a⟩;refine⟨kd,λh=> ?_,λh=> ?_,λh=> ?_,λh=> ?_,λh=> ?_,λh=> ?_,λh=> ?_,λh c=> ?_,λh=> ?_,λh=> ?_⟩
  .rcases x with x | x
   .exact x.2
   .exact absurd h x.1
  .rcases x with x | x
   .exact absurd x.1 h
   .exact x.2
  .rcases y with y | y
   .exact y.2
   .exact absurd h y.1
  .rcases y with y | y
   .exact absurd y.1 h
   .exact y.2
  .unfold hK at k;omega
  .unfold hK at k;omega
  .unfold hK at k;omega
  .unfold hK at k;omega
  .rcases a with a | a
   .exact a.2
   .exact absurd h a.1
  .rcases a with a | a
   .exact absurd a.1 h
   .exact a.2
abbrev Y52(c:Blk×sj->Bool)(a:Blk×sj->lX):Prop:=∀b x n,0<=n->n<=b.ops.length->b.ops.length<1000000000->c (b,x,n,())=true/\a (b,x,n,())=(bp (Vl b.ops x n),())
abbrev Y53(b:IOp×Unit->Bool)(a:IOp×Unit->Bool×Bool×Bool×lX):Prop:=∀o,b (o,())=true/\a (o,())=(decide (hX o),decide (hY o),decide (hK o),decide (evO o),())
def ayw{p3 f3 p2 f2 p4 f4 p1 f1 p5 f5 p6 f6}(D:Y52 p3 f3)(E:Y53 p2 f2)(F:Y9 p4 f4)(G:Y1 p1 f1)(B:Y16 p5 f5)(C:Y17 p6 f6)(b:Blk)(i:Int)(A:0<=i)(H:i<b.ops.length)(z:b.ops.length<1000000000)(I:1<=b.len/\b.len<=8):
  ahw.F (p3,f3,p2,f2,p4,f4,p1,f1,p5,f5,p6,f6,()) (b,i,()) (λy=>y=(bp (pU b.ops b.len i ((b.ops).getD (i).toNat default)),())):=by
 have p:=λz1 z2 z3 z4 j t=>(D z1 z2 z3 z4 j t).1
 have l:=λz1 z2 z3 z4 j t=>(D z1 z2 z3 z4 j t).2
 have r:=λz1=>(E z1).1
 have v:=λz1=>(E z1).2
 have u:=λz1=>(F z1).1
 have s:=λz1=>(F z1).2
 have d:=λz1 z2 z3=>(G z1 z2 z3).1
 have w:=λz1 z2 z3=>(G z1 z2 z3).2
 have n:=λz1=>(B z1).1
 have q:=λz1=>(B z1).2
 have m:=λz1=>(C z1).1
 have f:=λz1=>(C z1).2
 have aa2:=λx=>p b x i A ah z
 have aa3:=λx=>l b x i A ah z
 dsimp only [ahw,gm];simp (disch:=omega) only [RR,RB,d,w,r,v,aa2,aa3,u,s,n,q,m,f,jJ];refine⟨ah,ah,λh=> ?_,λh=> ?_⟩
 .rw [aV (λg=>h g.kd)]
 .have h:=bF.1 h;refine Prod.ext ?_ rfl;dsimp only;rw [Bool.eq_iff_iff,aF,TL];generalize ((b.ops).getD (i).toNat default)=o at h ⊢;simp only [Bool.and_eq_true,Bool.or_eq_true,Bool.not_eq_true',decide_eq_true_eq,decide_eq_false_iff_not,aF,bF,h,true_and,and_true];have e:∀ {a:Int},(0<=a/\a<=b.len-1)↔(0<=a/\a<b.len):=λ{a}=>by omega
  have k:(bif decide (o.kind=1)then inB o.k 0 65535 else bif decide (o.kind=2)then inB o.k 0 3 else bif decide (o.kind=3)then inB o.k 1 5 else(decide (o.kind=8)&&inB o.k 0 3))=true↔(o.kind=1/\(0<=o.k/\o.k<=65535)\/(o.kind=2\/o.kind=8)/\(0<=o.k/\o.k<=3)\/o.kind=3/\(1<=o.k/\o.k<=5)):=by
   rcases(by omega:o.kind=1\/o.kind=2\/o.kind=3\/o.kind=8\/(o.kind≠1/\o.kind≠2/\o.kind≠3/\o.kind≠8))with c | c | c | c | ⟨c1,c2,c3,c4⟩
   .simp [c,inB]
   .simp [c,inB]
   .simp [c,inB]
   .simp [c,inB]
   .simp [c1,c2,c3,c4]
  rw [k];simp only [e,and_assoc]
def ayx(b:Blk):ahx.F () (b,()) (λy=>y=(decide (b.fin≠1),decide (3<=b.fin),decide (b.fin≠2),())):=by
 dsimp only [ahx,gm];simp (disch:=omega) only [RR,RB];refine Prod.ext ?_ (Prod.ext rfl (Prod.ext ?_ rfl))<;>simp
def Od{b:Blk}:Dw b↔(1<=b.fin/\b.fin<=4)/\(b.fin≠1/\Vl b.ops b.x b.ops.length\/¬b.fin≠1/\b.x=0)/\(3<=b.fin/\Vl b.ops b.y b.ops.length\/¬3<=b.fin/\b.y=0)/\(b.fin≠2/\(0<=b.k/\b.k<=65535)\/¬b.fin≠2/\b.k=0):=by
 constructor
 .rintro⟨f,x1,x0,y1,y0,k1,k0⟩;refine⟨f,?_,?_,ah⟩
  .by_cases h:b.fin=1
   .exact Or.inr ⟨λg=>g h,x0 h⟩
   .exact Or.inl ⟨h,x1 h⟩
  .by_cases h:3<=b.fin
   .exact Or.inl ⟨h,y1 h⟩
   .exact Or.inr ⟨h,y0 ah⟩
 .rintro⟨f,x,y,k⟩;refine⟨f,λh=> ?_,λh=> ?_,λh=> ?_,λh=> ?_,λh=>by omega,λh=>by omega⟩
  .rcases x with x | x
   .exact x.2
   .exact absurd h x.1
  .rcases x with x | x
   .exact absurd h x.1
   .exact x.2
  .rcases y with y | y
   .exact y.2
   .exact absurd h y.1
  .rcases y with y | y
   .exact absurd y.1 ah
   .exact y.2
abbrev Y54(c:mF->Bool)(a:mF->Bool×Bool×lX):Prop:=∀b,c (b,())=true/\a (b,())=(decide (b.fin≠1),decide (3<=b.fin),decide (b.fin≠2),())
def ayy{p2 f2 p3 f3 p4 f4 p1 f1}(n:Y54 p2 f2)(m:Y52 p3 f3)(o:Y9 p4 f4)(p:Y1 p1 f1)(b:Blk)(l:b.ops.length<1000000000):
  ahy.F (p2,f2,p3,f3,p4,f4,p1,f1,()) (b,()) (λy=>y=(bp (Dw b),())):=by
 have f:=λz1=>(n z1).1
 have j:=λz1=>(n z1).2
 have e:=λz1 z2 z3 z4 c h=>(m z1 z2 z3 z4 c h).1
 have d:=λz1 z2 z3 z4 c h=>(m z1 z2 z3 z4 c h).2
 have i:=λz1=>(o z1).1
 have g:=λz1=>(o z1).2
 have a:=λz1 z2 z3=>(p z1 z2 z3).1
 have k:=λz1 z2 z3=>(p z1 z2 z3).2
 have aa2:=λx=>e b x b.ops.length ah (Int.le_refl _) l
 have aa3:=λx=>d b x b.ops.length ah (Int.le_refl _) l
 dsimp only [ahy,gm];simp (disch:=omega) only [RR,RB,a,k,f,j,aa2,aa3,i,g];refine Prod.ext ?_ rfl;dsimp only;rw [Bool.eq_iff_iff,aF,Od];simp only [Bool.and_eq_true,Bool.or_eq_true,Bool.not_eq_true',decide_eq_true_eq,decide_eq_false_iff_not,aF,bF,and_assoc]
def ayz{p1 f1}{m:mF->Bool}{q:mF->lX}{l:Blk×eu->Bool}{r:Blk×eu->lX}(t:∀b,b.ops.length<1000000000->m (b,())=true/\q (b,())=(bp (Dw b),()))(p:∀(b:Blk) (i:Int),0<=i->i<b.ops.length->b.ops.length<1000000000->1<=b.len/\b.len<=8->l (b,i,())=true/\r (b,i,())=(bp (pU b.ops b.len i ((b.ops).getD (i).toNat default)),()))(u:Y1 p1 f1)(b:Blk)(e:b.ops.length<1000000000):
  ahz.F (m,q,l,r,p1,f1,()) (b,()) (λy=>y=(bp (dB b),())):=by
 dsimp only [ahz,gm];simp (disch:=omega) only [RR,RB,u];by_cases a:1<=b.len/\b.len<=8
 .have hl':=bF.2 a;simp (disch:=omega) only [RR,hl',bF,jJ];refine⟨λh=> ?_,λh=> ?_⟩
  .rw [aV (λg=> ?_)];have x:=g.pc;have v:=g.sz;omega
  .refine ay (λ(y:Int×Int×mF)=>y.1=b.ops.length/\y.2.2.1=b/\0<=y.2.1/\y.2.1<=b.ops.length/\All y.2.1 (λi=>pU b.ops b.len i ((b.ops).getD (i).toNat default))) (λy=>(b.ops.length-y.2.1).toNat) ⟨rfl,rfl,by simp,by simp,All.zero⟩ ?_;rintro⟨(n:Int),(i:Int),(c:Blk),⟨⟩⟩ hI;dsimp only at hI ⊢;obtain⟨rfl,rfl,k,w,o⟩:=hI;simp (disch:=omega) only [RR,t c e];refine⟨λd=>⟨(p c i k d e a).1,?_⟩,λd=> ?_⟩
   .rw [(p c i k d e a).2];dsimp only;refine⟨λf=> ?_,λf=>⟨⟨ah,ah,o.snoc (aF.1 f)⟩,ah⟩⟩;rw [aV (λg=>gK.1 f (g.op i k d))]
   .by_cases he:Dw c
    .rw [aJ he,aJ (show dB c from⟨a,ah,ah,λj s z=>o j s ah,he⟩)]
    .rw [aV he,aV (λg=>he g.en)]
 .have hl':=jJ.2 a;simp (disch:=omega) only [RR,hl'];rw [aV (λg=>a g.ln)];exact⟨rfl,λh=>h.1.1.elim⟩
def asH{p1 f1}(a:Y1 p1 f1)(k:Int):
  WK.F (p1,f1,()) (k,()) (λy=>y=(decide ((1<=k/\k<=4)\/k=6),())):=by
 dsimp only [WK,gm];simp (disch:=omega) only [RR,a];refine Prod.ext ?_ rfl;rw [Bool.eq_iff_iff];simp [inB]
def asI{b:eu->Bool}{c:eu->lX}(d:∀k,b (k,())=true/\c (k,())=(decide ((1<=k/\k<=4)\/k=6),()))(a:List IOp)(x n:Int)(e:n<=a.length):
  WL.F (b,c,()) (a,x,n,()) (λy=>y=(bp (Vl a x n),())):=by
 dsimp only [WL,gm];simp (disch:=omega) only [RR,RB,d];refine⟨by simp only [Bool.and_eq_false_iff,decide_eq_false_iff_not];omega,by simp only [Bool.and_eq_false_iff,decide_eq_false_iff_not];omega,?_⟩;refine Prod.ext ?_ rfl;dsimp only;rw [Bool.eq_iff_iff,aF,Bool.and_eq_true,Bool.and_eq_true,decide_eq_true_eq,decide_eq_true_eq,decide_eq_true_eq,and_assoc];rfl
abbrev Y55(c:aCu->Bool)(b:aCu->lX):Prop:=∀(a:List IOp) (x n:Int),n<=a.length->c (a,x,n,())=true/\b (a,x,n,())=(bp (Vl a x n),())
def asJ{p4 f4 p1 f1 p3 f3}(p:Y9 p4 f4)(q:Y1 p1 f1)(n:Y55 p3 f3)(b:List IOp)(i len:Int)(s:0<=i)(t:i<b.length)(z:1<=len/\len<=8):WM.F (p4,f4,p1,f1,p3,f3,()) (b,i,len,()) (λy=>y=(bp (pU b len i ((b).getD (i).toNat default)),())):=by
 have l:=λz1=>(p z1).1
 have k:=λz1=>(p z1).2
 have f:=λz1 z2 z3=>(q z1 z2 z3).1
 have m:=λz1 z2 z3=>(q z1 z2 z3).2
 have j:=λz1 z2 z3 z4=>(n z1 z2 z3 z4).1
 have g:=λz1 z2 z3 z4=>(n z1 z2 z3 z4).2
 have aa2:=λx=>j b x i ah
 have aa3:=λx=>g b x i ah
 have e:∀ {a:Int},(0<=a/\a<=len-1)↔(0<=a/\a<len):=λ{a}=>by omega
 dsimp only [WM,gm];simp (disch:=omega) only [RR,RB,f,m,aa2,aa3,l,k];refine⟨ah,ah,?_⟩;rw [show bp (pU b len i ((b).getD (i).toNat default))=bp (_)from gP TL];generalize ((b).getD (i).toNat default)=o;have d:∀ {c:Bool} {P:Prop},(c=true↔P)->(c,())=(bp P,()):=λ{c P} h=>Prod.ext (by dsimp only;rw [Bool.eq_iff_iff,aF];exact h) rfl
 refine⟨λc=> ?_,λu=>⟨λc=> ?_,λv=>⟨λc=> ?_,λw=> ?_⟩⟩⟩
 .refine d ?_;simp only [Bool.and_eq_true,decide_eq_true_eq,aF,bF,c,hX,hY,hK,evO,e];simp [and_assoc]
 .refine d ?_;simp only [Bool.and_eq_true,decide_eq_true_eq,aF,bF,c,hX,hY,hK,evO,e];simp [and_assoc]
 .refine d ?_;simp only [Bool.and_eq_true,decide_eq_true_eq,aF,bF,c,hX,hY,hK,evO,e];simp [and_assoc]
 .by_cases c4:o.kind=4\/o.kind=7
  .have c5:o.kind≠8:=by omega
   rcases c4 with c | c<;>simp (disch:=omega) only [RR,c,Int.reduceEq]<;>(refine d ?_)<;>simp only [Bool.and_eq_true,decide_eq_true_eq,aF,bF,c,hX,hY,hK,evO,e]<;>simp [and_assoc]
  .by_cases c:o.kind=5
   .simp (disch:=omega) only [RR,c,Int.reduceEq];refine d ?_;simp only [Bool.and_eq_true,decide_eq_true_eq,aF,bF,c,hX,hY,hK,evO,e];simp [and_assoc]
   .by_cases c':o.kind=6
    .simp (disch:=omega) only [RR,c',Int.reduceEq];refine d ?_;simp only [Bool.and_eq_true,decide_eq_true_eq,aF,bF,c',hX,hY,hK,evO,e];simp [and_assoc]
    .by_cases c8:o.kind=8
     .simp (disch:=omega) only [RR,c8,Int.reduceEq];refine d ?_;simp only [Bool.and_eq_true,decide_eq_true_eq,aF,bF,c8,hX,hY,hK,evO,e];simp [and_assoc]
     .have n4:¬o.kind=4:=λh=>c4 (Or.inl h)
      have r:¬o.kind=7:=λh=>c4 (Or.inr h)
      simp (disch:=omega) only [RR,n4,r,c,c',c8];rw [aV (λh=>by have:=h.1;omega)]
def asK{p4 f4 p3 f3}(j:Y9 p4 f4)(i:Y55 p3 f3)(b:Blk):WO.F (p4,f4,p3,f3,()) (b,()) (λy=>y=(bp (Dw b),())):=by
 have g:=λz1=>(j z1).1
 have f:=λz1=>(j z1).2
 have e:=λz1 z2 z3 z4=>(i z1 z2 z3 z4).1
 have d:=λz1 z2 z3 z4=>(i z1 z2 z3 z4).2
 have aa2:=λx=>e b.ops x b.ops.length (Int.le_refl _)
 have aa3:=λx=>d b.ops x b.ops.length (Int.le_refl _)
 dsimp only [WO,gm];simp (disch:=omega) only [RR,RB,aa2,aa3,g,f];rw [show bp (Dw b)=bp (_)from gP Od];have a:∀ {c:Bool} {P:Prop},(c=true↔P)->(c,())=(bp P,()):=λ{c P} h=>Prod.ext (by dsimp only;rw [Bool.eq_iff_iff,aF];exact h) rfl
 refine⟨λc=> ?_,λk=>⟨λc=> ?_,λl=> ?_⟩⟩
 .refine a ?_;simp only [Bool.and_eq_true,decide_eq_true_eq,aF,bF,c];simp [and_assoc]
 .refine a ?_;simp only [Bool.and_eq_true,decide_eq_true_eq,aF,bF,c];simp [and_assoc]
 .by_cases c:b.fin=3
  .simp (disch:=omega) only [RR,c,Int.reduceEq];refine a ?_;simp only [Bool.and_eq_true,decide_eq_true_eq,aF,bF,c];simp [and_assoc]
  .by_cases c4:b.fin=4
   .simp (disch:=omega) only [RR,c4,Int.reduceEq];refine a ?_;simp only [Bool.and_eq_true,decide_eq_true_eq,aF,bF,c4];simp [and_assoc]
   .simp (disch:=omega) only [RR,c,c4];rw [aV (λh=>by have:=h.1;omega)]
def asL{p1 f1}{m:mF->Bool}{p:mF->lX}{l:aCu->Bool}{q:aCu->lX}(t:Y1 p1 f1)(s:∀b,m (b,())=true/\p (b,())=(bp (Dw b),()))(o:∀(a:List IOp) (i len:Int),0<=i->i<a.length->1<=len/\len<=8->l (a,i,len,())=true/\q (a,i,len,())=(bp (pU a len i ((a).getD (i).toNat default)),()))(b:Blk)(u:b.ops.length<1000000000):
  WQ.F (p1,f1,m,p,l,q,()) (b,()) (λy=>y=(bp (dB b),())):=by
 dsimp only [WQ,gm];simp (disch:=omega) only [RR,RB,t];by_cases d:1<=b.len/\b.len<=8
 .have hl':=bF.2 d;simp (disch:=omega) only [RR,hl',bF,jJ];refine⟨λh=> ?_,λh=> ?_⟩
  .rw [aV (λg=> ?_)];have x:=g.pc;have v:=g.sz;omega
  .refine ay (λ(y:Int×mF)=>y.2.1=b/\0<=y.1/\y.1<=b.ops.length/\All y.1 (λi=>pU b.ops b.len i ((b.ops).getD (i).toNat default))) (λy=>(b.ops.length-y.1).toNat) ⟨rfl,by simp,by simp,All.zero⟩ ?_;rintro⟨(i:Int),(c:Blk),⟨⟩⟩ hI;dsimp only at hI ⊢;obtain⟨rfl,k,w,n⟩:=hI;simp (disch:=omega) only [RR,s c];refine⟨λe=>⟨(o c.ops i c.len k e d).1,?_⟩,λe=> ?_⟩
   .rw [(o c.ops i c.len k e d).2];dsimp only;refine⟨λf=> ?_,λf=>⟨⟨ah,ah,n.snoc (aF.1 f)⟩,ah⟩⟩;rw [aV (λg=>gK.1 f (g.op i k e))]
   .by_cases he:Dw c
    .rw [aJ he,aJ (show dB c from⟨d,ah,ah,λj r z=>n j r ah,he⟩)]
    .rw [aV he,aV (λg=>he g.en)]
 .have hl':=jJ.2 d;simp (disch:=omega) only [RR,hl'];rw [aV (λg=>d g.ln)];exact⟨rfl,λh=>h.1.1.elim⟩
def asM{p4 f4}(c:Y9 p4 f4)(r a b:Int):
  aag.F (p4,f4,()) (r,a,b,()) (λy=>y=(inB a 0 65535&&inB b 0 65535&& (decide (r=1/\a=b\/r=2/\a<b)),())):=by
 dsimp only [aag,gm];simp (disch:=omega) only [RR,c];refine Prod.ext ?_ rfl;rw [Bool.eq_iff_iff];simp
def asN{p1 f1}(e:Y13 p1 f1)(a:List (List au))(b:ShP a):
  aah.F (p1,f1,()) (a,()) (λy=>y=(a,())):=by
 have d:=b.1;dsimp only [aah,gm];refine ay (λ(y:List (List au)×Int×Int×mI)=>y.1=a/\y.2.1=a.length/\y.2.2.2.1=a.take y.2.2.1.toNat/\0<=y.2.2.1/\y.2.2.1<=a.length) (λy=>(a.length-y.2.2.1).toNat) ⟨rfl,rfl,by simp,by simp,by simp⟩ ?_;rintro⟨(l:List (List au)),(m:Int),(i:Int),(o:List (List au)),⟨⟩⟩ hI;dsimp only at hI ⊢;obtain⟨rfl,rfl,rfl,f,g⟩:=hI;simp (disch:=omega) only [RR,e _ (b.at _)];refine⟨λc=>⟨ah,ah,?_,⟨bA f c rfl,ah,ah⟩,ah⟩,λc=>by rw [take_of_length_le ah]⟩;have:=length_take_le' i.toNat l;simp only [fA,fE];omega
abbrev Y56(c:mI->Bool)(b:mI->mI):Prop:=∀a,ShP a->c (a,())=true/\b (a,())=(a,())
def ayA{p1 f1 p2 f2}(b:Y13 p1 f1)(f:Y56 p2 f2)(s:Sym)(a:ShY s):
  ahZ.F (p1,f1,p2,f2,()) (s,()) (λy=>y=(s.fin,s.k,s.events,s.regs,s.x,s.y,())):=by
 have e:=a.e.1;dsimp only [ahZ,gm];simp (disch:=omega) only [RR,RB,b _ a.x,b _ a.y,f _ a.r];refine ay (λ(y:List Ev×Int×Int×Int×Int×Int×Int×List Ev×List (List au)×wm)=>y.1=s.events/\y.2.1=s.events.length/\y.2.2.2.2.2.1=s.fin/\y.2.2.2.2.2.2.1=s.k/\y.2.2.2.2.2.2.2.1=s.events.take y.2.2.1.toNat/\y.2.2.2.2.2.2.2.2.1=s.regs/\y.2.2.2.2.2.2.2.2.2.1=s.x/\y.2.2.2.2.2.2.2.2.2.2.1=s.y/\0<=y.2.2.1/\y.2.2.1<=s.events.length) (λy=>(s.events.length-y.2.2.1).toNat) ⟨rfl,rfl,rfl,rfl,by simp,rfl,rfl,rfl,by simp,by simp⟩ ?_;rintro⟨(l:List Ev),(m:Int),(i:Int),(j:Int),(p:Int),(k:Int),(n:Int),(o:List Ev),(r:List (List au)),(u:List au),(v:List au),⟨⟩⟩ hI;dsimp only at hI ⊢;obtain⟨rfl,rfl,rfl,rfl,rfl,rfl,rfl,rfl,g,h⟩:=hI;have c:=a.e.at i.toNat;simp (disch:=omega) only [RR,RB,b _ c.1,b _ c.2.1,f _ c.2.2];refine⟨λd=>⟨ah,ah,?_,⟨bA g d rfl,ah,ah⟩,ah⟩,λd=>by rw [take_of_length_le ah]⟩;have:=length_take_le' i.toNat s.events;simp only [fA,fE];omega
def asO{p1 f1}{d:El->Bool}{c:El->List Atom×eu}(g:Y28 p1 f1)(i:∀(t:List Atom) a,t.length<1000000000->ShA a->d (t,a,())=true/\c (t,a,())=((aU t a).1,(aU t a).2,()))(b k:Int)(t:List Atom)(e:Bool)(j:t.length<1000000000):
  ZO.F (p1,f1,d,c,()) (b,k,t,e,()) (λy=>y=if(aU t ⟨b,k,[],[]⟩).2<0 then([],t,true,())else(fJ (aU t ⟨b,k,[],[]⟩).2,(aU t ⟨b,k,[],[]⟩).1,e,())):=by
 have f:ShA ⟨b,k,[],[]⟩:=⟨rC,rC⟩;dsimp only [ZO,gm];simp (disch:=omega) only [RR,g,i _ _ j f];exact⟨λh=>by rw [eB h],λh=>by rw [dY h]⟩
theorem Ht(t:List Atom)(n:Nat):rN t (n+1)=((aU (rN t n).1 ⟨1,n,[],[]⟩).1,(rN t n).2++ [fJ (aU (rN t n).1 ⟨1,n,[],[]⟩).2]):=rfl
abbrev Y57(b:Int×Int×aCy->Bool)(a:Int×Int×aCy->List au×aCy):Prop:=∀kd k (t:List Atom) fl,t.length<1000000000->b (kd,k,t,fl,())=true/\a (kd,k,t,fl,())=if(aU t ⟨kd,k,[],[]⟩).2<0 then([],t,true,())else(fJ (aU t ⟨kd,k,[],[]⟩).2,(aU t ⟨kd,k,[],[]⟩).1,fl,())
def asP{p1 f1}(h:Y57 p1 f1)(t:List Atom)(a:Bool)(b:aI t)(d:t.length<=196):ZP.F (p1,f1,()) (t,a,()) (λy=>y=((rN t 4).1,a,(rN t 4).2,())):=by
 dsimp only [ZP,gm];refine ay (λ(y:Int×List Atom×Bool×mI)=>0<=y.1/\y.1<=4/\y.2.2.1=a/\y.2.1=(rN t y.1.toNat).1/\y.2.2.2.1=(rN t y.1.toNat).2) (λy=>(4-y.1).toNat) ⟨by simp,by simp,rfl,rfl,rfl⟩ ?_;rintro⟨(i:Int),(u:List Atom),(g:Bool),(r:List (List au)),⟨⟩⟩ hI;dsimp only at hI ⊢;obtain⟨k,j,rfl,rfl,rfl⟩:=hI;have ok:=Gg b d i.toNat ah;have l:=ok.tl;have m:=ok.r4;simp (disch:=omega) only [RR,h _ _ (rN t i.toNat).1 _ ah,fA,fE];refine⟨λf=> ?_,λf=> ?_⟩
 .have hp:=Ci b d (n:=i.toNat) ah;rw [show((i.toNat:Nat):Int)=i by omega]at hp;rw [dY ah];have e:(i+1).toNat=i.toNat+1:=by omega
  have c:((i.toNat:Nat):Int)=i:=by omega
  refine⟨ah,⟨ah,ah,rfl,?_,?_⟩,ah⟩
  .rw [e,Ht,c]
  .rw [e,Ht,c]
 .rw [show i.toNat=4 by omega]
def asQ(a:List (List au))(c:0<a.length)(b:a.length<1000000000):ZR.F () (a,()) (λy=>y=(a,a,())):=by
 dsimp only [ZR,gm];simp (disch:=omega) only [RR,fE];exact⟨ah,ah,rfl⟩
abbrev Y58(b:aCy->Bool)(a:aCy->List Atom×Bool×mI):Prop:=∀(t:List Atom) fl,aI t->t.length<=196->b (t,fl,())=true/\a (t,fl,())=((rN t 4).1,fl,(rN t 4).2,())
def ayB{p2 f2 p1 f1}(c:Y31 p2 f2)(b:Y58 p1 f1):
  ahQ.F (p2,f2,p1,f1,()) () (λy=>y.1=t4):=by
 have a:ShT t4:=TF.1.sh;unfold t4 at a ⊢;dsimp only [ahQ,gm];simp (disch:=omega) only [RR,b [] false Fg (by simp),c _ a]
abbrev Y59(d:aCf->Bool)(c:aCf->lX):Prop:=∀r a b,d (r,a,b,())=true/\c (r,a,b,())=(inB a 0 65535&&inB b 0 65535&& (decide (r=1/\a=b\/r=2/\a<b)),())
def ayC{p1 f1 p2 f2 p3 f3 p5 f5 p6 f6}{i:aCn->Bool}{o:aCn->Int×Int×List Ev×List (List au)×wm}(p:Y27 p1 f1)(j:Y11 p2 f2)(v:Y8 p3 f3)(z:∀s,ShY s->i (s,())=true/\o (s,())=(s.fin,s.k,s.events,s.regs,s.x,s.y,()))(r:Y14 p5 f5)(u:Y59 p6 f6)(s:Sym)(n:Int)(e:ShY s)(A:0<=s.fin)(B:s.fin<=4):ah0.F (p1,f1,p2,f2,p3,f3,i,o,p5,f5,p6,f6,()) (s,n,()) (λy=>y=(symEnd s n,())):=by
 dsimp only [ah0,gm];simp (disch:=omega) only [RR,RB,p _ e.x,p _ e.y,j _ e.x,j _ e.y,v _ _ e.x,z s e,r _ _ e.x,u];have f:ji s.x s.y=0↔s.x=s.y:=iZ;have w:(bP s.x).2=true->inB (bP s.x).1 0 65535=true:=λh=>bF.2 (oO h).2.2
 have x:(bP s.y).2=true->inB (bP s.y).1 0 65535=true:=λh=>bF.2 (oO h).2.2
 unfold symEnd;refine⟨λh=> ?_,λh=>⟨λg=> ?_,λg=>⟨λk=> ?_,λk=>⟨λl=>⟨λm=> ?_,λm=> ?_⟩,λl=>⟨λm=> ?_,λm=> ?_⟩⟩⟩⟩⟩
 .rw [eB (by rw [eH,Bool.and_eq_false_iff];exact h)];rfl
 all_goals rw [dY (by rw [eH,h.1,h.2];simp)]
 .rw [eB g]
 all_goals rw [dY (show¬(s.fin=2/\(bP s.x).2=true) by
  rintro⟨a,b⟩;rw [decide_eq_true a,b]at g;cases g)]
 .rw [eB k]
 all_goals rw [dY (show¬(s.fin≠3/\s.fin≠4) by
  rintro⟨a,b⟩;rw [decide_eq_false a,decide_eq_false b]at k;cases k)]
 .rw [eB (by rw [<-f];exact l),dY];rintro(⟨c,d⟩ | ⟨⟨c,d⟩,t⟩)
  .have:=m.1;rw [decide_eq_true (f.2 c),decide_eq_true d]at this;cases this
  .have:=m.2;rw [c,d,w c,x d,decide_eq_true ah]at this;cases this
 .rw [eB (by rw [<-f];exact l),eB];rcases m with⟨c,d⟩ | ⟨c,_,t⟩
  .exact Or.inl ⟨f.1 c,d⟩
  .exact Or.inr ⟨c,ah⟩
 all_goals rw [dY (show¬(s.x=s.y\/(bP s.x).2=true/\(bP s.y).2=true) by
  rintro(q | ⟨c,d⟩)
  .exact l.1 (f.2 q)
  .have:=l.2;rw [c,d]at this;cases this)]
 .rw [eB m]
 .rw [dY];rintro⟨a,b⟩;rw [decide_eq_true a,decide_eq_true b]at m;cases m
variable{t:List Atom}{b:Blk}{i:Nat}{V:List (List au)}{ev:List Ev}
noncomputable def SW (t:List Atom) (b:Blk) (i:Nat):SS:=(b.ops.take i).foldl stp (s0 t)
structure At(t:List Atom)(b:Blk)(i:Nat)(ld inn:Int)(tb:List Atom)(V:List (List au))(ev:List Ev)(rg:List (List au)):Prop where
 ld:ld=(SW t b i).ld
 inn:inn=(SW t b i).inn
 tb:tb=(SW t b i).t
 V:V=(SW t b i).vals++replicate (b.ops.length-i) []
 ev:ev=(SW t b i).evs
 rg:rg=(SW t b i).regs
def At.aA5{d a:Int}{c:List Atom}{e:List (List au)}(h:At t b i d a c V ev e)(f:(SW t b i).vals.length=i)(g:i<=b.ops.length):V.length=b.ops.length:=by
 rw [h.V,eG,length_replicate,f];omega
def ac8(t:List Atom):∀(l:List IOp) (s:SS),(l.foldl stp s).evs.length<=s.evs.length+l.length
 | [],s=>Nat.le_refl _
 | o::r,s=>by
  rw [foldl_cons,fA];have b:=ac8 t r (stp s o);have a:(stp s o).evs.length<=s.evs.length+1:=by
   show(nE s o).length<=_;unfold nE;split
   .rw [eG];exact Nat.le_refl _
   .omega
  omega
theorem ajn(i:Nat)(a:i<=b.ops.length):(SW t b i).evs.length<=i:=by
 have:=ac8 t (b.ops.take i) (s0 t);rw [length_take,Nat.min_eq_left a]at this;show((b.ops.take i).foldl stp (s0 t)).evs.length<=i;have e:(s0 t).evs.length=0:=rfl;omega
def ac9(a:i<b.ops.length):SW t b (i+1)=stp (SW t b i) (b.ops.getD i default):=by
 unfold SW;rw [aaZ _ _ a,getD_lt a]
def At.next{c a:Int}{k:List Atom}{l:List (List au)}(h:At t b i c a k V ev l)(r:(SW t b i).vals.length=i)(p:i<b.ops.length){o:IOp}(m:b.ops.getD i default=o)
  {ld' ajo:Int} {tb':List Atom} {V':List (List au)} {ev':List Ev} {rg':List (List au)} (g:ld'=if o.kind=4 then c+1 else c) (d:ajo=if o.kind=6 then a+1 else a) (n:tb'=nT (SW t b i) o) (f:V'=V.set i (nV (SW t b i) o)) (j:ev'=nE (SW t b i) o) (q:rg'=nR (SW t b i) o):At t b (i+1) ld' ajo tb' V' ev' rg':=by
 have e:=ac9 (t:=t) p;rw [m]at e;refine⟨?_,?_,?_,?_,?_,?_⟩<;>rw [e]
 .rw [g,h.ld];rfl
 .rw [d,h.inn];rfl
 .exact n
 .rw [f,h.V];show _=((SW t b i).vals++ [nV (SW t b i) o])++_;rw [set_append_right _ _ ah,r,Nat.sub_self,show b.ops.length-i=(b.ops.length- (i+1))+1 by omega,replicate_succ,set_cons_zero,append_assoc];rfl
 .exact j
 .exact q
abbrev Y60(c:mF->Bool)(a:mF->lX):Prop:=∀b,b.ops.length<1000000000->c (b,())=true/\a (b,())=(bp (dB b),())
abbrev Y61(b:IOp×Unit->Bool)(a:IOp×Unit->lX):Prop:=∀o,b (o,())=true/\a (o,())=(decide (evO o),())
abbrev Y62(b:Sym×eu->Bool)(a:Sym×eu->aCn):Prop:=∀s n,ShY s->0<=s.fin->s.fin<=4->b (s,n,())=true/\a (s,n,())=(symEnd s n,())
set_option maxHeartbeats 1000000 in
theorem ayD{p1 f1 p2 f2 p3 f3 p4 f4 p5 f5 p6 f6 p7 f7 p8 f8 p9 f9 p10 f10 p11 f11}{Z:mI->Bool}{O:mI->List (List au)×mI}(U1:Y54 p1 f1)(U2:Y60 p2 f2)(z:Y61 p3 f3)(A:Y53 p4 f4)(U5:Y22 p5 f5)(U6:Y62 p6 f6)(U7:Y29 p7 f7)(U8:Y31 p8 f8)(U9:Y30 p9 f9)(D:Y57 p10 f10)(a7:Y58 p11 f11)(M:∀a:List (List au),0<a.length->a.length<1000000000->Z (a,())=true/\O (a,())=(a,a,()))(t:List Atom)(b:Blk)(ht:ShT t)(hb:b.ops.length<1000000000):ah1.F (p1,f1,p2,f2,p3,f3,p4,f4,p5,f5,p6,f6,p7,f7,p8,f8,p9,f9,p10,f10,p11,f11,Z,O,()) (t,b,()) (λy=>y=((bR t b).1,(bR t b).2,())):=by
 have b0:=ht.1;dsimp only [ah1,gm];simp (disch:=omega) only [RR,RB,U7 t ht,U2 b hb];by_cases c:aI t/\t.length<=100/\dB b
 case neg=>
  refine⟨λ_=> ?_,λh=> ?_⟩
  .unfold bR;rw [aV c];rfl
  .exact absurd ⟨aF.1 h.1.1,ah,aF.1 h.2⟩ c
 obtain⟨Q,c2,w⟩:=c;simp (disch:=omega) only [RR,aJ Q,aJ w,a7 t false Q ah];have sz:=w.sz;have a8:=w.op;have W:=w.k3;have i0:=Kg Q ah;have a0:∀j:Nat,j<=b.ops.length->SI (t.length+4) j (SW t b j):=λj hj=>by
  have:=(wh (b.ops.take j) 0 (s0 t) i0 (λo r=>W o (mem_of_mem_take r)) (by rw [length_take];omega) (by rw [length_take];omega)).1;rw [length_take,Nat.min_eq_left hj,Nat.zero_add]at this;exact this
 refine⟨λh=>absurd h ah,λ_=>⟨ah,ah,?_⟩⟩
 refine ay (λ(y:Int×Int×List IOp×Int×Int×Blk×Int×Int×List Atom×Bool×Int×Int×List (List au)×List Ev×mI)=>y.2.2.2.2.2.1=b/\y.2.2.1=b.ops/\y.2.2.2.1=b.ops.length/\y.2.2.2.2.2.2.2.2.2.1=false/\y.2.2.2.2.2.2.2.2.2.2.1=b.fin/\y.2.2.2.2.2.2.2.2.2.2.2.1=b.k/\
   0<=y.2.2.2.2.1/\y.2.2.2.2.1<=b.ops.length/\At t b y.2.2.2.2.1.toNat y.1 y.2.1 y.2.2.2.2.2.2.2.2.1 y.2.2.2.2.2.2.2.2.2.2.2.2.1 y.2.2.2.2.2.2.2.2.2.2.2.2.2.1 y.2.2.2.2.2.2.2.2.2.2.2.2.2.2.1) (λy=>(b.ops.length-y.2.2.2.2.1).toNat)
  ⟨rfl,rfl,rfl,rfl,rfl,rfl,by simp,by simp,⟨rfl,rfl,rfl,rfl,rfl,rfl⟩⟩ ?_
 rintro⟨(ld:Int),(b1:Int),(b4:List IOp),(n:Int),(i:Int),(d:Blk),(z1:Int),(z2:Int),(tb:List Atom),(fl:Bool),(fin:Int),(kk:Int),(V:List (List au)),(ev:List Ev),(rg:List (List au)),⟨⟩⟩ hI;dsimp only at hI ⊢;obtain⟨e1,e2,e3,e4,e5,e6,h1,h2,hA⟩:=hI;subst e1 e2 e3 e4 e5 e6;have hl:V.length=d.ops.length:=hA.aA5 (a0 i.toNat ah).vl ah;have l:=a0 i.toNat ah;obtain⟨a1,a2,a3,K,T,a6⟩:=hA;have tl:tb.length<1000000000:=by rw [a3];have:=l.tl;omega
 have r4:rg.length=4:=by rw [a6];exact l.r4
 have b3:ev.length<=i.toNat:=by rw [T];exact ajn i.toNat ah
 by_cases q:i<d.ops.length
 case neg=>
  have en:=w.en;have hf:=en.f;have b2:=w.pc;have a9:=w.ln;have U:i.toNat=d.ops.length:=by omega
  have eS:SW t d i.toNat=eU t d:=by unfold SW eU;rw [U,take_of_length_le (Nat.le_refl _)]
  rw [eS]at a1 a2 a3 K T a6 l;have eV:V=(eU t d).vals:=by rw [K,U,Nat.sub_self];simp
  clear K
  have pk:=Ho (b:=d) l;have eR:=wo Q c2 w;have sh:ShY (sD d (eU t d)):=by
   have i0:=Kg Q ah;have hs:=Qx d.ops 0 (s0 t) i0 W ah ah ⟨by simp [s0],λe he=>absurd he (by simp [s0])⟩;exact⟨⟨by have:=hs.1;show(d.ops.foldl stp (s0 t)).evs.length<_;omega,hs.2⟩,l.regs,pk.1.sh,pk.2.sh⟩
  have st:=l.tok.sh;obtain⟨v,u⟩:=U6 (sD d (eU t d)) (d.pc+d.len) sh (by show 0<=d.fin;omega) hf.2;subst a1 a2 a3 T a6 eV;have x1:=en.x1;have y1:=en.y1;have sl:=l.vl;have E:sD d (eU t d)=⟨(eU t d).evs,(eU t d).regs,d.fin,if d.fin=1 then []else(((eU t d).vals).getD (d.x).toNat default),if 3<=d.fin then(((eU t d).vals).getD (d.y).toNat default)else [],d.k⟩:=rfl;rw [E]at v u;rcases(by omega:d.fin=1\/d.fin=2\/3<=d.fin)with c | c | c
  .have F:¬3<=d.fin:=by omega
   rw [eB c,dY F]at v u;simp (disch:=omega) only [RR,RB,q,U1,decide_eq_false F,c,ne_eq,not_true_eq_false,decide_false,U8 _ st];rw [c]at v u;rw [eR,E,eB c,dY F,c];exact⟨λh=>absurd h ah,λ_=>⟨v,by rw [u]⟩⟩
  .have n1:d.fin≠1:=by omega
   have F:¬3<=d.fin:=by omega
   obtain⟨g,G,_⟩:=x1 n1;rw [dY n1,dY F]at v u;simp (disch:=omega) only [RR,RB,q,U1,decide_eq_true n1,decide_eq_false F,U8 _ st];rw [eR,E,dY n1,dY F];exact⟨g,ah,g,ah,v,by rw [u]⟩
  .have n1:d.fin≠1:=by omega
   obtain⟨g,G,_⟩:=x1 n1;obtain⟨J,w2,_⟩:=y1 c;rw [dY n1,eB c]at v u;simp (disch:=omega) only [RR,RB,q,U1,decide_eq_true n1,decide_eq_true c,U8 _ st];rw [eR,E,dY n1,eB c];exact⟨g,ah,g,ah,J,ah,J,ah,v,by rw [u]⟩
 have f:=a8 i h1 q;have nxt:=λ{ld' ajo:Int} {tb':List Atom} {V':List (List au)} {ev':List Ev} {rg':List (List au)}=>At.next (t:=t) (b:=d) (i:=i.toNat) (o:=((d.ops).getD (i).toNat default)) ⟨a1,a2,a3,K,T,a6⟩ l.vl ah rfl (ld':=ld') (ajo:=ajo) (tb':=tb') (V':=V') (ev':=ev') (rg':=rg')
 have x:(i+1).toNat=i.toNat+1:=by omega
 have vx:∀j:Int,0<=j->j<i->((V).getD (j).toNat default)=(((SW t d i.toNat).vals).getD (j).toNat default):=λj j1 j2=>by
  have:=l.vl;rw [K,getD_lt (by rw [eG];omega),getD_lt ah,getElem_append_left]
 have Y:hX ((d.ops).getD (i).toNat default)->((V).getD ((((d.ops).getD (i).toNat default)).x).toNat default)=xOf (SW t d i.toNat) ((d.ops).getD (i).toNat default):=λh=>by
  unfold xOf;rw [eB h];exact vx _ (f.x1 h).1 (f.x1 h).2.1
 have ey:hY ((d.ops).getD (i).toNat default)->((V).getD ((((d.ops).getD (i).toNat default)).y).toNat default)=yOf (SW t d i.toNat) ((d.ops).getD (i).toNat default):=λh=>by
  unfold yOf;rw [eB h];exact vx _ (f.y1 h).1 (f.y1 h).2.1
 have v0:V.set i.toNat []=V:=by
  have:=l.vl;rw [K,set_append_right _ _ ah,this,Nat.sub_self,show d.ops.length-i.toNat=(d.ops.length- (i.toNat+1))+1 by omega,replicate_succ,set_cons_zero]
 obtain⟨sn,so⟩:=Ch (o:=((d.ops).getD (i).toNat default)) l f.k3 ah ah;have gl:=l.ld;have gi:=l.inn;have P:=(l.x ((d.ops).getD (i).toNat default)).1.sh;have S:=(l.y ((d.ops).getD (i).toNat default)).1.sh;generalize hs:SW t d i.toNat=s at*;generalize r:((d.ops).getD (i).toNat default)=o at*;have L:=f.kd;subst a1 a2 a3 T a6;have H:o.kind≠4->s.ld=if o.kind=4 then s.ld+1 else s.ld:=λh=>by rw [dY h]
 have C:o.kind≠6->s.inn=if o.kind=6 then s.inn+1 else s.inn:=λh=>by rw [dY h]
 have R:o.kind≠3->o.kind≠4->o.kind≠6->s.t=nT s o:=λh3 h4 h6=>by unfold nT;rw [dY h3,dY ah]
 have B:o.kind≠8->s.regs=nR s o:=λh=>by unfold nR;rw [dY h]
 have E0:¬evO o->s.evs=nE s o:=λh=>by unfold nE;rw [dY h]
 have V0:o.kind=5\/o.kind=7\/o.kind=8->V=V.set i.toNat (nV s o):=λh=>by
  rw [show nV s o=[] by unfold nV;rw [dY ah,dY ah,dY ah,dY ah],v0]
 have P0:∀L k,0<=(aU s.t ⟨L,k,[],[]⟩).2->f10 (L,k,s.t,false,())=(fJ (aU s.t ⟨L,k,[],[]⟩).2,(aU s.t ⟨L,k,[],[]⟩).1,false,()):=λL k h=>by
  rw [(D _ _ _ _ tl).2,dY ah]
 have y0:¬hY o->yOf s o=[]:=λh=>by unfold yOf;rw [dY h]
 have x0:¬hX o->xOf s o=[]:=λh=>by unfold xOf;rw [dY h]
 rcases(by omega:o.kind=1\/o.kind=2\/o.kind=3\/o.kind=4\/o.kind=5\/o.kind=6\/o.kind=7\/o.kind=8)with c | c | c | c | c | c | c | c
 .have dX:decide (hX o)=false:=decide_eq_false (by unfold hX;omega);have m:decide (hY o)=false:=decide_eq_false (by unfold hY;omega);have p:decide (evO o)=false:=decide_eq_false (by unfold evO;omega);have N:At t d (i.toNat+1) s.ld s.inn s.t (V.set i.toNat (dV o.k)) s.evs s.regs:=nxt (H ah) (C ah) (R ah ah ah) (by unfold nV;rw [eB c]) (E0 (by unfold evO;omega)) (B ah);simp (disch:=omega) only [RR,RB,r,q,A,z,dX,m,p,c,Int.reduceEq,fA,fE,U5]
  repeat' apply And.intro
  all_goals first | omega | (rw [x];exact N)
 .have dX:decide (hX o)=false:=decide_eq_false (by unfold hX;omega);have m:decide (hY o)=false:=decide_eq_false (by unfold hY;omega);have p:decide (evO o)=false:=decide_eq_false (by unfold evO;omega);have k2:=f.k2 (Or.inl c);have N:At t d (i.toNat+1) s.ld s.inn s.t (V.set i.toNat ((s.regs).getD (o.k).toNat default)) s.evs s.regs:=nxt (H ah) (C ah) (R ah ah ah) (by unfold nV;rw [dY ah,eB c]) (E0 (by unfold evO;omega)) (B ah);simp (disch:=omega) only [RR,RB,r,q,A,z,dX,m,p,c,Int.reduceEq,fA,fE,r4]
  repeat' apply And.intro
  all_goals first | omega | (rw [x];exact N)
 .have dX:decide (hX o)=true:=decide_eq_true (by unfold hX;omega);have m:decide (hY o)=true:=decide_eq_true (by unfold hY;omega);have p:decide (evO o)=false:=decide_eq_false (by unfold evO;omega);have g:=f.x1 (by unfold hX;omega);have G:=f.y1 (by unfold hY;omega);have u1:=g.2.1;have u2:=G.2.1;have J:=g.1;have w2:=G.1;obtain⟨d1,d2,d3⟩:=(U9 s.t o.k _ _ tl P S).2;have d4:=(so.d c).ok;have N:At t d (i.toNat+1) s.ld s.inn (tDo s.t o.k (xOf s o) (yOf s o)).1 (V.set i.toNat (tDo s.t o.k (xOf s o) (yOf s o)).2) s.evs s.regs:=nxt (H ah) (C ah) (by unfold nT;rw [eB c]) (by unfold nV;rw [dY ah,dY ah,eB c]) (E0 (by unfold evO;omega)) (B ah);simp (disch:=omega) only [RR,RB,r,q,A,z,dX,m,p,c,Int.reduceEq,fA,fE,Y (by unfold hX;omega),ey (by unfold hY;omega),(U9 s.t o.k _ _ tl P S).1,d1,d2,d3,d4]
  repeat' apply And.intro
  all_goals first | omega | (rw [x];exact N)
 .have dX:decide (hX o)=true:=decide_eq_true (by unfold hX;omega);have m:decide (hY o)=false:=decide_eq_false (by unfold hY;omega);have p:decide (evO o)=true:=decide_eq_true (by unfold evO;omega);have g:=f.x1 (by unfold hX;omega);have u1:=g.2.1;have J:=g.1;have I:aOf s o=⟨2,s.ld,[],[]⟩:=by unfold aOf;rw [eB c]
  have X:=so.p (Or.inl c);rw [I]at X;have N:At t d (i.toNat+1) (s.ld+1) s.inn (aU s.t ⟨2,s.ld,[],[]⟩).1 (V.set i.toNat (fJ (aU s.t ⟨2,s.ld,[],[]⟩).2)) (s.evs++ [⟨4,o.at_,xOf s o,[],s.regs⟩]) s.regs:=nxt (by rw [eB c]) (C ah) (by unfold nT;rw [dY ah,eB (Or.inl c),I]) (by unfold nV;rw [dY ah,dY ah,dY ah,eB (Or.inl c),I]) (by unfold nE;rw [eB (by unfold evO;omega),eB (Or.inl c),c,y0 (by unfold hY;omega)]) (B ah);simp (disch:=omega) only [RR,RB,r,q,A,z,dX,m,p,c,Int.reduceEq,fA,fE,Y (by unfold hX;omega),M s.regs ah ah,(D 2 s.ld s.t false tl).1,P0 2 s.ld X]
  repeat' apply And.intro
  all_goals first | omega | (rw [x];exact N)
 .have dX:decide (hX o)=true:=decide_eq_true (by unfold hX;omega);have m:decide (hY o)=true:=decide_eq_true (by unfold hY;omega);have p:decide (evO o)=true:=decide_eq_true (by unfold evO;omega);have g:=f.x1 (by unfold hX;omega);have G:=f.y1 (by unfold hY;omega);have u1:=g.2.1;have u2:=G.2.1;have J:=g.1;have w2:=G.1;have N:At t d (i.toNat+1) s.ld s.inn s.t V (s.evs++ [⟨5,o.at_,xOf s o,yOf s o,s.regs⟩]) s.regs:=nxt (H ah) (C ah) (R ah ah ah) (V0 ah) (by unfold nE;rw [eB (by unfold evO;omega),eB (Or.inr c),c]) (B ah);simp (disch:=omega) only [RR,RB,r,q,A,z,dX,m,p,c,Int.reduceEq,fA,fE,Y (by unfold hX;omega),ey (by unfold hY;omega),M s.regs ah ah]
  repeat' apply And.intro
  all_goals first | omega | (rw [x];exact N)
 .have dX:decide (hX o)=false:=decide_eq_false (by unfold hX;omega);have m:decide (hY o)=false:=decide_eq_false (by unfold hY;omega);have p:decide (evO o)=true:=decide_eq_true (by unfold evO;omega);have I:aOf s o=⟨3,s.inn,[],[]⟩:=by unfold aOf;rw [dY ah]
  have X:=so.p (Or.inr c);rw [I]at X;have N:At t d (i.toNat+1) s.ld (s.inn+1) (aU s.t ⟨3,s.inn,[],[]⟩).1 (V.set i.toNat (fJ (aU s.t ⟨3,s.inn,[],[]⟩).2)) (s.evs++ [⟨6,o.at_,[],[],[]⟩]) s.regs:=nxt (H ah) (by rw [eB c]) (by unfold nT;rw [dY ah,eB (Or.inr c),I]) (by unfold nV;rw [dY ah,dY ah,dY ah,eB (Or.inr c),I]) (by unfold nE;rw [eB (by unfold evO;omega),dY ah,c,x0 (by unfold hX;omega),y0 (by unfold hY;omega)]) (B ah);simp (disch:=omega) only [RR,RB,r,q,A,z,dX,m,p,c,Int.reduceEq,fA,fE,(D 3 s.inn s.t false tl).1,P0 3 s.inn X]
  repeat' apply And.intro
  all_goals first | omega | (rw [x];exact N)
 .have dX:decide (hX o)=true:=decide_eq_true (by unfold hX;omega);have m:decide (hY o)=false:=decide_eq_false (by unfold hY;omega);have p:decide (evO o)=true:=decide_eq_true (by unfold evO;omega);have g:=f.x1 (by unfold hX;omega);have u1:=g.2.1;have J:=g.1;have N:At t d (i.toNat+1) s.ld s.inn s.t V (s.evs++ [⟨7,o.at_,xOf s o,[],[]⟩]) s.regs:=nxt (H ah) (C ah) (R ah ah ah) (V0 ah) (by unfold nE;rw [eB (by unfold evO;omega),dY ah,c,y0 (by unfold hY;omega)]) (B ah);simp (disch:=omega) only [RR,RB,r,q,A,z,dX,m,p,c,Int.reduceEq,fA,fE,Y (by unfold hX;omega)]
  repeat' apply And.intro
  all_goals first | omega | (rw [x];exact N)
 .have dX:decide (hX o)=true:=decide_eq_true (by unfold hX;omega);have m:decide (hY o)=false:=decide_eq_false (by unfold hY;omega);have p:decide (evO o)=false:=decide_eq_false (by unfold evO;omega);have g:=f.x1 (by unfold hX;omega);have u1:=g.2.1;have J:=g.1;have k2:=f.k2 (Or.inr c);have N:At t d (i.toNat+1) s.ld s.inn s.t V s.evs (s.regs.set o.k.toNat (xOf s o)):=nxt (H ah) (C ah) (R ah ah ah) (V0 ah) (E0 (by unfold evO;omega)) (by unfold nR;rw [eB c]);simp (disch:=omega) only [RR,RB,r,q,A,z,dX,m,p,c,Int.reduceEq,fA,fE,Y (by unfold hX;omega),r4]
  repeat' apply And.intro
  all_goals first | omega | (rw [x];exact N)
end Go.TX.F
namespace Go.TX.F
open Go Go.AE Go.TX List
abbrev Y63(a:aCi->Bool)(b:aCi->lX):Prop:=∀i,a (i,())=true
def KB(l:List Ins):Prop:=∀i∈l,i.k<1000
variable{b:List Int}
structure InD(m:Int)(b:List Int)(p:Int)(y:Int×Int×Int×He):Prop where
 b:y.2.2.2.2.1=b
 lo:p<=y.2.2.2.2.2.1
 hi:y.2.2.2.2.2.1<=p+m
 k:0<=y.2.2.2.1/\y.2.2.2.1<=255
abbrev asR:List Int->Prop
 | []=>True
 | x::l=>(0<=x/\x<=255)/\asR l
def TM:∀(l:List Int) (n:Nat),asR l->0<=l.getD n default/\l.getD n default<=255
 | [],n,_=>by simp only [getD_nil];decide
 | x::l,0,h=>h.1
 | x::l,n+1,h=>TM l n h.2
def pkR{e:He->He}(f:Bt b)(a:∀n b p,Bt b->0<=p->p<1000000000->Pk n b p (e (n,b,p,()))):
  (∀n p,0<=p->p<1000000000->(e (n,b,p,())).2.1=b)/\(∀n p,0<=p->p<1000000000->(e (n,b,p,())).2.2.1=p+1)/\
  (∀n p,0<=p->p<1000000000->(0<=(e (n,b,p,())).1)=True)/\(∀n p k,0<=p->p<1000000000->n<=k->0<k->((e (n,b,p,())).1<k)=True)/\
  (∀n p k,0<=p->p<1000000000->n<=k+1->0<=k->((e (n,b,p,())).1<=k)=True):=
 ⟨λn p d c=>(a n b p f d c).1,λn p d c=>(a n b p f d c).2.1,λn p d c=>eq_true (a n b p f d c).2.2.1,
  λn p k d c h g=>eq_true (by have:=(a n b p f d c).2.2;omega),λn p k d c h g=>eq_true (by have:=(a n b p f d c).2.2;omega)⟩
def pkS{a:He->Bool}{c:He->He}(g:Bt b)(U:∀n b p,Bt b->0<=p->p<1000000000->a (n,b,p,())=true/\Pk n b p (c (n,b,p,()))):=pkR g λn b p e d f=>(U n b p e d f).2
def asS{p1 f1}(a:Y38 p1 f1)(b:List Int)(p:Int)(e:Bt b)(d:0<=p)(c:p<900000000):YW.F (p1,f1,()) (b,p,()) (λy=>InD 20 b p y):=by
 have R:=pkS e a;have P:=λn p d c=>(a n b p e d c).1
 dsimp only [YW,gm];simp (disch:=omega) only [RR,R,P,fA,fE]
 repeat' (first | (refine⟨?_,?_⟩) | intro _)
 all_goals try omega
 all_goals refine⟨rfl,by dsimp only;omega,by dsimp only;omega,?_⟩
 all_goals dsimp only
 all_goals first | omega | (refine TM _ _ ?_;simp (disch:=omega) only [asR,R,Int.reduceLE,and_self,true_and,and_true]) | (simp (disch:=omega) only [R,Int.reduceLE,and_self,true_and,and_true])
abbrev Y70(c:lT->Bool)(a:lT->Int×Int×Int×He):Prop:=∀b p,Bt b->0<=p->p<900000000->c (b,p,())=true/\InD 20 b p (a (b,p,()))
def asT{p1 f1 p2 f2 p3 f3}(d:Y70 p1 f1)(f:Y38 p2 f2)(h:Y63 p3 f3)(b:List Int)(p:Int)(c:Bt b)(a:0<=p)(e:p<800000000):YX.F (p1,f1,p2,f2,p3,f3,()) (b,p,()) (λy=>InD 30 b p y):=by
 obtain⟨i,j,k,g⟩:=(d b p c a ah).2;have R:=pkS c f;have P:=λn p a e=>(f n b p c a e).1
 dsimp only [YX,gm];simp (disch:=omega) only [RR,(d b p c a ah).1,h,i,R,P];refine⟨λ_=>⟨rfl,by dsimp only;omega,by dsimp only;omega,?_⟩,λ_=>⟨rfl,j,by dsimp only;omega,g⟩⟩;dsimp only;simp (disch:=omega) only [R,Int.reduceLE,and_self]
structure LiD(b:List Int)(p:Int)(y:Xn):Prop where
 b:y.1=b
 lo:p<=y.2.1
 hi:y.2.1<=p+1000
 len:(y.2.2.1.length:Int)<=20
 k:KB y.2.2.1
 l1:1<=y.2.2.1.length
def KB.app{l:List Ins}{i:Ins}(h:KB l)(b:i.k<=255):KB (l++ [i]):=λx a=>by
 rw [mem_append,mem_singleton]at a;rcases a with a | rfl
 .exact h x a
 .omega
abbrev Y71(c:lT->Bool)(a:lT->Int×Int×Int×He):Prop:=∀b p,Bt b->0<=p->p<800000000->c (b,p,())=true/\InD 30 b p (a (b,p,()))
def asU{p1 f1 p2 f2}(h:Y71 p1 f1)(f:Y38 p2 f2)(b:List Int)(p:Int)(a:Bt b)(e:0<=p)(i:p<700000000):YZ.F (p1,f1,p2,f2,()) (b,p,()) (λy=>LiD b p y):=by
 obtain⟨t,m,u,F⟩:=(f 8 b p a e ah).2;dsimp only [YZ,gm];simp (disch:=omega) only [RR,(f 8 b p a e ah).1,t,m]
 refine ay (λ(y:Int×Xn)=>0<=y.1/\y.1<=8/\y.2.1=b/\p<=y.2.2.1/\y.2.2.1+40*y.1<=p+400/\(y.2.2.2.1.length:Int)+y.1<=8/\KB y.2.2.2.1) (λy=>y.1.toNat)
  ⟨u,by dsimp only;omega,rfl,by dsimp only;omega,by dsimp only;omega,by dsimp only [length_nil];omega,λx s=>by cases s⟩ ?_
 rintro⟨(k:Int),(d:List Int),(q:Int),(l:List Ins),⟨⟩⟩ hI;dsimp only at hI ⊢;obtain⟨w,D,rfl,k3,G,A,g⟩:=hI;have R:=pkS a f;have P:=λn p e i=>(f n d p a e i).1
 obtain⟨v,E,B,o⟩:=(h d q a ah ah).2;obtain⟨j,C,z,r⟩:=(h d (q+1) a ah ah).2;simp (disch:=omega) only [RR,RB,(h d q a ah ah).1,(h d (q+1) a ah ah).1,v,j,R,P,fA,fE,eG];refine⟨λc=>⟨ah,⟨ah,ah,ah,ah,ah,g.app o.2⟩,ah⟩,λc=>⟨λ_=>⟨ah,rfl,by dsimp only;omega,by dsimp only;omega,?_,?_,?_⟩,λ_=>⟨λ_=>⟨ah,rfl,by dsimp only;omega,by dsimp only;omega,?_,?_,?_⟩,λ_=>⟨ah,rfl,by dsimp only;omega,by dsimp only;omega,?_,?_,?_⟩⟩⟩⟩
 .dsimp only;rw [eG];simp only [fA,fE];omega
 .refine g.app ?_;dsimp only;simp (disch:=omega) only [R]
 .dsimp only;rw [eG];simp only [fA,fE];omega
 .dsimp only;rw [eG];simp only [fA,fE];omega
 .exact g.app (by dsimp only;omega)
 .dsimp only;rw [eG];simp only [fA,fE];omega
 .dsimp only;rw [eG];simp only [fA,fE];omega
 .exact g.app r.2
 .dsimp only;rw [eG];simp only [fA,fE];omega
end Go.TX.F
namespace Go.TX.F
open Go Go.AE Go.TX List
variable{α:Type}{k:Nat}
def asV(b:Blk)(a:b.ops.length<1000000):X5.F () (b,()) (λy=>y=(b.pc,b.len,b.fin,b.x,b.y,b.k,b.ops,())):=by
 dsimp only [X5,gm];simp (disch:=omega) only [RR,RB,nil_append,fE];omega
def kn(a:List IOp)(k:Int):Int×Bool:=if 0<=k/\k<a.length/\(((a).getD (k).toNat default)).kind=1 then((((a).getD (k).toNat default)).k,true)else(0,false)
abbrev bk7(b:Blk):bf:=(b.pc,b.len,b.fin,b.x,b.y,b.k,b.ops,())
structure FE(b:Blk):Prop where
 f:1<=b.fin/\b.fin<=4
 x:b.fin≠1->0<=b.x/\b.x<b.ops.length
 y:3<=b.fin->0<=b.y/\b.y<b.ops.length
 y0:b.fin<=2->b.y=0
 p:0<=b.pc/\b.pc<=100/\0<=b.len/\b.len<=100
def asW(a:List IOp)(k:Int):Yx.F () (a,k,()) (λy=>y=((kn a k).1,(kn a k).2,())):=by
 dsimp only [Yx,gm];simp (disch:=omega) only [RR,RB]
 grind [kn]
def asX(b:Blk)(k:Int):Yy.F () (b,k,()) (λy=>y=(b.pc,b.len,b.ops,1,0,0,k,())):=by
 dsimp only [Yy,gm];simp (disch:=omega) only [RR,RB]
abbrev Y72(c:List IOp×eu->Bool)(b:List IOp×eu->Int×lX):Prop:=∀a k,c (a,k,())=true/\b (a,k,())=((kn a k).1,(kn a k).2,())
theorem asY{p2 f2}{m:Blk×eu->Bool}{j:Blk×eu->Int×Int×List IOp×Int×aCf}(w:∀b k,m (b,k,())=true/\j (b,k,())=(b.pc,b.len,b.ops,1,0,0,k,()))(u:Y72 p2 f2)(b:Blk)(h:FE b):Yz.F (m,j,p2,f2,()) (b,()) (λy=>y=(fcB b b.ops,())):=by
 have z:=h.p;have A:=h.f;have r:b.fin≠1->kn b.ops b.x=if(((b.ops).getD (b.x).toNat default)).kind=1 then((((b.ops).getD (b.x).toNat default)).k,true)else(0,false):=λc=>by
  have:=h.x c
  grind [kn]
 have v:3<=b.fin->kn b.ops b.y=if(((b.ops).getD (b.y).toNat default)).kind=1 then((((b.ops).getD (b.y).toNat default)).k,true)else(0,false):=λc=>by
  have:=h.y c
  grind [kn]
 have B:=h.y0;have a:∀p l o f x y k,Co.mk .blk (p,l,o,f,x,y,k,())=Blk.mk p l o f x y k:=λ_ _ _ _ _ _ _=>rfl
 dsimp only [Yz,gm];simp (disch:=omega) only [RR,RB,w,u,a,Bool.and_eq_false_iff];by_cases s:b.fin=1
 .have e:fcB b b.ops=b:=by unfold fcB;rw [dY ah,dY ah]
  simp_all
 .rw [r s];by_cases t:b.fin=2
  .by_cases d:(((b.ops).getD (b.x).toNat default)).kind=1
   .grind [fcB,default,absurd]
   .have e:fcB b b.ops=b:=by unfold fcB;rw [dY (λg=>d g.2),dY ah]
    simp_all
  .rw [v ah];refine⟨λh=>absurd h.1 t,λ_=> ?_⟩;by_cases d:(((b.ops).getD (b.x).toNat default)).kind=1/\(((b.ops).getD (b.y).toNat default)).kind=1
   .grind [fcB,default,Bool.true_eq_false,Prod.mk.injEq,Blk.mk.injEq]
   .have e:fcB b b.ops=b:=by unfold fcB;rw [dY ah,dY (λg=>d g.2)]
    rw [e];have n:¬((if(((b.ops).getD (b.x).toNat default)).kind=1 then((((b.ops).getD (b.x).toNat default)).k,true)else((0:Int),false)).2=true/\(if(((b.ops).getD (b.y).toNat default)).kind=1 then((((b.ops).getD (b.y).toNat default)).k,true)else((0:Int),false)).2=true):=λ⟨q,i⟩=>by
     split at q
     .split at i
      .exact d ⟨by assumption,by assumption⟩
      .cases i
     .cases q
    exact⟨λh=>absurd ⟨h.1.1.2,h.1.2⟩ n,λ_=>⟨λh=>absurd ⟨h.1.1.2,h.1.2⟩ n,λ_=>⟨λh=>absurd ⟨h.1.2,h.2⟩ n,λ_=>rfl⟩⟩⟩
def asZ{p1 f1}(e:Y1 p1 f1)(o:IOp)(al:List Int)(hk:1<=o.kind/\o.kind<=8)(b:hX o->0<=o.x/\o.x< (al.length:Int))(a:hY o->0<=o.y/\o.y< (al.length:Int)):Yp.F (p1,f1,()) (o,al,()) (λy=>y=(ren al o,())):=by
 dsimp only [Yp,gm];simp (disch:=omega) only [RR,RB,e,bF,jJ];have X:((3<=o.kind/\o.kind<=5)\/o.kind=7)\/o.kind=8->hX o:=λc=>by unfold hX;omega
 have f:(¬(3<=o.kind/\o.kind<=5)/\¬o.kind=7)/\¬o.kind=8->¬hX o:=λc g=>by unfold hX at g;omega
 unfold ren;refine⟨λc=>⟨(b (X c)).1,(b (X c)).2,λd=>⟨(a d).1,(a d).2,?_⟩,λd=> ?_⟩,λc=>⟨λd=>⟨(a d).1,(a d).2,?_⟩,λd=> ?_⟩⟩
 .grind
 .grind
 all_goals simp_all [dY,eB,hY]
def as0(a:List IOp)(k:Int)(f:0<=k)(e:k<a.length)(c:(a.length:Int)<1000000):Yv.F () (a,k,()) (λy=>y=(pF (a.drop (k.toNat+1)) (((a).getD (k).toNat default)).k,())):=by
 dsimp only [Yv,gm];simp (disch:=omega) only [RR,RB];refine ay (λ(y:aCu)=>y.1=a/\y.2.1=k/\0<=y.2.2.1/\y.2.2.1<=a.length/\pF (a.drop (k.toNat+1)) (((a).getD (k).toNat default)).k=pF (a.drop y.2.2.1.toNat) (((a).getD (k).toNat default)).k) (λy=>((a.length:Int)-y.2.2.1).toNat) ⟨rfl,rfl,by dsimp only;omega,by dsimp only;omega,by dsimp only;rw [show(k+1).toNat=k.toNat+1 by omega]⟩ ?_;rintro⟨(l:List IOp),(h:Int),(j:Int),⟨⟩⟩ hI;dsimp only at hI ⊢;obtain⟨rfl,rfl,g,d,b⟩:=hI;rw [b];simp (disch:=omega) only [RR,RB,Bool.and_eq_false_iff]
 grind [pF,default,drop_eq_getElem_cons,Ki,getD_lt,drop_of_length_le]
abbrev Y73(c:mF->Bool)(a:mF->mF):Prop:=∀b,b.ops.length<1000000->c (b,())=true/\a (b,())=(gB b,())
abbrev Y74(c:mF->Bool)(a:mF->bf):Prop:=∀b,b.ops.length<1000000->c (b,())=true/\a (b,())=bk7 (fC b)
abbrev Y75(c:mF->Bool)(a:mF->bf):Prop:=∀b,b.ops.length<1000000->c (b,())=true/\a (b,())=bk7 (iW b)
abbrev Y76(c:mF->Bool)(a:mF->bf):Prop:=∀b,b.ops.length<1000000->c (b,())=true/\a (b,())=bk7 (kP b)
theorem as1{p1 f1 p2 f2 p3 f3 p4 f4}(j:Y73 p1 f1)(k:Y74 p2 f2)(d:Y75 p3 f3)(i:Y76 p4 f4)(b:Blk)(h:b.ops.length<1000000):YB.F (p1,f1,p2,f2,p3,f3,p4,f4,()) (b,()) (λy=>y=bk7 (zf b)):=by
 have g:(fC b).ops.length<1000000:=Nat.lt_of_le_of_lt (wC b) h;have e:=Nat.lt_of_le_of_lt (ze (fC b)) g;have f:=Nat.lt_of_le_of_lt (wB (gB (fC b))) e;have l:=Nat.lt_of_le_of_lt (Ck (iW (gB (fC b)))) f;have a:∀c:Blk,Co.mk .blk (c.pc,c.len,c.ops,c.fin,c.x,c.y,c.k,())=c:=λ_=>rfl
 dsimp only [YB,gm];simp (disch:=omega) only [RR,k b h,a,j _ g,d _ e,i _ f,d _ l];rfl
def Qz{d:α}{f l:List α}(a:f.length=k)(h:k<l.length):(f++l.drop k).getD k d=l.getD k d:=by grind
def ajp{d:α}{f l:List α}{k j:Nat}(a:f.length=k)(h:j<k):(f++l.drop k).getD j d=f.getD j d:=by grind
def Ar{x:α}{f l:List α}(a:f.length=k)(h:k<l.length):(f++l.drop k).set k x=(f++ [x])++l.drop (k+1):=by
 rw [set_append_right _ _ ah,a,Nat.sub_self,drop_eq_getElem_cons h,set_cons_zero,append_assoc];rfl
def Kj{d:α}{f l:List α}(h:k<l.length):f++l.drop k=(f++ [l.getD k d])++l.drop (k+1):=by simp_all
def Au{f l:List α}(a:f.length=k)(h:k<=l.length):(f++l.drop k).length=l.length:=by simp_all
def dB.fe{b:Blk}(ok:dB b){f:List IOp}(h:f.length=b.ops.length):FE ⟨b.pc,b.len,f,b.fin,b.x,b.y,b.k⟩:=by
 have a:=ok.en;have d:=ok.pc;have e:=ok.ln;exact⟨a.f,λc=>⟨(a.x1 c).1,by dsimp only;rw [h];exact(a.x1 c).2.1⟩,λc=>⟨(a.y1 c).1,by dsimp only;rw [h];exact(a.y1 c).2.1⟩,a.y0,by dsimp only;omega⟩
abbrev Y77(c:mF->Bool)(a:mF->bf):Prop:=∀b,b.ops.length<1000000->c (b,())=true/\a (b,())=(b.pc,b.len,b.fin,b.x,b.y,b.k,b.ops,())
theorem as2{p1 f1 p2 f2 p4 f4 p5 f5}{r:mF->Bool}{u:mF->mF}(G:Y60 p1 f1)(C:Y24 p2 f2)(t:∀b,FE b->r (b,())=true/\u (b,())=(fcB b b.ops,()))(F:Y72 p4 f4)(A:Y77 p5 f5)(b:Blk)(w:b.ops.length<1000000):YA.F (p1,f1,p2,f2,r,u,p4,f4,p5,f5,()) (b,()) (λy=>y=(gB b,())):=by
 have j:∀p l o f x y k,Co.mk .blk (p,l,o,f,x,y,k,())=Blk.mk p l o f x y k:=λ_ _ _ _ _ _ _=>rfl
 dsimp only [YA,gm];simp (disch:=omega) only [RR,RB,G b ah,A b w,j];refine⟨λh=>by unfold gB;rw [h,dY (by decide)];rfl,λh=> ?_⟩;have ok:=aF.1 h;rw [DC ok];refine ay (λ(y:aCv)=>0<=y.1/\y.1<=b.ops.length/\y.2.2.2.2.2.2.2=(b.pc,b.len,b.fin,b.x,b.y,b.k,fc b.ops y.1.toNat++b.ops.drop y.1.toNat,())) (λy=>((b.ops.length:Int)-y.1).toNat) ⟨by dsimp only;omega,by dsimp only;omega,rfl⟩ ?_;rintro⟨(k:Int),u1,u2,u3,u4,u5,u6,b1,b2,b3,b4,b5,b6,(B:List IOp),⟨⟩⟩ hI;dsimp only at hI ⊢;simp only [Prod.mk.injEq,and_true]at hI;obtain⟨i,K,rfl,rfl,rfl,rfl,rfl,rfl,rfl⟩:=hI;have m:=rD b.ops k.toNat;have H:=Au (l:=b.ops) m ah;simp (disch:=omega) only [RR,RB,F,C,H,j];refine⟨λh=> ?_,λh=> ?_⟩
 .have o:=ok.op k i h;have z:=Qz (d:=default) (l:=b.ops) m ah;have n:∀x:Int,Vl b.ops x k->kn (fc b.ops k.toNat++b.ops.drop k.toNat) x=if((((fc b.ops k.toNat)).getD (x).toNat default)).kind=1 then(((((fc b.ops k.toNat)).getD (x).toNat default)).k,true)else(0,false):=λx v=>by
   have I:=v.1;have L:=v.2.1;unfold kn;rw [ajp m ah];simp only [show 0<=x/\x< ((fc b.ops k.toNat++b.ops.drop k.toNat).length:Int)from⟨I,ah⟩,true_and]
  have J:fc b.ops (k+1).toNat=fc b.ops k.toNat++ [fcO (fc b.ops k.toNat) ((b.ops).getD (k).toNat default)]:=by rw [show(k+1).toNat=k.toNat+1 by omega];rfl
  rw [z];have hk:=Kj (d:=default) (f:=fc b.ops k.toNat) (l:=b.ops) (k:=k.toNat) ah;have D:=λx=>Ar (x:=x) (l:=b.ops) m ah
  rw [J,show(k+1).toNat=k.toNat+1 by omega];generalize ((b.ops).getD (k).toNat default)=q at o hk ⊢;have vx:=λc=>o.x1 c
  have vy:=λc=>o.y1 c
  refine⟨i,h,i,h,λc=>⟨i,h,i,h,⟨ah,ah,?_⟩,ah⟩,λc=>⟨⟨ah,ah,?_⟩,ah⟩⟩
  .have k1:=n _ (o.x1 (by unfold hX;omega));have E:=n _ (o.y1 (Or.inl c.1.1));rw [k1,E]at c ⊢;by_cases g:((((fc b.ops k.toNat)).getD (q.x).toNat default)).kind=1
   .by_cases a:((((fc b.ops k.toNat)).getD (q.y).toNat default)).kind=1
    .rw [eB g,eB a,D];have e:fcO (fc b.ops k.toNat) q=⟨1,0,0,wdo q.k ((((fc b.ops k.toNat)).getD (q.x).toNat default)).k ((((fc b.ops k.toNat)).getD (q.y).toNat default)).k,0⟩:=by unfold fcO;rw [eB ⟨c.1.1,g,a⟩]
     rw [e]
    .rw [dY a]at c;exact absurd c.2 (by decide)
   .rw [dY g]at c;exact absurd c.1.2 (by decide)
  .have e:fcO (fc b.ops k.toNat) q=q:=by
    unfold fcO;refine dY ?_;rintro⟨s,g,a⟩;rw [n _ (o.x1 (by unfold hX;omega)),n _ (o.y1 (Or.inl s)),eB g,eB a,decide_eq_true s]at c;cases c
   rw [e,hk]
 .have e:fc b.ops k.toNat++b.ops.drop k.toNat=fc b.ops b.ops.length:=by rw [drop_of_length_le ah,append_nil,show k.toNat=b.ops.length by omega]
  rw [e];have fe:=ok.fe (rD b.ops b.ops.length);rw [(t _ fe).2];exact⟨(t _ fe).1,rfl⟩
def ajq{a b:List Bool}(h:a.length=b.length)(g:∀t:Nat,t<a.length->(a.getD t default=true↔b.getD t default=true)):a=b:=by grind [ext_getElem,getD_lt]
def ajr{b:Blk}(d:dB b):∀k,k<=b.ops.length->∀i:Nat,b.ops.length-k<=i->i<b.ops.length->4<=(b.ops.getD i default).kind->(us b k).getD i default=true
 | 0,_,i,h1,h2,_=>absurd h2 ah
 | k+1,hk,i,h1,h2,h3=>by
  have g:=Cj b k;have a:=d.op ((b.ops.length-1-k:Nat):Int) ah ah;rw [show(((b.ops.length-1-k:Nat):Int)).toNat=b.ops.length-1-k from rfl]at a;refine(ac7 ah (λc=> ?_) (λc=> ?_)).2 ?_
  .have:=a.x1 c;have f:=this.1;have e:=this.2.1;omega
  .have:=a.y1 c;have f:=this.1;have e:=this.2.1;omega
  .by_cases c:b.ops.length-k<=i
   .exact Or.inl (ajr d k ah i c h2 h3)
   .rw [show i=b.ops.length-1-k by omega]at h3 ⊢;exact Or.inr ⟨Or.inr h3,Or.inl rfl⟩
theorem as3{p1 f1 p2 f2}(L:Y60 p1 f1)(J:Y1 p2 f2)(b:Blk)(Q:b.ops.length<1000000):Yt.F (p1,f1,p2,f2,()) (b,()) (λy=>y=(Hr b,())):=by
 dsimp only [Yt,gm];simp (disch:=omega) only [RR,RB,L b ah];unfold Hr;refine⟨λh=>by rw [h,dY (by decide)],λh=> ?_⟩;rw [eB h];have ok:=aF.1 h;have N:=ok.sz;have K:=ok.en;refine ay (λ(y:Int×Blk×O4)=>0<=y.1/\y.1<=b.ops.length/\y.2.1=b/\(y.2.2.1.length:Int)=y.1/\∀t:Nat,t<y.2.2.1.length->(y.2.2.1.getD t default=true↔4<=(b.ops.getD t default).kind)) (λy=>((b.ops.length:Int)-y.1).toNat) ⟨by dsimp only;omega,by dsimp only;omega,rfl,rfl,λt h=>absurd h (by simp)⟩ ?_;rintro⟨(k:Int),(f:Blk),(u:List Bool),⟨⟩⟩ hI;dsimp only at hI ⊢;obtain⟨G,O,rfl,V,z⟩:=hI;simp (disch:=omega) only [RR,RB,eG,fA,fE];refine⟨λh=>⟨G,h,ah,⟨ah,ah,ah,λt l=> ?_⟩,ah⟩,λh=> ?_⟩
 .rw [oP];rcases(by omega:t<u.length\/t=u.length)with c | c
  .rw [eB c];exact z t c
  .rw [dY ah,eB c,decide_eq_true_eq,c,show k.toNat=u.length by omega]
 have s:¬f.fin=1->0<=f.x/\f.x<u.length:=λc=>by have:=ok.en.x1 c;exact⟨this.1,by have:=this.2.1;omega⟩
 have w:f.fin=3\/f.fin=4->0<=f.y/\f.y<u.length:=λc=>by have:=ok.en.y1 ah;exact⟨this.1,by have:=this.2.1;omega⟩
 have R:=K.f;have u0:=anP ok;have M:u.length=f.ops.length:=by omega
 rw [M]at z;refine⟨λc=>⟨(s c).1,(s c).2,(s c).1,(s c).2,λn=>⟨(w n).1,by rw [length_set];exact(w n).2,(w n).1,by rw [length_set];exact(w n).2,?_⟩,λn=> ?_⟩,λc=>⟨λn=>absurd n ah,λn=> ?_⟩⟩
 all_goals
  refine ay (λ(y:Int×Blk×O4)=> -1<=y.1/\y.1<f.ops.length/\y.2.1=f/\y.2.2.1.length=f.ops.length/\∀t:Nat,t<f.ops.length->(y.2.2.1.getD t default=true↔(us f (f.ops.length-1-y.1).toNat).getD t default=true\/4<=(f.ops.getD t default).kind)) (λy=>(y.1+1).toNat) ⟨by dsimp only;omega,by dsimp only;omega,rfl,by simp only [length_set];omega,λt l=> ?_⟩ ?_
  .dsimp only;rw [show(f.ops.length-1- ((f.ops.length:Int)-1)).toNat=0 by omega];show _↔(us0 f).getD t default=true\/_;have q:=z t l;have r:=u0 t
   first
    | (rw [aa1 (by rw [length_set];have:=w n;omega),aa1 (by have:=s c;omega),q,r];grind)
    | (rw [aa1 (by have:=s c;omega),q,r];grind)
    | (rw [q,r];grind)
  rintro⟨(j:Int),(a:Blk),(C:List Bool),⟨⟩⟩ hI;dsimp only at hI ⊢;obtain⟨W,x,rfl,v,p⟩:=hI;simp (disch:=omega) only [RR,RB,J,bF,jJ,length_set];have S:=Cj a (a.ops.length-1-j).toNat;have i:0<=j->∀t:Nat,((us a (a.ops.length-1- (j-1)).toNat).getD t default=true↔(us a (a.ops.length-1-j).toNat).getD t default=true\/((us a (a.ops.length-1-j).toNat).getD j.toNat default=true\/4<=(((a.ops).getD (j).toNat default)).kind)/\(t=j.toNat\/hX (((a.ops).getD (j).toNat default))/\t=(((a.ops).getD (j).toNat default)).x.toNat\/hY (((a.ops).getD (j).toNat default))/\t=(((a.ops).getD (j).toNat default)).y.toNat)):=λg t=>by
   have o:=ok.op j g x;rw [show(a.ops.length-1- (j-1)).toNat=(a.ops.length-1-j).toNat+1 by omega];show(usO (a.ops.getD (a.ops.length-1- (a.ops.length-1-j).toNat) default) (a.ops.length-1- (a.ops.length-1-j).toNat) _).getD t default=true↔_;rw [show a.ops.length-1- (a.ops.length-1-j).toNat=j.toNat by omega];exact ac7 ah (λc=>by have:=o.x1 c;have A:=this.1;have B:=this.2.1;omega) (λc=>by have:=o.y1 c;have A:=this.1;have B:=this.2.1;omega)
  have D:¬0<=j->(us a (a.ops.length-1-j).toNat)=us a a.ops.length:=λg=>by rw [show(a.ops.length-1-j).toNat=a.ops.length by omega]
  generalize us a (a.ops.length-1-j).toNat=U at i p D;refine⟨λg=> ?_,λg=>congrArg (λm:List Bool=>(m,())) (ajq (b:=us a a.ops.length) (by rw [Cj];exact v) λt l=> ?_)⟩
  .have o:=ok.op j g x;have X:hX (((a.ops).getD (j).toNat default))->0<=(((a.ops).getD (j).toNat default)).x/\(((a.ops).getD (j).toNat default)).x<C.length:=λc=>by have:=o.x1 c;have A:=this.1;have B:=this.2.1;omega
   have Y:hY (((a.ops).getD (j).toNat default))->0<=(((a.ops).getD (j).toNat default)).y/\(((a.ops).getD (j).toNat default)).y<C.length:=λc=>by have:=o.y1 c;have A:=this.1;have B:=this.2.1;omega
   have i:=i g;have H:=p j.toNat ah;have P:=o.kd;generalize ((a.ops).getD (j).toNat default)=q at*;have F:((3<=q.kind/\q.kind<=5)\/q.kind=7)\/q.kind=8↔hX q:=by unfold hX;omega
   have cn:(¬(3<=q.kind/\q.kind<=5)/\¬q.kind=7)/\¬q.kind=8↔¬hX q:=by unfold hX;omega
   have E:q.kind=3\/q.kind=5↔hY q:=Iff.rfl;have I:¬q.kind=3/\¬q.kind=5↔¬hY q:=by unfold hY;omega
   rw [F,cn,E,I];generalize hX q=Z at*;generalize hY q=T at*;refine⟨g,x,g,ah,g,ah,λc=>⟨⟨ah,ah,v,λt l=> ?_⟩,ah⟩,λc=>⟨λd=>⟨(X d).1,(X d).2,(X d).1,(X d).2,λe=>⟨(Y e).1,(Y e).2,(Y e).1,(Y e).2,⟨ah,ah,v,λt l=> ?_⟩,ah⟩,λe=>⟨⟨ah,ah,v,λt l=> ?_⟩,ah⟩⟩,λd=>⟨λe=>⟨(Y e).1,(Y e).2,(Y e).1,(Y e).2,⟨ah,ah,v,λt l=> ?_⟩,ah⟩,λe=>⟨⟨ah,ah,v,λt l=> ?_⟩,ah⟩⟩⟩⟩
   .rw [i,p t l];rw [c]at H;grind
   .rw [aa1 (by rw [length_set];have:=Y e;omega),aa1 (by have:=X d;omega),i,p t l];grind
   .rw [aa1 (by have:=X d;omega),i,p t l];grind
   .rw [aa1 (by have:=Y e;omega),i,p t l];grind
   .rw [i,p t l];grind
  .rw [p t ah,D g];exact⟨λh=>h.elim id (ajr ok _ (Nat.le_refl _) t ah ah),Or.inl⟩
end Go.TX.F
namespace Go.TX.F
open Go Go.AE Go.TX List
def anR{a:List IOp}{b:List Bool}{len:Int}{k n:Nat}{o:IOp}(c:pU a len k o)(h:k<n):ren (kpS a b (k+1)).1 o=ren (kpS a b n).1 o:=by
 have p:=(Hq a b (show k+1<=n by omega)).2;have l:=(qD a b (k+1)).1;have e:∀x:Int,Vl a x k->(((kpS a b (k+1)).1).getD (x).toNat default)=(((kpS a b n).1).getD (x).toNat default):=λx v=>by
  have i:=v.1;have d:=v.2.1;exact(Ke p ah).symm
 have f:=c.x1;have g:=c.y1
 grind [ren]
abbrev Y78(b:IOp×bn->Bool)(a:IOp×bn->IOp×Unit):Prop:=∀o al,(1<=o.kind/\o.kind<=8)->(hX o->0<=o.x/\o.x< (al.length:Int))->(hY o->0<=o.y/\o.y< (al.length:Int))->b (o,al,())=true/\a (o,al,())=(ren al o,())
theorem as4{p1 f1}(p:Y78 p1 f1)(b:Blk)(i:List Bool)(ok:dB b)(hk:i.length=b.ops.length):Yr.F (p1,f1,()) (b,i,()) (λy=>y=bk7 (tu b i)):=by
 have x:=ok.sz;dsimp only [Yr,gm];simp (disch:=omega) only [RR,RB];refine ay (λ(y:List Bool×Int×Blk×Int×Int×Int×Int×Int×Int×List IOp×bn)=>y.1=i/\0<=y.2.1/\y.2.1<=b.ops.length/\y.2.2.1=b/\y.2.2.2.2.2.2.2.2.2.1=(kpS b.ops i y.2.1.toNat).2.map (ren (kpS b.ops i b.ops.length).1)/\y.2.2.2.2.2.2.2.2.2.2.1=(kpS b.ops i y.2.1.toNat).1) (λy=>((b.ops.length:Int)-y.2.1).toNat) ⟨rfl,by dsimp only;omega,by dsimp only;omega,rfl,rfl,rfl⟩ ?_;rintro⟨(d:List Bool),(k:Int),(a:Blk),u1,u2,u3,u4,u5,u6,(out:List IOp),(A:List Int),⟨⟩⟩ hI;dsimp only at hI ⊢;obtain⟨rfl,j,z,rfl,rfl,rfl⟩:=hI;obtain⟨u,v⟩:=qD a.ops d k.toNat;have t:=(qD a.ops d (k+1).toNat).1;have m:(kpS a.ops d (k+1).toNat).1=(kpS a.ops d k.toNat).1++ [((kpS a.ops d k.toNat).2.length:Int)]:=by rw [show(k+1).toNat=k.toNat+1 by omega];rfl
 have r:k<a.ops.length->ren (kpS a.ops d (k+1).toNat).1 ((a.ops).getD (k).toNat default)=ren (kpS a.ops d a.ops.length).1 ((a.ops).getD (k).toNat default):=λh=>by
  rw [show(k+1).toNat=k.toNat+1 by omega];exact anR (by rw [show((k.toNat:Nat):Int)=k by omega];exact ok.op k j h) ah
 have s:(kpS a.ops d (k+1).toNat).2=if d.getD k.toNat default=true then(kpS a.ops d k.toNat).2++ [((a.ops).getD (k).toNat default)]else(kpS a.ops d k.toNat).2:=by rw [show(k+1).toNat=k.toNat+1 by omega];rfl
 have fin:¬k<a.ops.length->kpS a.ops d k.toNat=kpS a.ops d a.ops.length:=λh=>by grind
 have w:tu a d=Kh (kpS a.ops d a.ops.length).1 a (kpS a.ops d a.ops.length).2:=rfl;rw [w];generalize kpS a.ops d a.ops.length=N at r fin ⊢;generalize q:kpS a.ops d (k+1).toNat=T at t m r s ⊢;generalize kpS a.ops d k.toNat=S at u v m s fin ⊢;have l:=ok.en;have g:¬k<a.ops.length->¬a.fin=1->0<=a.x/\a.x< (S.1.length:Int):=λh c=>by have:=l.x1 c;exact⟨this.1,by have:=this.2.1;omega⟩
 have f:¬k<a.ops.length->a.fin=3\/a.fin=4->0<=a.y/\a.y< (S.1.length:Int):=λh c=>by have:=l.y1 ah;exact⟨this.1,by have:=this.2.1;omega⟩
 simp (disch:=omega) only [RR,RB,eG,fA,fE,length_map,fH,<-m];refine⟨λh=> ?_,λh=> ?_⟩
 .have op:=ok.op k j h;have o:hX (((a.ops).getD (k).toNat default))->0<=(((a.ops).getD (k).toNat default)).x/\(((a.ops).getD (k).toNat default)).x< (T.1.length:Int):=λc=>⟨(op.x1 c).1,by have:=(op.x1 c).2.1;omega⟩
  have n:hY (((a.ops).getD (k).toNat default))->0<=(((a.ops).getD (k).toNat default)).y/\(((a.ops).getD (k).toNat default)).y< (T.1.length:Int):=λc=>⟨(op.y1 c).1,by have:=(op.y1 c).2.1;omega⟩
  have P:=(p _ T.1 op.kd o n).1;rw [(p _ T.1 op.kd o n).2,q,s,r h];refine⟨ah,j,ah,λc=>⟨j,h,P,ah,⟨ah,ah,?_⟩,ah⟩,λc=>⟨⟨ah,ah,?_⟩,ah⟩⟩
  .rw [eB c,map_append];exact⟨rfl,rfl⟩
  .rw [c,dY (by decide)];exact⟨rfl,rfl⟩
 .have g:=g h;have f:=f h;rw [fin h]at g f ⊢;unfold bk7 Kh;refine⟨λc=>⟨(g c).1,(g c).2,(g c).1,(g c).2,λe=>⟨(f e).1,(f e).2,(f e).1,(f e).2,?_⟩,λe=> ?_⟩,λc=>⟨λe=>⟨(f e).1,(f e).2,(f e).1,(f e).2,?_⟩,λe=> ?_⟩⟩
  .rw [dY c,eB ah]
  .rw [dY c,dY (by have:=l.f;omega)]
  .exact absurd e ah
  .rw [eB c,dY ah]
abbrev Y79(c:mF->Bool)(a:mF->O4):Prop:=∀b,b.ops.length<1000000->c (b,())=true/\a (b,())=(Hr b,())
abbrev Y80(d:Blk×O4->Bool)(c:Blk×O4->bf):Prop:=∀b a,dB b->a.length=b.ops.length->d (b,a,())=true/\c (b,a,())=bk7 (tu b a)
def as5{p1 f1 p2 f2 p3 f3}(a:Y60 p1 f1)(c:Y79 p2 f2)(e:Y80 p3 f3)(b:Blk)(d:b.ops.length<1000000):Yu.F (p1,f1,p2,f2,p3,f3,()) (b,()) (λy=>y=bk7 (iW b)):=by
 dsimp only [Yu,gm];simp (disch:=omega) only [RR,RB,a b ah,c b d];unfold iW Hr;refine⟨λh=>by rw [h,dY (by decide)];rfl,λh=> ?_⟩
 grind [aF,Cj]
def as6{p1 f1 p2 f2}{f:List IOp×eu->Bool}{j:List IOp×eu->lX}(m:Y60 p1 f1)(i:Y80 p2 f2)(g:∀a k,0<=k->k<a.length->(a.length:Int)<1000000->f (a,k,())=true/\j (a,k,())=(pF (a.drop (k.toNat+1)) (((a).getD (k).toNat default)).k,()))(b:Blk)(p:b.ops.length<1000000):Yw.F (p1,f1,p2,f2,f,j,()) (b,()) (λy=>y=bk7 (kP b)):=by
 dsimp only [Yw,gm];simp (disch:=omega) only [RR,RB,m b ah];unfold kP;refine⟨λh=>by rw [h,dY (by decide)];rfl,λh=> ?_⟩;have ok:=aF.1 h;rw [eB h];have l:(fV b.ops).length=b.ops.length:=by unfold fV;simp_all
 refine ay (λ(y:Int×Blk×Int×Int×Int×Int×Int×Int×O4)=>0<=y.1/\y.1<=b.ops.length/\y.2.1=b/\y.2.2.2.2.2.2.2.2.1=(fV b.ops).take y.1.toNat) (λy=>((b.ops.length:Int)-y.1).toNat) ⟨by dsimp only;omega,by dsimp only;omega,rfl,rfl⟩ ?_;rintro⟨(k:Int),(c:Blk),u1,u2,u3,u4,u5,u6,(n:List Bool),⟨⟩⟩ hI;dsimp only at hI ⊢;obtain⟨e,o,rfl,rfl⟩:=hI;have tl:((fV c.ops).take k.toNat).length=k.toNat:=by rw [length_take];omega
 simp (disch:=omega) only [RR,RB,eG,fA,fE,tl];refine⟨λh=>⟨e,h,Or.inr ((g _ _ e h ah).1),ah,⟨ah,ah,?_⟩,ah⟩,λh=> ?_⟩
 .rw [(g _ _ e h ah).2,show(k+1).toNat=k.toNat+1 by omega,take_succ_eq_append_getElem ah,<-getD_lt (d:=default) (show k.toNat< (fV c.ops).length by omega),Oc ah];refine congrArg (λx=>(fV c.ops).take k.toNat++ [x]) ?_;rw [Bool.not_and]
 .rw [take_of_length_le ah,(i _ _ ok l).2];exact⟨(i _ _ ok l).1,rfl⟩
def as7{ops:List IOp}{len:Int}{k n:Nat}{o:IOp}(a:pU ops len k o)(h:k<=n):ren (cpS ops k).1 o=ren (cpS ops n).1 o:=by
 have l:=(wu ops k).1;have e:∀x:Int,Vl ops x k->(((cpS ops k).1).getD (x).toNat default)=(((cpS ops n).1).getD (x).toNat default):=λx v=>by
  have f:=v.1;have b:=v.2.1
  grind [asF]
 have c:=a.x1;have d:=a.y1
 grind [ren]
theorem as8{p1 f1 p2 f2 p3 f3}(Z:Y60 p1 f1)(U:Y78 p2 f2)(Q:Y77 p3 f3)(b:Blk)(L:b.ops.length<1000000):Yq.F (p1,f1,p2,f2,p3,f3,()) (b,()) (λy=>y=bk7 (fC b)):=by
 dsimp only [Yq,gm];simp (disch:=omega) only [RR,RB,Z b ah,Q b L,fH];unfold fC;refine⟨λh=>by rw [h,dY (by decide)];rfl,λh=> ?_⟩;have ok:=aF.1 h;rw [eB h];have a0:=ok.sz;refine ay (λ(y:Int×Int×Int×Int×Int×Int×Int×Int×Int×Int×Int×Int×Int×List Int×List Int×ql)=>0<=y.1/\y.1<=b.ops.length/\y.2.2.2.2.2.2.2=(b.pc,b.len,b.fin,b.x,b.y,b.k,(cpS b.ops y.1.toNat).1,(cpS b.ops y.1.toNat).2,(b.ops.take y.1.toNat).map (ren (cpS b.ops b.ops.length).1)++b.ops.drop y.1.toNat,())) (λy=>((b.ops.length:Int)-y.1).toNat) ⟨by dsimp only;omega,by dsimp only;omega,rfl⟩ ?_;rintro⟨(k:Int),u1,u2,u3,u4,u5,u6,b1,b2,b3,b4,b5,b6,(al:List Int),(la:List Int),(ops:List IOp),⟨⟩⟩ hI;dsimp only at hI ⊢;simp only [Prod.mk.injEq,and_true]at hI;obtain⟨D,h2,rfl,rfl,rfl,rfl,rfl,rfl,rfl,rfl,rfl⟩:=hI;obtain⟨l1,l2⟩:=wu b.ops k.toNat;have r:=λh:k<b.ops.length=>as7 (ops:=b.ops) (k:=k.toNat) (n:=b.ops.length) (by rw [show((k.toNat:Nat):Int)=k by omega];exact ok.op k D h) ah
 have H:((b.ops.take k.toNat).map (ren (cpS b.ops b.ops.length).1)).length=k.toNat:=by simp_all
 have I:=Au (l:=b.ops) H ah;have C:=λh:k<b.ops.length=>Qz (d:=default) (l:=b.ops) H ah
 have A:=λx (h:k<b.ops.length)=>Ar (x:=x) (l:=b.ops) H ah
 have B:=λh:k<b.ops.length=>(bA (d:=default) (l:=b.ops) D h rfl)
 have u:k<b.ops.length->cpS b.ops (k+1).toNat=((cpS b.ops k.toNat).1++ [cpN (cpS b.ops k.toNat) k ((b.ops).getD (k).toNat default)],cpL (cpS b.ops k.toNat) k ((b.ops).getD (k).toNat default)):=λh=>by
  rw [show(k+1).toNat=k.toNat+1 by omega,show k=((k.toNat:Nat):Int) by omega];rfl
 have fin:¬k<b.ops.length->cpS b.ops k.toNat=cpS b.ops b.ops.length:=λh=>by grind
 have E:=ok.en;by_cases h:k<b.ops.length
 .have o:=ok.op k D h;have r:=r h;have C:=C h;have u:=u h;have A:=λx=>A x h
  have B:=B h;have X:hX (((b.ops).getD (k).toNat default))->0<=(((b.ops).getD (k).toNat default)).x/\(((b.ops).getD (k).toNat default)).x< ((cpS b.ops k.toNat).1.length:Int):=λc=>⟨(o.x1 c).1,by have:=(o.x1 c).2.1;omega⟩
  have M:hY (((b.ops).getD (k).toNat default))->0<=(((b.ops).getD (k).toNat default)).y/\(((b.ops).getD (k).toNat default)).y< ((cpS b.ops k.toNat).1.length:Int):=λc=>⟨(o.y1 c).1,by have:=(o.y1 c).2.1;omega⟩
  obtain⟨P,F⟩:=U _ _ o.kd X M;have J:=o.k2;have V:(((b.ops).getD (k).toNat default)).kind=8->(ren (cpS b.ops b.ops.length).1 ((b.ops).getD (k).toNat default)).x=(((cpS b.ops k.toNat).1).getD ((((b.ops).getD (k).toNat default)).x).toNat default):=λc=>by rw [<-r];exact eB (by unfold hX;omega)
  rw [r]at F;generalize hN:(cpS b.ops b.ops.length).1=N at*;generalize t:cpS b.ops (k+1).toNat=T at u ⊢;generalize cpS b.ops k.toNat=S at*;simp (disch:=omega) only [RR,RB,I,C,P,F,A,eG,fA,fE,length_set,fH,h];generalize hq:((b.ops).getD (k).toNat default)=q at*;have j:(ren N q).kind=q.kind:=rfl;have f:(ren N q).k=q.k:=rfl;generalize Y:ren N q=R at*;have G:∀v w,v=cpN S k q->w=cpL S k q->(b.pc,b.len,b.fin,b.x,b.y,b.k,S.1++ [v],w,((b.ops.take k.toNat).map (ren N)++ [R])++b.ops.drop (k.toNat+1),())=(b.pc,b.len,b.fin,b.x,b.y,b.k,T.1,T.2,(b.ops.take (k+1).toNat).map (ren N)++b.ops.drop (k+1).toNat,()):=λv w W O=>by
   rw [u,W,O,<-B,map_append,show(k+1).toNat=k.toNat+1 by omega,<-Y];rfl
  have K:∀i:Int,0<=i->i<S.2.length->S.2.set i.toNat ((S.2).getD (i).toNat default)=S.2:=λi i0 i1=>by rw [getD_lt (show i.toNat<S.2.length by omega),set_getElem_self]
  by_cases a:R.kind=2
  .have kk:=J (Or.inl (j▸a));by_cases m:0<=((S.2).getD (R.k).toNat default)
   .have g:=G (((S.2).getD (R.k).toNat default)) (S.2.set R.k.toNat ((S.2).getD (R.k).toNat default)) (by unfold cpN;rw [<-j,<-f];rw [eB ⟨a,m⟩]) (by unfold cpL;rw [<-j,<-f];rw [eB a,eB m,K _ ah ah]);simp only [a,m,show¬((2:Int)=8) by decide,true_and,and_true,true_implies,false_implies,not_true_eq_false,not_false_eq_true,false_or,decide_true,Bool.and_self,Bool.true_eq_false,t,g];omega
   .have g:=G k (S.2.set R.k.toNat k) (by unfold cpN;rw [<-j,<-f];rw [dY (λq=>m q.2)]) (by unfold cpL;rw [<-j,<-f];rw [eB a,dY m]);simp only [a,m,show¬((2:Int)=8) by decide,true_and,and_true,and_false,true_implies,false_implies,not_true_eq_false,not_false_eq_true,false_or,decide_true,decide_false,Bool.and_false,t,g];omega
  .by_cases c8:R.kind=8
   .have kk:=J (Or.inr (j▸c8));have g:=G k (S.2.set R.k.toNat ((S.1).getD (q.x).toNat default)) (by unfold cpN;rw [<-j,<-f];rw [dY (λq=>a q.1)]) (by unfold cpL;rw [<-j,<-f];rw [dY a,eB c8]);rw [<-V (j▸c8)]at g;simp only [c8,show¬((8:Int)=2) by decide,false_and,true_and,and_true,and_false,true_implies,false_implies,not_true_eq_false,not_false_eq_true,true_or,decide_false,Bool.false_and,t,g];omega
   .have g:=G k S.2 (by unfold cpN;rw [<-j,<-f];rw [dY (λq=>a q.1)]) (by unfold cpL;rw [<-j,<-f];rw [dY a,dY c8]);simp only [a,c8,false_and,true_and,and_true,and_false,true_implies,false_implies,not_true_eq_false,not_false_eq_true,true_or,decide_false,Bool.false_and,t,g];omega
 .have e:=fin h;have p:¬b.fin=1->0<=b.x/\b.x< ((cpS b.ops k.toNat).1.length:Int):=λc=>by have:=E.x1 c;exact⟨this.1,by have:=this.2.1;omega⟩
  have s:b.fin=3\/b.fin=4->0<=b.y/\b.y< ((cpS b.ops k.toNat).1.length:Int):=λc=>by have:=E.y1 ah;exact⟨this.1,by have:=this.2.1;omega⟩
  have ff:=E.f;have z:(b.ops.take k.toNat).map (ren (cpS b.ops b.ops.length).1)++b.ops.drop k.toNat=b.ops.map (ren (cpS b.ops b.ops.length).1):=by rw [take_of_length_le ah,drop_of_length_le ah,append_nil]
  have I:(b.ops.map (ren (cpS b.ops b.ops.length).1)).length=b.ops.length:=length_map _;rw [z];rw [e]at p s ⊢;unfold bk7 Kh;generalize (cpS b.ops b.ops.length).1=N at*;simp (disch:=omega) only [RR,RB,I,h];refine⟨λc=>⟨(p c).1,(p c).2,(p c).1,(p c).2,λa=>⟨(s a).1,(s a).2,(s a).1,(s a).2,?_⟩,λa=> ?_⟩,λc=>⟨λa=>absurd a ah,λa=> ?_⟩⟩
  .rw [dY c,eB ah]
  .rw [dY c,dY ah]
  .rw [eB c,dY ah]
variable{b:Blk}
structure BkD(m:Int)(n:Nat)(b:List Int)(p:Int)(y:yw):Prop where
 b:y.2.2.2.2.2.2.1=b
 lo:p<=y.2.2.2.2.2.2.2.1
 hi:y.2.2.2.2.2.2.2.1<=p+m
 len:y.2.2.2.2.2.2.2.2.1.length<=n
abbrev Y81(c:mF->Bool)(a:mF->bf):Prop:=∀b,b.ops.length<1000000->c (b,())=true/\a (b,())=bk7 (zf b)
abbrev Y82(c:lT->Bool)(a:lT->Xn):Prop:=∀b p,Bt b->0<=p->p<700000000->c (b,p,())=true/\LiD b p (a (b,p,()))
def as9{p2 f2 p3 f3 p4 f4 p5 f5}{B:mQ->Bool}{o:mQ->bf}(F:∀a l,(l.length:Int)<1000->KB l->B (a,l,())=true/\((o (a,l,())).2.2.2.2.2.2.1.length:Int)<=5000)(D:Y81 p2 f2)(C:Y74 p3 f3)(E:Y38 p4 f4)(z:Y82 p5 f5)(b:List Int)(p:Int)(i:Bt b)(j:0<=p)(x:p<600000000):Za.F (B,o,p2,f2,p3,f3,p4,f4,p5,f5,()) (b,p,()) (λy=>BkD 2000 5000 b p y):=by
 have k:=λz1 z2 z3 z4=>(F z1 z2 z3 z4).1
 have w:=λz1 z2 z3 z4=>(F z1 z2 z3 z4).2
 have s:=λz1 z2=>(D z1 z2).1
 have g:=λz1 z2=>(D z1 z2).2
 have q:=λz1 z2=>(C z1 z2).1
 have f:=λz1 z2=>(C z1 z2).2
 have v:=λz1 z2 z3 z4 d u=>(E z1 z2 z3 z4 d u).1
 have t:=λz1 z2 z3 z4 d u=>(E z1 z2 z3 z4 d u).2
 have m:=λz1 z2 z3 z4 d=>(z z1 z2 z3 z4 d).1
 have r:=λz1 z2 z3 z4 d=>(z z1 z2 z3 z4 d).2
 replace g:=λc h=>show(f2 (c,())).2.2.2.2.2.2.1.length<=c.ops.length by rw [g c h];exact Fh c
 replace f:=λc h=>show(f3 (c,())).2.2.2.2.2.2.1.length<=c.ops.length by rw [f c h];exact wC c
 obtain⟨J,O,M,N,A⟩:=r b p i j ah;have R:=pkR i t;have P:=λn p j x=>v n b p i j x
 have L:=λa=>w a _ (show((f5 (b,p,())).2.2.1.length:Int)<1000 by omega) A
 have K:=λc (h:c.ops.length<=5000)=>s c ah
 have H:=λc (h:c.ops.length<=5000)=>g c ah
 have G:=λc (h:c.ops.length<=5000)=>q c ah
 have I:=λc (h:c.ops.length<=5000)=>f c ah
 dsimp only [Za,gm];simp (disch:=omega) only [RR,m b p i j ah,J,R,P,k _ _ (show((f5 (b,p,())).2.2.1.length:Int)<1000 by omega) A,fA,fE];have e:∀a,(o (a,(f5 (b,p,())).2.2.1,())).2.2.2.2.2.2.1.length<=5000:=λa=>by have:=L a;omega
 refine⟨λ_=>⟨K _ (e _),rfl,by dsimp only;omega,by dsimp only;omega,Nat.le_trans (H _ (e _)) (e _)⟩,λ_=>⟨λ_=>⟨G _ (e _),rfl,by dsimp only;omega,by dsimp only;omega,Nat.le_trans (I _ (e _)) (e _)⟩,λ_=>⟨rfl,by dsimp only;omega,by dsimp only;omega,e _⟩⟩⟩
def Wk(c:Blk):Prop:=∀i:Nat,i<c.ops.length->(c.ops.getD i default).kind=3->0<=(c.ops.getD i default).y/\(c.ops.getD i default).y<=i
def Hu:Wk TG:=λ_ h=>absurd h (Nat.not_lt_zero _)
def ajs(e:dB b):∀i:Nat,i<=b.ops.length->(∀j:Int,0<=j->j<i->0<=(((cpS b.ops i).1).getD (j).toNat default)/\(((cpS b.ops i).1).getD (j).toNat default)<=j)/\∀r:Int,0<=r->r<=3->(((cpS b.ops i).2).getD (r).toNat default)<i
 | 0,_=>⟨λj g d=>absurd d ah,λr g d=>by
   show([-1, -1, -1, -1]:List Int).getD r.toNat default<_;rcases(by omega:r=0\/r=1\/r=2\/r=3)with h | h | h | h<;>subst h<;>decide⟩
 | i+1,hi=>by
  obtain⟨A,B⟩:=ajs e i ah;have ok:=e.op i ah ah;obtain⟨n,p⟩:=wu b.ops i;rw [show((i:Int)).toNat=i from rfl]at ok;unfold cpS;generalize b.ops.getD i default=o at ok ⊢;refine⟨λj l m=> ?_,λr a f=> ?_⟩
  .dsimp only;rw [oP];split
   .exact A j l ah
   .rw [eB ah];unfold cpN;split
    .rename_i c;have k:=ok.k2 (Or.inl c.1);have:=B o.k k.1 k.2;omega
    .omega
  .have:=B r a f;dsimp only;unfold cpL;split
   .rename_i c;have k:=ok.k2 (Or.inl c);split
    .omega
    .rw [Qy a k.1 ah];split<;>omega
   split
   .rename_i c;have k:=ok.k2 (Or.inr c);have v:=ok.x1 (by unfold hX;omega);have:=A o.x v.1 v.2.1;have:=v.2.1;rw [Qy a k.1 ah];split<;>omega
   .omega
def aa4(b:Blk):Wk (fC b):=by
 unfold fC;split
 .rename_i h;have d:dB b:=aF.1 h;intro i c a;have c:i<b.ops.length:=by simpa [Kh]using c
  unfold Kh at a ⊢;dsimp only at a ⊢;rw [ajl _ c]at a ⊢;have v:=(d.op i ah ah).y1 (Or.inl a);have:=(ajs d b.ops.length (Nat.le_refl _)).1 _ v.1 (by have:=v.2.1;omega);have:=v.2.1;unfold ren;dsimp only;rw [eB (show hY (b.ops.getD i default)from Or.inl a)];rw [show((i:Int)).toNat=i from rfl]at*;omega
 .exact Hu
def TN(a:Wk b):Wk (gB b):=by
 unfold gB;split
 .intro i hi h3;rw [(ayr _ _).2.2]at hi h3 ⊢;rw [rD]at hi;rw [ajj _ hi]at h3 ⊢;unfold fcO at h3 ⊢;split at h3
  .exact absurd h3 (by dsimp only;decide)
  .rename_i c;rw [dY c];exact a i hi h3
 .exact Hu
def ada(e:Wk b)(a:List Bool):Wk (tu b a):=by
 intro m hm c;have hm:m< (kpS b.ops a b.ops.length).2.length:=by simpa [tu,Kh]using hm
 unfold tu Kh at c ⊢;dsimp only at c ⊢;rw [ajl _ hm]at c ⊢;obtain⟨j,d,f,rfl⟩:=aa0 b.ops a hm;rw [(ajk b.ops a d f).2]at c ⊢;obtain⟨g,y1⟩:=e j d c;unfold ren;dsimp only;rw [eB (show hY (b.ops.getD j default)from Or.inl c),asG b.ops a (show(b.ops.getD j default).y.toNat<b.ops.length by omega)];have:=oZ (Hq b.ops a (show(b.ops.getD j default).y.toNat<=j by omega)).1;omega
def aeI(b:Blk):Wk (zf b):=by
 have k:=λ{c:Blk} (h:Wk c)=>show Wk (iW c) by unfold iW;split;exact ada h _;exact Hu
 have s:=λ{c:Blk} (h:Wk c)=>show Wk (kP c) by unfold kP;split;exact ada h _;exact Hu
 exact k (s (k (TN (aa4 b))))
def ata{p1 f1 p2 f2}(i:Y38 p1 f1)(r:Y77 p2 f2)(c:Blk)(b:List Int)(p:Int)(ok:Wk c)(hc:c.ops.length<1000000)(f:Bt b)(g:0<=p)(d:p<600000000):Zd.F (p1,f1,p2,f2,()) (c,b,p,()) (λy=>BkD 1000000 c.ops.length b p y):=by
 dsimp only [Zd,gm];simp (disch:=omega) only [RR,RB,r c hc];refine ay (λ(y:Int×List Int×aCv)=>0<=y.1/\y.1<=c.ops.length/\y.2.1=b/\p<=y.2.2.1/\y.2.2.1<=p+y.1/\y.2.2.2.2.2.2.2.2.2.2.2.2.2.2.2.1.length=c.ops.length/\∀j:Int,y.1<=j->((y.2.2.2.2.2.2.2.2.2.2.2.2.2.2.2.1).getD (j).toNat default)=((c.ops).getD (j).toNat default)) (λy=>((c.ops.length:Int)-y.1).toNat) ⟨by dsimp only;omega,by dsimp only;omega,rfl,by dsimp only;omega,by dsimp only;omega,rfl,λ_ _=>rfl⟩ ?_;rintro⟨(k:Int),(l:List Int),(q:Int),u1,u2,u3,u4,u5,u6,b1,b2,b3,b4,b5,b6,(o:List IOp),⟨⟩⟩ hI;dsimp only at hI ⊢;obtain⟨t,w,rfl,k3,z,m,a⟩:=hI;have e:=a k (Int.le_refl _);have R:=pkS f i;have P:=λn p g d=>(i n l p f g d).1
 simp (disch:=omega) only [RR,RB,e,R,P,length_set,Bool.and_eq_false_iff];refine⟨λh=> ?_,λh=>⟨rfl,k3,by dsimp only;omega,Nat.le_of_eq m⟩⟩;have u:((c.ops).getD (k).toNat default).kind=3->0<=((c.ops).getD (k).toNat default).y/\((c.ops).getD (k).toNat default).y<=k:=λs=>by have:=ok k.toNat ah s;omega
 have S:∀(X:List IOp) v (j:Int),k+1<=j->(X.set k.toNat v).getD j.toNat default=X.getD j.toNat default:=λX v j x=>by
  simp only [getD,getElem?_set_ne (show k.toNat≠j.toNat by omega)]
 repeat' (first | (refine⟨?_,?_⟩) | intro _)
 all_goals first | omega | rfl | exact a _ ah | (simp (disch:=omega) only [S];exact a _ ah)
end Go.TX.F
namespace Go.TX.F
open Go Go.AE Go.TX List
def atb{p1 f1 p2 f2}(a:Y38 p1 f1)(g:Y77 p2 f2)(c:Blk)(b:List Int)(p:Int)(hc:c.ops.length<1000000)(e:Bt b)(d:0<=p)(f:p<900000000):Qg.F (p1,f1,p2,f2,()) (c,b,p,()) (λy=>BkD 20 c.ops.length b p y/\y.1=c.pc):=by
 have R:=pkS e a;have P:=λn p d f=>(a n b p e d f).1
 by_cases z:(c.ops.length:Int)=0
 .dsimp only [Qg,gm];simp (disch:=omega) only [RR,RB,g c hc,z];exact⟨rfl,by dsimp only;omega,by dsimp only;omega,Nat.le_refl _⟩
 have B:=((a c.ops.length b p e d ah).2).2.2;have W:IntKind.i64.wrap ((f1 (c.ops.length,b,p,())).1-1)=(f1 (c.ops.length,b,p,())).1-1:=w64 ah ah;dsimp only [Qg,gm];simp (disch:=omega) only [RR,RB,g c hc,R,P,z,length_set,W]
 repeat' (first | (refine And.intro ?_ ?_) | intro _)
 all_goals first | omega | exact⟨rfl,by dsimp only;omega,by dsimp only;omega,by dsimp only [aiU];simp only [length_set,length_take,length_drop];omega⟩ | exact⟨rfl,by dsimp only;omega,by dsimp only;omega,by simp only [length_drop,length_take];omega⟩ | exact⟨rfl,by dsimp only;omega,by dsimp only;omega,Nat.le_refl _⟩ | rfl
abbrev Y83(d:Blk×lT->Bool)(a:Blk×lT->yw):Prop:=∀c b p,c.ops.length<1000000->Bt b->0<=p->p<900000000->d (c,b,p,())=true/\BkD 20 c.ops.length b p (a (c,b,p,()))/\(a (c,b,p,())).1=c.pc
abbrev Y84(c:lT->Bool)(a:lT->yw):Prop:=∀b p,Bt b->0<=p->p<600000000->c (b,p,())=true/\BkD 2000 5000 b p (a (b,p,()))
abbrev Y86(d:Blk×lT->Bool)(a:Blk×lT->yw):Prop:=∀c b p,Wk c->c.ops.length<1000000->Bt b->0<=p->p<600000000->d (c,b,p,())=true/\BkD 1000000 c.ops.length b p (a (c,b,p,()))
abbrev Y88(d:List (List au)×mI->Bool)(c:List (List au)×mI->lX):Prop:=∀a b,ShP a->d (a,b,())=true/\c (a,b,())=(bp (a=b),())
abbrev Y89(c:List Atom×mF->Bool)(a:List Atom×mF->List Atom×aCn):Prop:=∀t b,ShT t->b.ops.length<1000000000->c (t,b,())=true/\a (t,b,())=((bR t b).1,(bR t b).2,())
theorem ajt(x y:IOp):awK .iop x y=decide (x=y):=rfl
def nO{P:Prop}[Decidable P]:decide P=bp P:=by unfold bp;congr
def atc(a b:List IOp)(m:a.length<1000000000):ZA.F () (a,b,()) (λy=>y=(bp (a=b),())):=by
 dsimp only [ZA,gm];simp (disch:=omega) only [RR];refine⟨λh=> ?_,λh=> ?_⟩
 .rw [aV (λe=>h (by rw [e]))]
 have f:a.length=b.length:=by omega
 refine ay (λ(y:List IOp×aCu)=>y.1=a/\y.2.1=b/\y.2.2.1=a.length/\0<=y.2.2.2.1/\y.2.2.2.1<=a.length/\All y.2.2.2.1 (λi=>a.getD i.toNat default=b.getD i.toNat default)) (λy=>(a.length-y.2.2.2.1).toNat) ⟨rfl,rfl,rfl,by simp,by simp,All.zero⟩ ?_;rintro⟨(k:List IOp),(o:List IOp),(n:Int),(i:Int),⟨⟩⟩ hI;dsimp only at hI ⊢;obtain⟨rfl,rfl,rfl,l,j,d⟩:=hI;simp (disch:=omega) only [RR,ajt];refine⟨λg=>⟨ah,ah,ah,ah,λc=> ?_,λc=>⟨⟨ah,ah,d.snoc c⟩,ah⟩⟩,λg=> ?_⟩
 .rw [aV];intro e;rw [e]at c;exact c rfl
 .rw [aJ (lS f (d.le ah))]
abbrev Y92(d:List IOp×ql->Bool)(c:List IOp×ql->lX):Prop:=∀a b,a.length<1000000000->d (a,b,())=true/\c (a,b,())=(bp (a=b),())
def ayE{p1 f1}(c:Y92 p1 f1)(a b:Blk)(d:a.ops.length<1000000000):ahA.F (p1,f1,()) (a,b,()) (λy=>y=(bp (a=b),())):=by
 dsimp only [ahA,gm];simp (disch:=omega) only [RR,RB,c _ _ d];simp only [nO,<-eH];refine Prod.ext (gP ?_) rfl;cases a;cases b;simp only [Blk.mk.injEq];constructor<;>(intro h;simp only [h,and_self])
def atd{p1 f1}(c:Y14 p1 f1)(a b:List au)(d:Sh a):aai.F (p1,f1,()) (a,b,()) (λy=>y=(decide (ji a b=0),())):=by
 dsimp only [aai,gm];simp (disch:=omega) only [RR,c _ _ d]
def ate{p1 f1}(l:Y14 p1 f1)(a b:List (List au))(g:ShP a):aaj.F (p1,f1,()) (a,b,()) (λy=>y=(bp (a=b),())):=by
 have d:=g.1;dsimp only [aaj,gm];simp (disch:=omega) only [RR];refine⟨λh=> ?_,λh=> ?_⟩
 .rw [aV (λe=>h (by rw [e]))]
 have k:a.length=b.length:=by omega
 refine ay (λ(y:List (List au)×List (List au)×sj)=>y.1=b/\y.2.1=a/\y.2.2.1=a.length/\0<=y.2.2.2.1/\y.2.2.2.1<=a.length/\All y.2.2.2.1 (λi=>a.getD i.toNat default=b.getD i.toNat default)) (λy=>(a.length-y.2.2.2.1).toNat) ⟨rfl,rfl,rfl,by simp,by simp,All.zero⟩ ?_;rintro⟨(p:List (List au)),(q:List (List au)),(n:Int),(i:Int),⟨⟩⟩ hI;dsimp only at hI ⊢;obtain⟨rfl,rfl,rfl,o,m,f⟩:=hI;simp (disch:=omega) only [RR,l _ _ (g.at _),iZ];refine⟨λj=>⟨ah,ah,ah,ah,λc=> ?_,λc=>⟨⟨ah,ah,f.snoc c⟩,ah⟩⟩,λj=> ?_⟩
 .rw [aV];intro e;rw [e]at c;exact c rfl
 .rw [aJ (lS k (f.le ah))]
def atf{p1 f1}(c:Y88 p1 f1)(a b:List (List au))(d:ShP a):aak.F (p1,f1,()) (a,b,()) (λy=>y=(bp (a=b),())):=by
 dsimp only [aak,gm];simp (disch:=omega) only [RR,c _ _ d]
def ayF{p1 f1 p2 f2}(d:Y14 p1 f1)(e:Y88 p2 f2)(a b:Ev)(c:ShE a):ah2.F (p1,f1,p2,f2,()) (a,b,()) (λy=>y=(bp (a=b),())):=by
 dsimp only [ah2,gm];simp (disch:=omega) only [RR,RB,d _ _ c.1,d _ _ c.2.1,e _ _ c.2.2,iZ];simp only [nO,<-eH];refine Prod.ext (gP ?_) rfl;cases a;cases b;simp only [Ev.mk.injEq];constructor<;>(intro h;simp only [h,and_self])
abbrev Y93(d:Ev×Ev×Unit->Bool)(c:Ev×Ev×Unit->lX):Prop:=∀a b,ShE a->d (a,b,())=true/\c (a,b,())=(bp (a=b),())
def atg{p1 f1}(k:Y93 p1 f1)(a b:List Ev)(d:aji a):aal.F (p1,f1,()) (a,b,()) (λy=>y=(bp (a=b),())):=by
 have g:=d.1;dsimp only [aal,gm];simp (disch:=omega) only [RR];refine⟨λh=> ?_,λh=> ?_⟩
 .rw [aV (λe=>h (by rw [e]))]
 have j:a.length=b.length:=by omega
 refine ay (λ(y:List Ev×List Ev×sj)=>y.1=b/\y.2.1=a/\y.2.2.1=a.length/\0<=y.2.2.2.1/\y.2.2.2.1<=a.length/\All y.2.2.2.1 (λi=>a.getD i.toNat default=b.getD i.toNat default)) (λy=>(a.length-y.2.2.2.1).toNat) ⟨rfl,rfl,rfl,by simp,by simp,All.zero⟩ ?_;rintro⟨(o:List Ev),(p:List Ev),(n:Int),(i:Int),⟨⟩⟩ hI;dsimp only at hI ⊢;obtain⟨rfl,rfl,rfl,q,m,f⟩:=hI;simp (disch:=omega) only [RR,k _ _ (d.at _),aF,gK];refine⟨λl=>⟨ah,ah,ah,ah,λc=> ?_,λc=>⟨⟨ah,ah,f.snoc c⟩,ah⟩⟩,λl=> ?_⟩
 .rw [aV];intro e;rw [e]at c;exact c rfl
 .rw [aJ (lS j (f.le ah))]
def ayG{p1 f1 p2 f2}{d:List Ev×List Ev×Unit->Bool}{f:List Ev×List Ev×Unit->lX}(e:Y14 p1 f1)(i:Y88 p2 f2)(g:∀b a,aji b->d (b,a,())=true/\f (b,a,())=(bp (b=a),()))(a b:Sym)(c:ShY a):ah3.F (p1,f1,p2,f2,d,f,()) (a,b,()) (λy=>y=(bp (a=b),())):=by
 dsimp only [ah3,gm];simp (disch:=omega) only [RR,RB,e _ _ c.x,e _ _ c.y,i _ _ c.r,g _ _ c.e,iZ];simp only [nO,<-eH];refine Prod.ext (gP ?_) rfl;cases a;cases b;simp only [Sym.mk.injEq];constructor<;>(intro h;simp only [h,and_self])
abbrev Y94(d:aBZ->Bool)(c:aBZ->lX):Prop:=∀a b,a.ops.length<1000000000->d (a,b,())=true/\c (a,b,())=(bp (a=b),())
abbrev Y95(d:Sym×aCn->Bool)(c:Sym×aCn->lX):Prop:=∀a b,ShY a->d (a,b,())=true/\c (a,b,())=(bp (a=b),())
def ayH{p1 f1 p2 f2 p4 f4 p5 f5}{d:Unit->Bool}{j:Unit->List Atom×mI}(i:Y60 p1 f1)(n:Y94 p2 f2)(m:d ()=true/\(j ()).1=t4)(f:Y89 p4 f4)(l:Y95 p5 f5)(b c:Blk)(a:b.ops.length<1000000000)(hc:c.ops.length<1000000000):ah4.F (p1,f1,p2,f2,d,j,p4,f4,p5,f5,()) (b,c,()) (λy=>y=(chk b c,())):=by
 have k:ShT t4:=TF.1.sh;have y1:=Dz t4 b;dsimp only [ah4,gm];simp (disch:=omega) only [RR,RB,i b a,i c hc,n b c a,m,f t4 b k a,f _ c y1.2 hc,l _ _ y1.1,aF,gK];unfold chk;refine⟨λh=> ?_,λh=>⟨λe=> ?_,λe=> ?_⟩⟩
 .rw [aV];rintro⟨q,o,r,p,_⟩;simp_all
 .rw [aJ];exact⟨h.1.1.1,h.1.1.2,h.1.2,h.2,Or.inl e⟩
 .refine Prod.ext (gP ?_) rfl;exact⟨λg=>⟨h.1.1.1,h.1.1.2,h.1.2,h.2,Or.inr g⟩,λg=>g.2.2.2.2.resolve_left e⟩
abbrev Y96(d:aBZ->Bool)(a:aBZ->lX):Prop:=∀b c,b.ops.length<1000000000->c.ops.length<1000000000->d (b,c,())=true/\a (b,c,())=(chk b c,())
theorem mkB(p l o f x y k):Co.mk .blk (p,l,o,f,x,y,k,())=Blk.mk p l o f x y k:=rfl
structure anS(nm:List Int)(fin x y:Int)(ops:List IOp):Prop where
 op:∀i:Int,0<=i->i<ops.length->(hX ((ops).getD (i).toNat default)->0<=(((ops).getD (i).toNat default)).x/\(((ops).getD (i).toNat default)).x<nm.length)/\(hY ((ops).getD (i).toNat default)->0<=(((ops).getD (i).toNat default)).y/\(((ops).getD (i).toNat default)).y<nm.length)
 x:fin≠1->0<=x/\x<nm.length
 y:3<=fin->0<=y/\y<nm.length
 l:ops.length<1000000000
def ayI(b:Blk)(a:b.ops.length<1000000000):ah5.F () (b,()) (λy=>y=bk7 b):=by
 dsimp only [ah5,gm];simp (disch:=omega) only [RR,RB];omega
def ayJ(i c d e b f g:Int)(a:List IOp)(h:0<=i/\i<a.length):aiz.F () (i,c,d,e,b,f,g,a,()) (λy=>y=(decide ((((a).getD (i).toNat default)).kind=1),c,d,e,b,f,g,a,())):=by
 dsimp only [aiz,gm];simp (disch:=omega) only [RR,RB];omega
def ayK{p1 f1 p2 f2}(J:Y54 p1 f1)(I:Y53 p2 f2)(nm:List Int)(u len fin x y k:Int)(a:List IOp)(h:anS nm fin x y a):aiu.F (p1,f1,p2,f2,()) (nm,u,len,fin,x,y,k,a,()) (λz=>z=(u,len,fin,(if fin=1 then x else((nm).getD (x).toNat default)),(if 3<=fin then((nm).getD (y).toNat default)else y),k,a.map (ren nm),())):=by
 have N:=h.l;dsimp only [aiu,gm];simp (disch:=omega) only [RR,RB];refine ay (λ(z:List Int×H9)=>z.1=nm/\z.2.1=a.length/\0<=z.2.2.1/\z.2.2.1<=a.length/\z.2.2.2=(u,len,fin,x,y,k,(a.take z.2.2.1.toNat).map (ren nm)++a.drop z.2.2.1.toNat,())) (λz=>((a.length:Int)-z.2.2.1).toNat) ⟨rfl,rfl,by dsimp only;omega,by dsimp only;omega,rfl⟩ ?_;rintro⟨(g:List Int),(n:Int),(i:Int),(s:Int),(p:Int),(b:Int),(v:Int),(w:Int),(A:Int),(B:List IOp),⟨⟩⟩ hI;dsimp only at hI ⊢;simp only [Prod.mk.injEq,and_true]at hI;obtain⟨rfl,rfl,j,M,rfl,rfl,rfl,rfl,rfl,rfl,rfl⟩:=hI;have m:((a.take i.toNat).map (ren g)).length=i.toNat:=by rw [length_map,length_take];omega
 have K:=Au (l:=a) m ah;by_cases c:i<a.length
 .obtain⟨ox,oy⟩:=h.op i j c;have H:=Qz (d:=default) (l:=a) m ah;have C:=λq=>Ar (x:=q) (l:=a) m ah
  have mk:=Kj (d:=default) (f:=(a.take i.toNat).map (ren g)) (l:=a) (k:=i.toNat) ah;have F:=bA (d:=default) (l:=a) j c rfl;have D:∀q:IOp,(((a.take i.toNat).map (ren g)++ [q])++a.drop (i.toNat+1)).getD i.toNat default=q:=λq=>by
   rw [getD_lt (by rw [eG,eG,m];simp only [fA,fE];omega),getElem_append_left (by rw [eG,m];simp),getElem_append_right ah];simp only [m,Nat.sub_self,getElem_cons_zero]
  have E:∀q r:IOp,(((a.take i.toNat).map (ren g)++ [q])++a.drop (i.toNat+1)).set i.toNat r=((a.take i.toNat).map (ren g)++ [r])++a.drop (i.toNat+1):=λq r=>by
   rw [set_append_left _ _ (by rw [eG,m];simp),set_append_right _ _ ah,m,Nat.sub_self];rfl
  have L:∀q:IOp,(((a.take i.toNat).map (ren g)++ [q])++a.drop (i.toNat+1)).length=a.length:=λq=>by
   rw [eG,eG,m,length_drop];simp only [fA,fE];omega
  rw [mk]at H K C ⊢;generalize ((a).getD (i).toNat default)=o at*;simp (disch:=omega) only [RR,RB,I,D,E,L,c];have G:∀q:IOp,q=ren g o->(s,p,b,v,w,A,(a.take i.toNat).map (ren g)++ [q]++a.drop (i.toNat+1),())=(s,p,b,v,w,A,(a.take (i+1).toNat).map (ren g)++a.drop (i+1).toNat,()):=λq e=>by
   rw [e,<-F,map_append,show(i+1).toNat=i.toNat+1 by omega];rfl
  refine⟨j,j,λd=>⟨(ox d).1,(ox d).2,j,j,λe=>⟨(oy e).1,(oy e).2,j,j,⟨ah,ah,G _ ?_⟩,ah⟩,λe=>⟨⟨ah,ah,G _ ?_⟩,ah⟩⟩,λd=>⟨λe=>⟨(oy e).1,(oy e).2,j,j,⟨ah,ah,G _ ?_⟩,ah⟩,λe=>⟨⟨ah,ah,G _ ?_⟩,ah⟩⟩⟩
  all_goals unfold ren
  .rw [eB d,eB e]
  .rw [eB d,dY e]
  .rw [dY d,eB e]
  .rw [dY d,dY e]
 .have hx:=h.x;have t:=h.y;have z:(a.take i.toNat).map (ren g)++a.drop i.toNat=a.map (ren g):=by rw [take_of_length_le ah,drop_of_length_le ah,append_nil]
  rw [z];simp (disch:=omega) only [RR,RB,J,c,mkB];refine⟨λd=>⟨(hx d).1,(hx d).2,λe=>⟨(t e).1,(t e).2,?_⟩,λe=> ?_⟩,λd=>⟨λe=>⟨(t e).1,(t e).2,?_⟩,λe=> ?_⟩⟩
  .rw [dY (show¬b=1 from d),eB (show 3<=b from e)]
  .rw [dY (show¬b=1 from d),dY (show¬3<=b from e)]
  .rw [eB (show b=1 from Classical.byContradiction d),eB (show 3<=b from e)]
  .rw [eB (show b=1 from Classical.byContradiction d),dY (show¬3<=b from e)]
abbrev Y98(b:List Int×bf->Bool)(a:List Int×bf->bf):Prop:=∀(nm:List Int) pc len fin x y k ops,anS nm fin x y ops->b (nm,pc,len,fin,x,y,k,ops,())=true/\a (nm,pc,len,fin,x,y,k,ops,())=(pc,len,fin,(if fin=1 then x else((nm).getD (x).toNat default)),(if 3<=fin then((nm).getD (y).toNat default)else y),k,ops.map (ren nm),())
theorem ayL{p1 f1}(B:Y98 p1 f1)(b:Blk)(g:List Bool)(ok:dB b)(hk:g.length=b.ops.length):aiv.F (p1,f1,()) (b,g,()) (λy=>y=bk7 (tu b g)):=by
 have E:=ok.sz;dsimp only [aiv,gm];simp (disch:=omega) only [RR,RB];refine⟨ah,ah,ay (λ(y:List Bool×List IOp×Int×Int×Int×Int×Int×Int×Int×Int×List Int×bf)=>y.1=g/\y.2.1=b.ops/\y.2.2.1=b.ops.length/\0<=y.2.2.2.1/\y.2.2.2.1<=b.ops.length/\y.2.2.2.2.2.2.2.2.2.2=((kpS b.ops g y.2.2.2.1.toNat).1++(replicate b.ops.length (0:Int)).drop y.2.2.2.1.toNat,b.pc,b.len,b.fin,b.x,b.y,b.k,(kpS b.ops g y.2.2.2.1.toNat).2,())) (λy=>((b.ops.length:Int)-y.2.2.2.1).toNat) ⟨rfl,rfl,rfl,by dsimp only;omega,by dsimp only;omega,?_⟩ ?_⟩
 .rfl
 rintro⟨(f:List Bool),(A:List IOp),(n:Int),(i:Int),u1,u2,u3,u4,u5,u6,(nm:List Int),(J:Int),(len:Int),(fin:Int),(x:Int),(y:Int),(k:Int),(out:List IOp),⟨⟩⟩ hI;dsimp only at hI ⊢;simp only [Prod.mk.injEq,and_true]at hI;obtain⟨rfl,rfl,rfl,p,G,rfl,rfl,rfl,rfl,rfl,rfl,rfl,rfl⟩:=hI;obtain⟨v,K⟩:=qD b.ops f i.toNat;have u:(replicate b.ops.length (0:Int)).length=b.ops.length:=length_replicate;have C:=Au (l:=replicate b.ops.length (0:Int)) v ah;have s:=λ(q:Int) (h:i<b.ops.length)=>Ar (x:=q) (l:=replicate b.ops.length (0:Int)) v ah
 have fin:¬i<b.ops.length->kpS b.ops f i.toNat=kpS b.ops f b.ops.length:=λh=>by rw [show i.toNat=b.ops.length by omega]
 have F:kpS b.ops f (i+1).toNat=((kpS b.ops f i.toNat).1++ [((kpS b.ops f i.toNat).2.length:Int)],if f.getD i.toNat default=true then(kpS b.ops f i.toNat).2++ [((b.ops).getD (i).toNat default)]else(kpS b.ops f i.toNat).2):=by rw [show(i+1).toNat=i.toNat+1 by omega];rfl
 have D:tu b f=Kh (kpS b.ops f b.ops.length).1 b (kpS b.ops f b.ops.length).2:=rfl;have r:=ok.en;by_cases c:i<b.ops.length
 .have s:=λq=>s q c
  generalize w:kpS b.ops f (i+1).toNat=T at*;generalize kpS b.ops f i.toNat=S at*;simp (disch:=omega) only [RR,RB,C,s,c,eG,fA,fE,fH];rw [w,F,u,show(i+1).toNat=i.toNat+1 by omega];refine⟨p,p,c,p,c,p,ah,λd=>⟨ah,⟨ah,ah,?_⟩,ah⟩,λd=>⟨⟨ah,ah,?_⟩,ah⟩⟩
  .rw [eB d]
  .rw [d,dY (by decide)]
 .have e:=fin c;have z:(kpS b.ops f i.toNat).1++(replicate b.ops.length (0:Int)).drop i.toNat=(kpS b.ops f b.ops.length).1:=by
   rw [drop_of_length_le (by rw [u];omega),append_nil,e]
  have R:anS (kpS b.ops f b.ops.length).1 b.fin b.x b.y (kpS b.ops f b.ops.length).2:=by
   obtain⟨t,L⟩:=qD b.ops f b.ops.length;refine⟨λm H I=> ?_,λd=> ?_,λd=> ?_,ah⟩
   .obtain⟨j,j1,j2,j3⟩:=aa0 b.ops f (n:=b.ops.length) (m:=m.toNat) ah;have a:=(ajk b.ops f j1 j2).2;rw [j3]at a;rw [a,t];have o:=ok.op j ah ah;rw [show(j:Int).toNat=j from rfl]at o;exact⟨λd=>⟨(o.x1 d).1,by have:=(o.x1 d).2.1;omega⟩,λd=>⟨(o.y1 d).1,by have:=(o.y1 d).2.1;omega⟩⟩
   .rw [t];exact⟨(r.x1 d).1,(r.x1 d).2.1⟩
   .rw [t];exact⟨(r.y1 d).1,(r.y1 d).2.1⟩
  rw [z,e,D];generalize kpS b.ops f b.ops.length=N at*;simp (disch:=omega) only [RR,RB,c,B N.1 b.pc b.len b.fin b.x b.y b.k N.2 R];rfl
def ath{b:Blk}(f:dB b){j:Int}(e:0<=j)(d:j<b.ops.length)(a:((((fc b.ops b.ops.length)).getD (j).toNat default)).kind=1):0<=((((fc b.ops b.ops.length)).getD (j).toNat default)).k/\((((fc b.ops b.ops.length)).getD (j).toNat default)).k<=65535:=by
 rw [ajj b.ops (show j.toNat<b.ops.length by omega)]at a ⊢;unfold fcO at a ⊢;split at a
 .rename_i c;rw [eB c];exact Dr _ _ _
 .rename_i c;rw [dY c];exact(f.op j e d).k1 a
abbrev Y99(c:mF->Bool)(a:mF->bf):Prop:=∀b,b.ops.length<1000000000->c (b,())=true/\a (b,())=bk7 b
theorem ayM{p1 f1 p2 f2 p4 f4 p5 f5}{S:aCp->Bool}{f3:aCp->Bool×bf}(U1:Y99 p1 f1)(U2:Y60 p2 f2)(X:∀(i Q R J L K O:Int) (p:List IOp),0<=i/\i<p.length->S (i,Q,R,J,L,K,O,p,())=true/\f3 (i,Q,R,J,L,K,O,p,())=(decide ((((p).getD (i).toNat default)).kind=1),Q,R,J,L,K,O,p,()))(U4:Y24 p4 f4)(U5:Y59 p5 f5)(b:Blk)(hb:b.ops.length<1000000):aiA.F (p1,f1,p2,f2,S,f3,p4,f4,p5,f5,()) (b,()) (λy=>y=(gB b,())):=by
 dsimp only [aiA,gm];simp (disch:=omega) only [RR,RB,U1 b ah,U2 b ah,mkB];refine⟨λh=>by unfold gB;rw [h,dY (by decide)];rfl,λh=> ?_⟩;have ok:=aF.1 h;rw [DC ok];have a0:=ok.sz;refine ay (λ(y:Int×Int×Blk×Int×yc)=>y.1=b.ops.length/\0<=y.2.1/\y.2.1<=b.ops.length/\y.2.2.1=b/\y.2.2.2.2.2.2.2.2.2=(b.pc,b.len,b.fin,b.x,b.y,b.k,fc b.ops y.2.1.toNat++b.ops.drop y.2.1.toNat,())) (λy=>((b.ops.length:Int)-y.2.1).toNat) ⟨rfl,by dsimp only;omega,by dsimp only;omega,rfl,rfl⟩ ?_;rintro⟨(n:Int),(k:Int),(a:Blk),u1,u2,u3,u4,u5,u6,b1,b2,b3,b4,b5,b6,(p:List IOp),⟨⟩⟩ hI;dsimp only at hI ⊢;simp only [Prod.mk.injEq,and_true]at hI;obtain⟨rfl,u,T,rfl,rfl,rfl,rfl,rfl,rfl,rfl,rfl⟩:=hI;have I:=rD a.ops k.toNat;have B:=Au (l:=a.ops) I ah;have C:=λj P=>(X j a.pc a.len a.fin a.x a.y a.k (fc a.ops k.toNat++a.ops.drop k.toNat) P).2
 have t:=λj P=>(X j a.pc a.len a.fin a.x a.y a.k (fc a.ops k.toNat++a.ops.drop k.toNat) P).1
 by_cases c:k<a.ops.length
 .have o:=ok.op k u c;have V:=Qz (d:=default) (l:=a.ops) I ah;have lo:=λ(j:Int) (j0:0<=j) (j1:j<k)=>ajp (d:=default) (l:=a.ops) (j:=j.toNat) I ah
  have nx:fc a.ops (k+1).toNat=fc a.ops k.toNat++ [fcO (fc a.ops k.toNat) ((a.ops).getD (k).toNat default)]:=by rw [show(k+1).toNat=k.toNat+1 by omega];rfl
  have hk:=Kj (d:=default) (f:=fc a.ops k.toNat) (l:=a.ops) (k:=k.toNat) ah;have hs:=λx=>Ar (x:=x) (l:=a.ops) I ah
  have W:∀x:Int,Vl a.ops x k->0<=x/\x<k:=λx v=>⟨v.1,v.2.1⟩
  have w:fcO (fc a.ops k.toNat) ((a.ops).getD (k).toNat default)=if(((a.ops).getD (k).toNat default)).kind=3/\((((fc a.ops k.toNat)).getD ((((a.ops).getD (k).toNat default)).x).toNat default)).kind=1/\((((fc a.ops k.toNat)).getD ((((a.ops).getD (k).toNat default)).y).toNat default)).kind=1 then⟨1,0,0,wdo (((a.ops).getD (k).toNat default)).k ((((fc a.ops k.toNat)).getD ((((a.ops).getD (k).toNat default)).x).toNat default)).k ((((fc a.ops k.toNat)).getD ((((a.ops).getD (k).toNat default)).y).toNat default)).k,0⟩else((a.ops).getD (k).toNat default):=rfl
  generalize U:((a.ops).getD (k).toNat default)=q at*;generalize hM:fc a.ops k.toNat++a.ops.drop k.toNat=M at*;by_cases F:q.kind=3
  .have vx:=W _ (o.x1 (by unfold hX;omega));have vy:=W _ (o.y1 (Or.inl F));have m:0<=q.x/\q.x<M.length:=⟨vx.1,ah⟩;have s:0<=q.y/\q.y<M.length:=⟨vy.1,ah⟩;rw [<-lo _ vx.1 vx.2,<-lo _ vy.1 vy.2]at w;simp (disch:=omega) only [RR,RB,B,V,U,C _ m,t _ m,C _ s,t _ s,U4,c,F,m,s,decide_true,Bool.true_and];rw [nx,show(k+1).toNat=k.toNat+1 by omega];refine⟨u,u,λd=>⟨λe=>⟨ah,ah,ah,ah,u,u,⟨ah,ah,?_⟩,ah⟩,λe=>⟨⟨ah,ah,?_⟩,ah⟩⟩,λd=>⟨d,⟨ah,ah,?_⟩,ah⟩⟩
   .rw [eB ⟨F,e⟩]at w;rw [w,hs]
   .rw [dY (by rintro⟨_,E,H⟩;rw [E,H]at e;cases e)]at w;rw [w,hk]
   .rw [dY (by rintro⟨_,E,H⟩;exact d E)]at w;rw [w,hk]
  .simp (disch:=omega) only [RR,RB,B,V,U,c,F];rw [nx,show(k+1).toNat=k.toNat+1 by omega];refine⟨u,u,⟨ah,ah,?_⟩,ah⟩;rw [dY (λg=>F g.1)]at w;rw [w,hk]
 .have z:fc a.ops k.toNat++a.ops.drop k.toNat=fc a.ops a.ops.length:=by rw [drop_of_length_le ah,append_nil,show k.toNat=a.ops.length by omega]
  have fe:=ok.fe (rD a.ops a.ops.length);have Y:=fe.x;have Z:=fe.y;have hf:=fe.f;have y0:=fe.y0;have hp:=fe.p;dsimp only at Y Z hf y0 hp;rw [z]at C t ⊢;have B:=rD a.ops a.ops.length;have fi:=λ(j:Int) u T h3=>ath ok (j:=j) u T h3
  generalize fc a.ops a.ops.length=M at*;have G:¬(a.fin=2/\(((M).getD (a.x).toNat default)).kind=1)->¬(3<=a.fin/\(((M).getD (a.x).toNat default)).kind=1/\(((M).getD (a.y).toNat default)).kind=1)->fcB a M=⟨a.pc,a.len,M,a.fin,a.x,a.y,a.k⟩:=λE H=>by unfold fcB;rw [dY E,dY H]
  by_cases N:a.fin=1
  .rw [G ah ah];simp (disch:=omega) only [RR,RB,B,c,show¬a.fin=2 by omega,show¬3<=a.fin by omega,mkB,decide_false];rfl
  .have m:=Y N;by_cases r:a.fin=2
   .by_cases d:(((M).getD (a.x).toNat default)).kind=1
    .have e:fcB a M=⟨a.pc,a.len,M,1,0,a.y,(((M).getD (a.x).toNat default)).k⟩:=by unfold fcB;rw [eB ⟨r,d⟩]
     rw [e];simp (disch:=omega) only [RR,RB,B,c,eq_true r,eq_true d,mkB,C _ m,t _ m,decide_true,Bool.true_and,Bool.and_true,Bool.and_false];exact⟨m.1,ah,m.1,ah,rfl⟩
    .rw [G ah ah];simp (disch:=omega) only [RR,RB,B,c,eq_true r,d,show¬3<=a.fin by omega,mkB,C _ m,t _ m,decide_true,decide_false,Bool.true_and,Bool.and_true,Bool.and_false];rfl
   .have s:=Z ah;have A:3<=a.fin:=by omega
    by_cases D:(((M).getD (a.x).toNat default)).kind=1
    .by_cases d2:(((M).getD (a.y).toNat default)).kind=1
     .have e:fcB a M=⟨a.pc,a.len,M,1,0,0,if a.fin=3/\(((M).getD (a.x).toNat default)).k=(((M).getD (a.y).toNat default)).k\/a.fin=4/\(((M).getD (a.x).toNat default)).k< (((M).getD (a.y).toNat default)).k then a.k else a.pc+a.len⟩:=by unfold fcB;rw [dY ah,eB ⟨A,D,d2⟩]
      have r1:=bF.2 (fi a.x m.1 ah D);have r2:=bF.2 (fi a.y s.1 ah d2);rw [e];simp (disch:=omega) only [RR,RB,B,c,r,A,D,d2,mkB,C _ m,t _ m,C _ s,t _ s,U5,r1,r2,decide_true,decide_false,Bool.true_and,Bool.and_true,Bool.and_false];refine⟨m.1,ah,m.1,ah,s.1,ah,s.1,ah,λg=> ?_,λg=> ?_⟩
      .rw [dY ah];rfl
      .rw [eB ah];rfl
     .rw [G ah ah];simp (disch:=omega) only [RR,RB,B,c,r,A,D,d2,mkB,C _ m,t _ m,C _ s,t _ s,decide_true,decide_false,Bool.true_and,Bool.and_true,Bool.and_false];rfl
    .rw [G ah ah];simp (disch:=omega) only [RR,RB,B,c,r,A,D,mkB,C _ m,t _ m,decide_true,decide_false,Bool.true_and,Bool.and_true,Bool.and_false];rfl
def ayN{p1 f1 p2 f2 p3 f3}(I:Y99 p1 f1)(P:Y98 p2 f2)(O:Y60 p3 f3)(b:Blk)(Z:b.ops.length<1000000):aiB.F (p1,f1,p2,f2,p3,f3,()) (b,()) (λy=>y=(fC b,())):=by
 dsimp only [aiB,gm];simp (disch:=omega) only [RR,RB,I b ah,O b ah,fH];refine⟨λh=>by unfold fC;rw [h,dY (by decide)];rfl,λh=> ?_⟩;have ok:=aF.1 h;rw [TK ok];have V:=ok.sz;refine⟨ah,ah,ay (λ(y:List IOp×Int×Int×Blk×Int×Int×Int×Int×Int×Int×zx)=>y.1=b.ops/\y.2.1=b.ops.length/\0<=y.2.2.1/\y.2.2.1<=b.ops.length/\y.2.2.2.1=b/\y.2.2.2.2.2.2.2.2.2.2=((cpS b.ops y.2.2.1.toNat).1++(replicate b.ops.length (0:Int)).drop y.2.2.1.toNat,(cpS b.ops y.2.2.1.toNat).2,())) (λy=>((b.ops.length:Int)-y.2.2.1).toNat) ⟨rfl,rfl,by dsimp only;omega,by dsimp only;omega,rfl,rfl⟩ ?_⟩;rintro⟨(K:List IOp),(n:Int),(k:Int),(a:Blk),u1,u2,u3,u4,u5,u6,(nm:List Int),(la:List Int),⟨⟩⟩ hI;dsimp only at hI ⊢;simp only [Prod.mk.injEq,and_true]at hI;obtain⟨rfl,rfl,J,X,rfl,rfl,rfl⟩:=hI;obtain⟨H,l2⟩:=wu a.ops k.toNat;have p:(replicate a.ops.length (0:Int)).length=a.ops.length:=length_replicate;have C:=Au (l:=replicate a.ops.length (0:Int)) H ah;by_cases c:k<a.ops.length
 .have o:=ok.op k J c;have nx:cpS a.ops (k+1).toNat=((cpS a.ops k.toNat).1++ [cpN (cpS a.ops k.toNat) k ((a.ops).getD (k).toNat default)],cpL (cpS a.ops k.toNat) k ((a.ops).getD (k).toNat default)):=by
   rw [show(k+1).toNat=k.toNat+1 by omega,show k=((k.toNat:Nat):Int) by omega];rfl
  have s:=λ(q:Int)=>Ar (x:=q) (l:=replicate a.ops.length (0:Int)) H ah
  have t:∀q r:Int,(((cpS a.ops k.toNat).1++ [q])++(replicate a.ops.length (0:Int)).drop (k.toNat+1)).set k.toNat r=((cpS a.ops k.toNat).1++ [r])++(replicate a.ops.length (0:Int)).drop (k.toNat+1):=λq r=>by simp_all
  have D:∀q:Int,(((cpS a.ops k.toNat).1++ [q])++(replicate a.ops.length (0:Int)).drop (k.toNat+1)).length=a.ops.length:=λq=>by grind
  have Q:∀(q x:Int),0<=x->x<k->(((((cpS a.ops k.toNat).1++ [q])++(replicate a.ops.length (0:Int)).drop (k.toNat+1))).getD (x).toNat default)=(((cpS a.ops k.toNat).1).getD (x).toNat default):=λq x W x1=>by grind
  have F:=o.k2;have L:=λf:(((a.ops).getD (k).toNat default)).kind=8=>o.x1 (by unfold hX;omega)
  generalize u:((a.ops).getD (k).toNat default)=q at*;generalize A:cpS a.ops (k+1).toNat=T at*;generalize cpS a.ops k.toNat=S at*;have Y:∀i:Int,0<=i->i<S.2.length->S.2.set i.toNat ((S.2).getD (i).toNat default)=S.2:=λi i0 i1=>by simp_all
  have G:∀v w,v=cpN S k q->w=cpL S k q->((S.1++ [v])++(replicate a.ops.length (0:Int)).drop (k.toNat+1),w,())=(T.1++(replicate a.ops.length (0:Int)).drop (k+1).toNat,T.2,()):=λv w e1 e2=>by grind
  by_cases e:q.kind=2
  .have kk:=F (Or.inl e);by_cases j:0<=((S.2).getD (q.k).toNat default)
   .have g:=G (((S.2).getD (q.k).toNat default)) S.2 (by unfold cpN;rw [eB ⟨e,j⟩]) (by unfold cpL;rw [eB e,eB j]);simp (disch:=omega) only [RR,RB,C,s,t,D,p,c,u,eq_true e,eq_true j,A,g,decide_true,decide_false,Bool.true_and,Bool.and_true,Bool.and_false,Bool.false_and,false_and];omega
   .have g:=G k (S.2.set q.k.toNat k) (by unfold cpN;rw [dY (λq=>j q.2)]) (by unfold cpL;rw [eB e,dY j]);simp (disch:=omega) only [RR,RB,C,s,t,D,p,c,u,eq_true e,j,A,g,decide_true,decide_false,Bool.true_and,Bool.and_true,Bool.and_false,Bool.false_and,false_and];omega
  .by_cases f:q.kind=8
   .have kk:=F (Or.inr f);have v:=L f;have v0:=v.1;have v1:=v.2.1;have g:=G k (S.2.set q.k.toNat ((S.1).getD (q.x).toNat default)) (by unfold cpN;rw [dY (λq=>e q.1)]) (by unfold cpL;rw [dY e,eB f]);simp (disch:=omega) only [RR,RB,C,s,t,D,Q,p,c,u,e,eq_true f,A,g,decide_true,decide_false,Bool.true_and,Bool.and_true,Bool.and_false,Bool.false_and,false_and];omega
   .have g:=G k S.2 (by unfold cpN;rw [dY (λq=>e q.1)]) (by unfold cpL;rw [dY e,dY f]);simp (disch:=omega) only [RR,RB,C,s,t,D,p,c,u,e,f,A,g,decide_true,decide_false,Bool.true_and,Bool.and_true,Bool.and_false,Bool.false_and,false_and];omega
 .have z:(cpS a.ops k.toNat).1++(replicate a.ops.length (0:Int)).drop k.toNat=(cpS a.ops a.ops.length).1:=by
   rw [drop_of_length_le (by rw [p];omega),append_nil,show k.toNat=a.ops.length by omega]
  have B:=ok.en;have R:anS (cpS a.ops a.ops.length).1 a.fin a.x a.y a.ops:=by
   obtain⟨E,q2⟩:=wu a.ops a.ops.length;refine⟨λm M U=> ?_,λd=> ?_,λd=> ?_,ah⟩
   .have o:=ok.op m M U;rw [E];exact⟨λd=>⟨(o.x1 d).1,by have:=(o.x1 d).2.1;omega⟩,λd=>⟨(o.y1 d).1,by have:=(o.y1 d).2.1;omega⟩⟩
   .rw [E];exact⟨(B.x1 d).1,(B.x1 d).2.1⟩
   .rw [E];exact⟨(B.y1 d).1,(B.y1 d).2.1⟩
  rw [z];generalize (cpS a.ops a.ops.length).1=N at*;simp (disch:=omega) only [RR,RB,c,I a ah,P N a.pc a.len a.fin a.x a.y a.k a.ops R];rfl
def ayO{p1 f1 p2 f2}(B:Y54 p1 f1)(A:Y53 p2 f2)(b:Blk)(ok:dB b):aiw.F (p1,f1,p2,f2,()) (b,()) (λy=>y=(us b b.ops.length,())):=by
 have C:=ok.sz;have t:=ok.en;have m:¬b.fin=1->0<=b.x/\b.x<b.ops.length:=λc=>by have:=t.x1 c;exact⟨this.1,this.2.1⟩
 have l:3<=b.fin->0<=b.y/\b.y<b.ops.length:=λc=>by have:=t.y1 c;exact⟨this.1,this.2.1⟩
 dsimp only [aiw,gm];simp (disch:=omega) only [RR,RB,B,length_replicate,length_set,Int.toNat_natCast];refine⟨ah,ah,λc=>⟨(m c).1,(m c).2,(m c).1,(m c).2,λd=>⟨(l d).1,(l d).2,(l d).1,(l d).2,?_⟩,λd=> ?_⟩,λc=>⟨λd=>⟨(l d).1,(l d).2,(l d).1,(l d).2,?_⟩,λd=> ?_⟩⟩
 all_goals
  refine ay (λ(y:Int×Blk×O4)=> -1<=y.1/\y.1<b.ops.length/\y.2.1=b/\y.2.2.1=us b (b.ops.length-1-y.1).toNat) (λy=>(y.1+1).toNat) ⟨by dsimp only;omega,by dsimp only;omega,rfl,?_⟩ ?_
  .dsimp only;rw [show(b.ops.length-1- ((b.ops.length:Int)-1)).toNat=0 by omega];show _=us0 b;unfold us0;dsimp only
   first
    | rw [dY (show¬b.fin=1 from c),eB (show 3<=b.fin from d)]
    | rw [dY (show¬b.fin=1 from c),dY (show¬3<=b.fin from d)]
    | (rw [eB (show b.fin=1 from Classical.byContradiction c),eB (show 3<=b.fin from d)])
    | (rw [eB (show b.fin=1 from Classical.byContradiction c),dY (show¬3<=b.fin from d)])
  rintro⟨(j:Int),(a:Blk),(D:List Bool),⟨⟩⟩ hI;dsimp only at hI ⊢;obtain⟨E,f,rfl,rfl⟩:=hI;have s:=Cj a (a.ops.length-1-j).toNat;have i:0<=j->us a (a.ops.length-1- (j-1)).toNat=usO ((a.ops).getD (j).toNat default) j.toNat (us a (a.ops.length-1-j).toNat):=λg=>by
   rw [show(a.ops.length-1- (j-1)).toNat=(a.ops.length-1-j).toNat+1 by omega];show usO (a.ops.getD (a.ops.length-1- (a.ops.length-1-j).toNat) default) (a.ops.length-1- (a.ops.length-1-j).toNat) _=_;rw [show a.ops.length-1- (a.ops.length-1-j).toNat=j.toNat by omega]
  have r:¬0<=j->us a (a.ops.length-1-j).toNat=us a a.ops.length:=λg=>by rw [show(a.ops.length-1-j).toNat=a.ops.length by omega]
  generalize us a (a.ops.length-1-j).toNat=U at i r s ⊢;by_cases g:0<=j
  .have o:=ok.op j g f;have i:=i g;have n:=λc:hX ((a.ops).getD (j).toNat default)=>(o.x1 c)
   have k:=λc:hY ((a.ops).getD (j).toNat default)=>(o.y1 c)
   unfold usO at i;generalize v:((a.ops).getD (j).toNat default)=q at*;have u:∀x:Bool,(U.set j.toNat x).getD j.toNat default=x:=λx=>by rw [getD_lt (by rw [length_set];omega),getElem_set_self]
   simp (disch:=omega) only [RR,RB,A,s,length_set,u,v,g,eq_true g];rw [i];by_cases w:(U.getD j.toNat default || decide (4<=q.kind))=true
   .have w2:U.getD j.toNat default=true\/4<=q.kind:=by rw [Bool.or_eq_true,decide_eq_true_eq]at w;exact w
    rw [eB w,w];refine⟨f,f,f,f,f,f,f,λe=> ?_,λ_=>⟨λe=>⟨(n e).1,by have:=(n e).2.1;omega,(n e).1,by have:=(n e).2.1;omega,λh=>⟨(k h).1,by have:=(k h).2.1;omega,(k h).1,by have:=(k h).2.1;omega,⟨ah,ah,?_⟩,ah⟩,λh=>⟨⟨ah,ah,?_⟩,ah⟩⟩,λe=>⟨λh=>⟨(k h).1,by have:=(k h).2.1;omega,(k h).1,by have:=(k h).2.1;omega,⟨ah,ah,?_⟩,ah⟩,λh=>⟨⟨ah,ah,?_⟩,ah⟩⟩⟩⟩
    .rcases w2 with w2 | w2
     .rw [e.1]at w2;cases w2
     .exact absurd w2 e.2
    all_goals dsimp only
    .rw [eB e,eB h]
    .rw [eB e,dY h]
    .rw [dY e,eB h]
    .rw [dY e,dY h]
   .have w1:(U.getD j.toNat default || decide (4<=q.kind))=false:=by simpa using w
    rw [dY w,w1];have p:U.getD j.toNat default=false:=by rw [Bool.or_eq_false_iff]at w1;exact w1.1
    have z:U.set j.toNat false=U:=by rw [<-p,getD_lt (show j.toNat<U.length by omega),set_getElem_self]
    refine⟨f,f,f,f,f,f,f,λ_=>⟨⟨ah,ah,z⟩,ah⟩,λe=> ?_⟩;exfalso;rcases e with e | e
    .rw [p]at e;cases e
    .rw [decide_eq_true e,Bool.or_true]at w;exact w rfl
  .simp (disch:=omega) only [RR,RB,g,eq_false g,r g]
def anT(j:Nat)(D:List Bool)(v:Bool):(replicate (j+1) false++D).set j v=replicate j false++v::D:=by
 rw [replicate_succ',append_assoc,set_append_right _ _ (by rw [length_replicate];exact Nat.le_refl _),length_replicate,Nat.sub_self];rfl
def aju(j:Nat)(D:List Bool)(u v:Bool):(replicate j false++u::D).set j v=replicate j false++v::D:=by
 rw [set_append_right _ _ (by rw [length_replicate];exact Nat.le_refl _),length_replicate,Nat.sub_self];rfl
theorem ayP{p1 f1 p2 f2}(J:Y80 p1 f1)(G:Y60 p2 f2)(b:Blk)(P:b.ops.length<1000000):aiy.F (p1,f1,p2,f2,()) (b,()) (λy=>y=(kP b,())):=by
 dsimp only [aiy,gm];simp (disch:=omega) only [RR,RB,G b ah,Int.toNat_natCast];refine⟨λh=>by unfold kP;rw [h,dY (by decide)];rfl,λh=> ?_⟩;have ok:=aF.1 h;rw [TH ok];have M:=ok.sz;have L:(fV b.ops).length=b.ops.length:=by unfold fV;rw [length_map,length_range]
 refine⟨ah,ah,ah,ah,ay (λ(y:Int×Blk×Int×Int×Int×Int×Int×Int×List Bool×O4)=> -1<=y.1/\y.1<b.ops.length/\y.2.1=b/\y.2.2.2.2.2.2.2.2.1=replicate (y.1+1).toNat false++(fV b.ops).drop (y.1+1).toNat/\y.2.2.2.2.2.2.2.2.2.1.length=4/\∀r:Int,0<=r->r<=3->((y.2.2.2.2.2.2.2.2.2.1).getD (r).toNat default)=pF (b.ops.drop (y.1+1).toNat) r) (λy=>(y.1+1).toNat) ⟨by dsimp only;omega,by dsimp only;omega,rfl,?_,rfl,λr i k=> ?_⟩ ?_⟩
 .dsimp only;rw [show((b.ops.length:Int)-1+1).toNat=b.ops.length by omega,drop_of_length_le ah,append_nil]
 .dsimp only;rw [show((b.ops.length:Int)-1+1).toNat=b.ops.length by omega,drop_of_length_le ah];rcases(by omega:r=0\/r=1\/r=2\/r=3)with h | h | h | h<;>subst h<;>rfl
 rintro⟨(j:Int),(a:Blk),u1,u2,u3,u4,u5,u6,(O:List Bool),(N:List Bool),⟨⟩⟩ hI;dsimp only at hI ⊢;obtain⟨S,m,rfl,rfl,D,n⟩:=hI;by_cases c:0<=j
 .have o:=ok.op j c m;have I:(j+1).toNat=j.toNat+1:=by omega
  have Q:fV a.ops=fV a.ops:=rfl;have F:(fV a.ops).drop j.toNat=(!(decide ((((a.ops).getD (j).toNat default)).kind=8)&&pF (a.ops.drop (j.toNat+1)) (((a.ops).getD (j).toNat default)).k))::(fV a.ops).drop (j.toNat+1):=by
   rw [drop_eq_getElem_cons (show j.toNat< (fV a.ops).length by omega),<-getD_lt (d:=default) (show j.toNat< (fV a.ops).length by omega),Oc ah]
  have s:∀r,pF (a.ops.drop j.toNat) r=if(((a.ops).getD (j).toNat default)).kind=4\/(((a.ops).getD (j).toNat default)).kind=5\/(((a.ops).getD (j).toNat default)).kind=2/\(((a.ops).getD (j).toNat default)).k=r then false else if(((a.ops).getD (j).toNat default)).kind=8/\(((a.ops).getD (j).toNat default)).k=r then true else pF (a.ops.drop (j.toNat+1)) r:=λr=>by
   rw [drop_eq_getElem_cons (show j.toNat<a.ops.length by omega),Ki,<-getD_lt (d:=default) (show j.toNat<a.ops.length by omega)]
  rw [I]at n ⊢;have A:=o.k2;have x:∀v:Bool,(replicate j.toNat false++v::(fV a.ops).drop (j.toNat+1)).length=a.ops.length:=λv=>by rw [eG,length_replicate,fA,length_drop];omega
  have w:(replicate (j.toNat+1) false++(fV a.ops).drop (j.toNat+1)).length=a.ops.length:=by rw [eG,length_replicate,length_drop];omega
  generalize C:((a.ops).getD (j).toNat default)=q at*;simp (disch:=omega) only [RR,RB,w,x,anT,aju,D,C,c,eq_true c,length_set];simp only [Int.sub_add_cancel];have K:∀v,v=(!(decide (q.kind=8)&&pF (a.ops.drop (j.toNat+1)) q.k))->replicate j.toNat false++v::(fV a.ops).drop (j.toNat+1)=replicate j.toNat false++(fV a.ops).drop j.toNat:=λv e=>by rw [F,e]
  have E:∀r:Int,0<=r->r<=3->(((replicate 4 false)).getD (r).toNat default)=false:=λr i k=>by
   rcases(by omega:r=0\/r=1\/r=2\/r=3)with h | h | h | h<;>subst h<;>rfl
  have f:=λg=>A g
  refine⟨m,m,m,λl=> ?_,λl=>⟨λB=> ?_,λB=> ?_⟩⟩
  .have f:=A (Or.inr l);refine⟨f.1,ah,f.1,ah,m,m,f.1,ah,f.1,ah,⟨ah,ah,K _ ?_,λr i k=> ?_⟩,ah⟩
   .rw [n _ f.1 f.2,decide_eq_true l,Bool.true_and]
   .rw [s,Qy i f.1 ah];by_cases g:r=q.k
    .rw [eB g,dY ah,eB ⟨l,g.symm⟩]
    .rw [dY g,n r i k,dY ah,dY (λq=>g q.2.symm)]
  .have f:=A (Or.inl B);refine⟨f.1,ah,f.1,ah,⟨ah,ah,K _ ?_,λr i k=> ?_⟩,ah⟩
   .rw [decide_eq_false l,Bool.false_and];rfl
   .rw [s,Qy i f.1 ah];by_cases g:r=q.k
    .rw [eB g,eB ah]
    .rw [dY g,n r i k,dY ah,dY (λq=>l q.1)]
  .have kv:=K true (by rw [decide_eq_false l,Bool.false_and];rfl);have p:q.kind=4\/q.kind=5->∀r:Int,0<=r->r<=3->(((replicate 4 false)).getD (r).toNat default)=pF (a.ops.drop j.toNat) r:=λg r i k=>by rw [E r i k,s,eB ah]
   have H:¬q.kind=4->¬q.kind=5->∀r:Int,0<=r->r<=3->((N).getD (r).toNat default)=pF (a.ops.drop j.toNat) r:=λT U r i k=>by rw [n r i k,s,dY ah,dY (λq=>l q.1)]
   refine⟨λt=>⟨λ_=>⟨⟨ah,ah,kv,rfl,p (Or.inl t)⟩,ah⟩,λg=>absurd t g⟩,λt=>⟨λu=>⟨⟨ah,ah,kv,rfl,p (Or.inr u)⟩,ah⟩,λu=>⟨⟨ah,ah,kv,H t u⟩,ah⟩⟩⟩
 .have z:(j+1).toNat=0:=by omega
  rw [z];have R:replicate 0 false++(fV a.ops).drop 0=fV a.ops:=rfl;rw [R];simp (disch:=omega) only [RR,RB,c,eq_false c,J _ _ ok L];rfl
abbrev aA6(c:mF->Bool)(a:mF->O4):Prop:=∀b,dB b->c (b,())=true/\a (b,())=(us b b.ops.length,())
def ayQ{p1 f1 p2 f2 p3 f3}(c:Y80 p1 f1)(d:aA6 p2 f2)(e:Y60 p3 f3)(b:Blk)(f:b.ops.length<1000000):aix.F (p1,f1,p2,f2,p3,f3,()) (b,()) (λy=>y=(iW b,())):=by
 dsimp only [aix,gm];simp (disch:=omega) only [RR,RB,e b ah];refine⟨λh=>by unfold iW;rw [h,dY (by decide)];rfl,λh=> ?_⟩;have ok:=aF.1 h;have a:=Cj b b.ops.length;rw [TI ok,(d b ok).2,(c _ _ ok a).2];exact⟨(d b ok).1,(c _ _ ok a).1,rfl⟩
abbrev aA7(c:mF->Bool)(a:mF->mF):Prop:=∀b,b.ops.length<1000000->c (b,())=true/\a (b,())=(fC b,())
abbrev aA8(c:mF->Bool)(a:mF->mF):Prop:=∀b,b.ops.length<1000000->c (b,())=true/\a (b,())=(iW b,())
abbrev aA9(c:mF->Bool)(a:mF->mF):Prop:=∀b,b.ops.length<1000000->c (b,())=true/\a (b,())=(kP b,())
def ayR{p1 f1 p2 f2 p3 f3 p4 f4}(h:Y73 p1 f1)(i:aA7 p2 f2)(a:aA8 p3 f3)(g:aA9 p4 f4)(b:Blk)(f:b.ops.length<1000000):aiC.F (p1,f1,p2,f2,p3,f3,p4,f4,()) (b,()) (λy=>y=(zf b,())):=by
 have e:(fC b).ops.length<1000000:=Nat.lt_of_le_of_lt (wC b) f;have c:=Nat.lt_of_le_of_lt (ze (fC b)) e;have d:=Nat.lt_of_le_of_lt (wB (gB (fC b))) c;have j:=Nat.lt_of_le_of_lt (Ck (iW (gB (fC b)))) d;dsimp only [aiC,gm];simp (disch:=omega) only [RR,i b f,h _ e,a _ c,g _ d,a _ j];rfl
def ati(a b:Blk)(m:a.ops.length<1000000000):aaJ.F () (a,b,()) (λy=>y=(bp (a=b),())):=by
 dsimp only [aaJ,gm];simp (disch:=omega) only [RR,RB];refine⟨λh=> ?_,λh=> ?_⟩
 .rw [aV];rintro rfl;simp at h
 have f:a.ops.length=b.ops.length:=by omega
 refine ay (λ(y:Int×aBZ)=>y.2.1=a/\y.2.2.1=b/\0<=y.1/\y.1<=a.ops.length/\All y.1 (λi=>a.ops.getD i.toNat default=b.ops.getD i.toNat default)) (λy=>(a.ops.length-y.1).toNat) ⟨rfl,rfl,by simp,by simp,All.zero⟩ ?_;rintro⟨(i:Int),(j:Blk),(k:Blk),⟨⟩⟩ hI;dsimp only at hI ⊢;obtain⟨rfl,rfl,n,l,d⟩:=hI;simp (disch:=omega) only [RR,RB,ajt];refine⟨λg=>⟨ah,ah,ah,ah,λc=> ?_,λc=>⟨⟨ah,ah,d.snoc c⟩,ah⟩⟩,λg=> ?_⟩
 .rw [aV];rintro rfl;exact c rfl
 .have e:=lS f (d.le ah);rw [aJ];cases j;cases k;simp_all
abbrev aBa(c:mF->Bool)(a:mF->mF):Prop:=∀b,b.ops.length<1000000->c (b,())=true/\a (b,())=(zf b,())
variable{l:List Cer}
def ShC(l:List Cer):Prop:=l.length<1000/\∀q∈l,q.base.ops.length<1000000/\q.made.ops.length<1000000
def Gx(l:List Cer)(b c:Blk):Prop:=∃q∈l,q.base=b/\q.made=c
def uY(l:List Cer):Prop:=l.length<=3/\∀q∈l,chk q.base q.made=true
def ShC.at(h:ShC l)(i:Nat):(l.getD i default).base.ops.length<1000000/\(l.getD i default).made.ops.length<1000000:=by
 by_cases c:i<l.length
 .rw [getD_lt c];exact h.2 _ (getElem_mem _)
 .rw [getD_eq_getElem?_getD,getElem?_eq_none ah];exact⟨by decide,by decide⟩
def ShC.add(h:ShC l)(n:l.length<999){q:Cer}(b:q.base.ops.length<1000000)(a:q.made.ops.length<1000000):ShC (l++ [q]):=by
 refine⟨by rw [eG,length_singleton];omega,λc g=> ?_⟩;rw [mem_append,mem_singleton]at g;rcases g with g | rfl
 .exact h.2 c g
 .exact⟨b,a⟩
def ShD(l:List Cer):Prop:=l.length<1000000000/\∀q∈l,q.base.ops.length<1000000000/\q.made.ops.length<1000000000
def ShC.d(h:ShC l):ShD l:=⟨by have:=h.1;omega,λq g=>by have:=h.2 q g;omega⟩
def ShD.at(h:ShD l)(i:Nat):(l.getD i default).base.ops.length<1000000000/\(l.getD i default).made.ops.length<1000000000:=by
 by_cases c:i<l.length
 .rw [getD_lt c];exact h.2 _ (getElem_mem _)
 .rw [getD_eq_getElem?_getD,getElem?_eq_none ah];exact⟨by decide,by decide⟩
def CRB:(∀q:Cer,cO .cer 0 q=q.base.pc)/\(∀q:Cer,cO .cer 1 q=q.base.len)/\(∀q:Cer,jN .cer 2 .iop q=q.base.ops)/\(∀q:Cer,cO .cer 3 q=q.base.fin)/\(∀q:Cer,cO .cer 4 q=q.base.x)/\(∀q:Cer,cO .cer 5 q=q.base.y)/\(∀q:Cer,cO .cer 6 q=q.base.k)/\
  (∀q:Cer,cO .cer 7 q=q.made.pc)/\(∀q:Cer,cO .cer 8 q=q.made.len)/\(∀q:Cer,jN .cer 9 .iop q=q.made.ops)/\(∀q:Cer,cO .cer 10 q=q.made.fin)/\(∀q:Cer,cO .cer 11 q=q.made.x)/\(∀q:Cer,cO .cer 12 q=q.made.y)/\(∀q:Cer,cO .cer 13 q=q.made.k)/\
  (∀x,Co.mk .blk x=⟨x.1,x.2.1,x.2.2.1,x.2.2.2.1,x.2.2.2.2.1,x.2.2.2.2.2.1,x.2.2.2.2.2.2.1⟩):=
 ⟨λ_=>rfl,λ_=>rfl,λ_=>rfl,λ_=>rfl,λ_=>rfl,λ_=>rfl,λ_=>rfl,λ_=>rfl,λ_=>rfl,λ_=>rfl,λ_=>rfl,λ_=>rfl,λ_=>rfl,λ_=>rfl,λ_=>rfl⟩
def Hw{α:Type}{d:α}{l:List α}{i:Nat}{G:α->Prop}(h:i<l.length):(∃q∈l.take (i+1),G q)↔(∃q∈l.take i,G q)\/G (l.getD i d):=by
 rw [take_succ_eq_append_getElem h,getD_lt h];constructor
 .rintro⟨q,a,h2⟩;rw [mem_append,mem_singleton]at a;rcases a with a | rfl
  .exact Or.inl ⟨q,a,h2⟩
  .exact Or.inr h2
 .rintro(⟨q,a,h2⟩ | h)
  .exact⟨q,mem_append_left _ a,h2⟩
  .exact⟨_,mem_append_right _ (mem_singleton.2 rfl),h⟩
theorem ayS{p1 f1}(a:Y94 p1 f1)(q:Cer)(b c:Blk)(e:q.base.ops.length<1000000000)(d:q.made.ops.length<1000000000):aic.F (p1,f1,()) (q,b,c,()) (λy=>y=(bp (q.base=b/\q.made=c),b,c,())):=by
 have mE:∀c:Blk,Co.mk .blk (c.pc,c.len,c.ops,c.fin,c.x,c.y,c.k,())=c:=λ_=>rfl
 dsimp only [aic,gm,jU];simp (disch:=omega) only [RR,CRB,mE,a _ b e,a _ c d,eH]
theorem ayT{p1 f1}(a:Y96 p1 f1)(q:Cer)(d:q.base.ops.length<1000000000)(b:q.made.ops.length<1000000000):aib.F (p1,f1,()) (q,()) (λy=>y=(!chk q.base q.made,())):=by
 have mE:∀c:Blk,Co.mk .blk (c.pc,c.len,c.ops,c.fin,c.x,c.y,c.k,())=c:=λ_=>rfl
 dsimp only [aib,gm,jU];simp (disch:=omega) only [RR,CRB,mE,a _ _ d b]
def atj{o:Cer×aBZ->Bool}{m:Cer×aBZ->Bool×aBZ}(r:∀q b c,q.base.ops.length<1000000000->q.made.ops.length<1000000000->o (q,b,c,())=true/\m (q,b,c,())=(bp (q.base=b/\q.made=c),b,c,()))(l:List Cer)(b c:Blk)(h:ShC l):aav.F (o,m,()) (l,b,c,()) (λy=>y.2=(b,c,())/\(0<=y.1↔Gx l b c)):=by
 have t:=h.1;dsimp only [aav,gm];simp (disch:=omega) only [RR];refine ay (λ(y:List Cer×Int×Int×aBZ)=>y.1=l/\y.2.1=l.length/\0<=y.2.2.1/\y.2.2.1<=l.length/\y.2.2.2.1=b/\y.2.2.2.2.1=c/\¬Gx (l.take y.2.2.1.toNat) b c) (λy=>(l.length-y.2.2.1).toNat) ⟨rfl,rfl,by simp,by simp,rfl,rfl,by rintro⟨q,h,_⟩;cases h⟩ ?_;rintro⟨(p:List Cer),(n:Int),(i:Int),(k:Blk),(j:Blk),⟨⟩⟩ hI;dsimp only at hI ⊢;obtain⟨rfl,rfl,d,s,rfl,rfl,f⟩:=hI;have a:=h.at i.toNat;simp (disch:=omega) only [RR,r _ k j (show(((p).getD (i).toNat default)).base.ops.length<1000000000 by omega) (show(((p).getD (i).toNat default)).made.ops.length<1000000000 by omega),aF,gK];refine⟨λg=>⟨d,g,λe=> ?_,λe=>⟨⟨ah,ah,?_⟩,ah⟩⟩,λg=> ?_⟩
 .exact⟨λ_=>⟨_,bV d g,e⟩,λ_=>d⟩
 .rw [show(i+1).toNat=i.toNat+1 by omega];exact λx=>((Hw (G:=λq:Cer=>q.base=k/\q.made=j) ah).1 x).elim f e
 .rw [take_of_length_le ah]at f;exact⟨λx=>absurd x (by decide),λx=>absurd x f⟩
def atl{f:Cer×Unit->Bool}{d:Cer×Unit->lX}(k:∀q,q.base.ops.length<1000000000->q.made.ops.length<1000000000->f (q,())=true/\d (q,())=(!chk q.base q.made,()))(l:List Cer)(h:ShD l):aaw.F (f,d,()) (l,()) (λy=>0<=y.1↔∃q∈l,chk q.base q.made=false):=by
 have o:=h.1;dsimp only [aaw,gm];simp (disch:=omega) only [RR];refine ay (λ(y:List Cer×sj)=>y.1=l/\y.2.1=l.length/\0<=y.2.2.1/\y.2.2.1<=l.length/\¬∃q∈l.take y.2.2.1.toNat,chk q.base q.made=false) (λy=>(l.length-y.2.2.1).toNat) ⟨rfl,rfl,by simp,by simp,by rintro⟨q,h,_⟩;cases h⟩ ?_;rintro⟨(j:List Cer),(n:Int),(i:Int),⟨⟩⟩ hI;dsimp only at hI ⊢;obtain⟨rfl,rfl,b,m,c⟩:=hI;have a:=h.at i.toNat;simp (disch:=omega) only [RR,k _ (show(((j).getD (i).toNat default)).base.ops.length<1000000000 by omega) (show(((j).getD (i).toNat default)).made.ops.length<1000000000 by omega)];refine⟨λg=>⟨b,g,λe=> ?_,λe=>⟨⟨ah,ah,?_⟩,ah⟩⟩,λg=> ?_⟩
 .exact⟨λ_=>⟨_,bV b g,e⟩,λ_=>b⟩
 .rw [show(i+1).toNat=i.toNat+1 by omega];exact λx=>((Hw (G:=λq:Cer=>chk q.base q.made=false) ah).1 x).elim c (λz=>by rw [e]at z;cases z)
 .rw [take_of_length_le ah]at c;exact⟨λx=>absurd x (by decide),λx=>absurd x c⟩
def atm{d:aCm->Bool}{a:aCm->Int×aBZ}(e:∀l b c,ShC l->d (l,b,c,())=true/\((a (l,b,c,())).2=(b,c,())/\(0<=(a (l,b,c,())).1↔Gx l b c)))(l:List Cer)(b c:Blk)(h:ShC l):aax.F (d,a,()) (l,b,c,()) (λy=>y=(bp (Gx l b c),b,c,())):=by
 obtain⟨f,i⟩:=(e l b c h).2;have g:(a (l,b,c,())).2.1=b:=congrArg Prod.fst f;have j:(a (l,b,c,())).2.2.1=c:=congrArg (λz=>z.2.1) f;dsimp only [aax,gm];simp (disch:=omega) only [RR,(e l b c h).1,g,j,nO,gP i]
def atn{a:qj->Bool}{b:qj->eu}(c:∀l,ShD l->a (l,())=true/\((0<=(b (l,())).1↔∃q∈l,chk q.base q.made=false)))(l:List Cer)(h:ShD l):aay.F (a,b,()) (l,()) (λy=>y=(bp (∃q∈l,chk q.base q.made=false),())):=by
 dsimp only [aay,gm];simp (disch:=omega) only [RR,(c l h).1,nO,gP ((c l h).2)]
def ayU{a:aCm->Bool}{d:aCm->Bool×aBZ}(e:∀l b c,ShC l->a (l,b,c,())=true/\d (l,b,c,())=(bp (Gx l b c),b,c,()))(l:List Cer)(b c:Blk)(h:ShC l):aiH.F (a,d,()) (l,b,c,()) (λy=>y=(bp (Gx l b c),())):=by
 dsimp only [aiH,gm];simp (disch:=omega) only [RR,e l b c h]
def ayV{b:qj->Bool}{f:qj->lX}(k:∀l,ShD l->b (l,())=true/\(f (l,())=(bp (∃q∈l,chk q.base q.made=false),())))(l:List Cer)(h:ShD l):aie.F (b,f,()) (l,()) (λy=>y=(bp (uY l),())):=by
 dsimp only [aie,gm];simp (disch:=omega) only [RR,k l h];have e:(!bp (∃q∈l,chk q.base q.made=false))=bp (∀q∈l,chk q.base q.made=true):=by
  by_cases c:∃q∈l,chk q.base q.made=false
  .rw [aJ c,aV]; · rfl
   intro g;obtain⟨q,a,i⟩:=c;rw [g q a]at i;cases i
  .rw [aV c,aJ]; · rfl
   intro q a;by_cases d:chk q.base q.made=true
   .exact d
   .exact absurd ⟨q,a,by simpa using d⟩ c
 rw [e,nO,<-eH];exact Prod.ext (gP (by unfold uY;constructor<;>rintro⟨m,j⟩<;>exact⟨ah,j⟩)) rfl
def ato(a b:Blk)(m:a.ops.length<1000000000):WR.F () (a,b,()) (λy=>y=(bp (a=b),())):=by
 dsimp only [WR,gm];simp (disch:=omega) only [RR,RB];refine⟨λh=> ?_,λh=> ?_⟩
 .rw [aV];rintro rfl;simp at h
 have f:a.ops.length=b.ops.length:=by omega
 refine ay (λ(y:Int×aBZ)=>y.2.1=a/\y.2.2.1=b/\0<=y.1/\y.1<=a.ops.length/\All y.1 (λi=>a.ops.getD i.toNat default=b.ops.getD i.toNat default)) (λy=>(a.ops.length-y.1).toNat) ⟨rfl,rfl,by simp,by simp,All.zero⟩ ?_;rintro⟨(i:Int),(j:Blk),(k:Blk),⟨⟩⟩ hI;dsimp only at hI ⊢;obtain⟨rfl,rfl,n,l,d⟩:=hI;simp (disch:=omega) only [RR,RB,ajt];refine⟨λg=>⟨ah,ah,ah,ah,λc=> ?_,λc=>⟨⟨ah,ah,d.snoc c⟩,ah⟩⟩,λg=> ?_⟩
 .rw [aV];rintro rfl;exact c rfl
 .have e:=lS f (d.le ah);rw [aJ];cases j;cases k;simp_all
theorem atp{p1 f1}(n:Y94 p1 f1)(l:List Cer)(b c:Blk)(h:ShC l):YF.F (p1,f1,()) (l,b,c,()) (λy=>y=(bp (Gx l b c),())):=by
 have p:=h.1;have mE:∀c:Blk,Co.mk .blk (c.pc,c.len,c.ops,c.fin,c.x,c.y,c.k,())=c:=λ_=>rfl
 dsimp only [YF,gm,jU];simp (disch:=omega) only [RR];refine ay (λ(y:List Cer×Int×aBZ)=>y.1=l/\0<=y.2.1/\y.2.1<=l.length/\y.2.2.1=b/\y.2.2.2.1=c/\¬Gx (l.take y.2.1.toNat) b c) (λy=>(l.length-y.2.1).toNat) ⟨rfl,by simp,by simp,rfl,rfl,by rintro⟨q,h,_⟩;cases h⟩ ?_;rintro⟨(m:List Cer),(i:Int),(f:Blk),(d:Blk),⟨⟩⟩ hI;dsimp only at hI ⊢;obtain⟨rfl,j,o,rfl,rfl,k⟩:=hI;have a:=h.at i.toNat;simp (disch:=omega) only [RR,CRB,mE,n (((m).getD (i).toNat default)).base f ah,n (((m).getD (i).toNat default)).made d ah,aF,gK];refine⟨λg=>⟨j,g,Or.inr j,Or.inr g,λe=> ?_,λe=>⟨⟨ah,ah,?_⟩,ah⟩⟩,λg=> ?_⟩
 .rw [aJ (show Gx m f d from⟨_,bV j g,e⟩)]
 .rw [show(i+1).toNat=i.toNat+1 by omega];rw [<-eH]at e;exact λx=>((Hw (G:=λq:Cer=>q.base=f/\q.made=d) ah).1 x).elim k (gK.1 e)
 .rw [take_of_length_le ah]at k;rw [aV k]
abbrev ayW(d:aCm->Bool)(a:aCm->lX):Prop:=∀l b c,ShC l->d (l,b,c,())=true/\a (l,b,c,())=(bp (Gx l b c),())
abbrev ayX(b:qj->Bool)(a:qj->lX):Prop:=∀l,ShD l->b (l,())=true/\a (l,())=(bp (uY l),())
end Go.TX.F
namespace Go.TX.F
open Go Go.AE Go.TX List
structure Ren(s:Int->Int)(t:Int->Int)(n:Int):Prop where
 rng:∀k,0<=k->k<n->0<=s k/\s k<=199
 back:∀k,0<=k->k<n->t (s k)=k
def mapM(s:Int->Int)(m:au):au:=⟨m.bD,oD (m.atoms.map s)⟩
def ajv(b:Blk):chk b b=bp (dB b):=by
 by_cases h:dB b
 .rw [aJ h];exact(Lk.refl h).chk
 .rw [aV h];unfold chk;exact aV λg=>h g.1
def atq{p1 f1}(e:Y13 p1 f1)(a:List (List au))(b:ShP a):XB.F (p1,f1,()) (a,()) (λy=>y=(a,())):=by
 have d:=b.1;dsimp only [XB,gm];refine ay (λ(y:List (List au)×Int×mI)=>y.1=a/\y.2.2.1=a.take y.2.1.toNat/\0<=y.2.1/\y.2.1<=a.length) (λy=>(a.length-y.2.1).toNat) ⟨rfl,by simp,by simp,by simp⟩ ?_;rintro⟨(l:List (List au)),(i:Int),(o:List (List au)),⟨⟩⟩ hI;dsimp only at hI ⊢;obtain⟨rfl,rfl,f,g⟩:=hI;simp (disch:=omega) only [RR,e _ (b.at _)];refine⟨λc=>⟨ah,ah,?_,⟨bA f c rfl,ah,ah⟩,ah⟩,λc=>by rw [take_of_length_le ah]⟩;have:=length_take_le' i.toNat l;simp only [fA,fE];omega
def atr(k:Int)(l:List (List au)):Xi.F () (k,l,()) (λy=>y=(if k<0\/(l.length:Int)<=k then []else((l).getD (k).toNat default),l,())):=by
 dsimp only [Xi,gm];simp (disch:=omega) only [RR];refine⟨λh=>by rw [eB ah],λh=>⟨ah,ah,ah,ah,by rw [dY ah]⟩⟩
def uf(l:List Ev)(k:Int):Int:=((l.filter λe=>decide (e.kind=k)).length:Int)
def Av(l:List Ev)(e:Ev)(k:Int):uf (l++ [e]) k=if e.kind=k then uf l k+1 else uf l k:=by
 unfold uf;rw [filter_append,eG];by_cases c:e.kind=k
 .rw [eB c,filter_cons_of_pos (by simpa using c)];simp
 .rw [dY c,filter_cons_of_neg (by simpa using c)];simp
def att(l:List Ev)(k:Int)(c:l.length<1000000000):Xz.F () (l,k,()) (λy=>y=(uf l k,())):=by
 dsimp only [Xz,gm];refine ay (λ(y:List Ev×aCf)=>y.1=l/\y.2.1=k/\y.2.2.1=uf (l.take y.2.2.2.1.toNat) k/\0<=y.2.2.2.1/\y.2.2.2.1<=l.length) (λy=>(l.length-y.2.2.2.1).toNat) ⟨rfl,rfl,by simp;rfl,by simp,by simp⟩ ?_;rintro⟨(l:List Ev),(k:Int),(n:Int),(i:Int),⟨⟩⟩ hI;dsimp only at hI ⊢;obtain⟨rfl,rfl,rfl,f,d⟩:=hI;have b:0<=uf (l.take i.toNat) k/\uf (l.take i.toNat) k<=i:=by
  unfold uf;have:=length_filter_le (λe:Ev=>decide (e.kind=k)) (l.take i.toNat);have:=length_take_le i.toNat l;omega
 simp (disch:=omega) only [RR,RB];refine⟨λa=>⟨ah,ah,?_⟩,λa=>by rw [take_of_length_le ah]⟩;have e:l.take (i+1).toNat=l.take i.toNat++ [((l).getD (i).toNat default)]:=by rw [show(i+1).toNat=i.toNat+1 by omega,take_succ_eq_append_getElem ah,getD_lt (show i.toNat<l.length by omega)]
 refine⟨λg=>⟨⟨?_,ah,ah⟩,ah⟩,λg=>⟨⟨?_,ah,ah⟩,ah⟩⟩
 .rw [e,Av,eB g]
 .rw [e,Av,dY g]
def atu{p1 f1 p2 f2}{a:List Ev×eu->Bool}{b:List Ev×eu->eu}(d:Y28 p1 f1)(e:Y35 p2 f2)(c:∀l k,l.length<1000000000->a (l,k,())=true/\b (l,k,())=(uf l k,()))(l:List Ev)(k:Int)(t:List Atom)(f:l.length<1000000000)(g:ShT t)(hk:aI t):XA.F (p1,f1,p2,f2,a,b,()) (l,k,t,()) (λy=>y=((aU t ⟨if k=6 then 3 else 2,uf l k,[],[]⟩).1,fJ (aU t ⟨if k=6 then 3 else 2,uf l k,[],[]⟩).2,())):=by
 have sh:∀n:Int,ShA ⟨n,uf l k,[],[]⟩:=λn=>⟨⟨by simp,λm hm=>absurd hm (by simp)⟩,⟨by simp,λm hm=>absurd hm (by simp)⟩⟩
 dsimp only [XA,gm];simp (disch:=omega) only [RR,c l k f,e _ t (sh _) g hk,d];exact⟨λh=>by rw [eB h],λh=>by rw [dY h]⟩
def atv{p1 f1 p2 f2}(a:Y13 p1 f1)(c:Y56 p2 f2)(o:IOp)(x y:List au)(r:List (List au))(e:Sh x)(b:Sh y)(d:ShP r):XC.F (p1,f1,p2,f2,()) (o,x,y,r,()) (λz=>z=(o.kind,o.at_,if o.kind=6 then []else x,if o.kind=5 then y else [],if o.kind=4\/o.kind=5 then r else [],())):=by
 dsimp only [XC,gm];simp (disch:=omega) only [RR,RB,a x e,a y b,c r d];refine⟨λh=>⟨λg=> ?_,λg=> ?_⟩,λh=>⟨λg=> ?_,λg=> ?_⟩⟩
 all_goals refine⟨λk=> ?_,λk=> ?_⟩
 all_goals first | rw [eB h] | rw [dY h]
 all_goals first | rw [eB g] | rw [dY g]
 all_goals first | rw [eB k] | rw [dY ah]
def atw(s:Sym)(k:Int):XF.F () (s,k,()) (λy=>y=(s.events,s.regs,1,k,())):=by
 dsimp only [XF,gm];simp (disch:=omega) only [RR,RB]
def atx(b:Blk):XD.F () (b,()) (λy=>y=(if b.fin=1 then-1 else b.x,())):=by
 dsimp only [XD,gm];simp (disch:=omega) only [RR,RB];exact⟨λh=>by rw [eB h],λh=>by rw [dY h]⟩
def aty(b:Blk):XE.F () (b,()) (λy=>y=(if b.fin=1\/b.fin=2 then-1 else b.y,())):=by
 dsimp only [XE,gm];simp (disch:=omega) only [RR,RB];exact⟨λh=>by rw [eB h],λh=>by rw [dY ah]⟩
abbrev ayY(b:Sym×eu->Bool)(a:Sym×eu->List Ev×List (List au)×sj):Prop:=∀s k,b (s,k,())=true/\a (s,k,())=(s.events,s.regs,1,k,())
def atz{p1 f1 p2 f2 p3 f3}(m:Y27 p1 f1)(q:Y8 p2 f2)(o:ayY p3 f3)(s:Sym)(n:Int)(h:ShY s)(r:aW s.x)(p:aW s.y)(j:s.fin=3\/s.fin=4):XG.F (p1,f1,p2,f2,p3,f3,()) (s,n,()) (λy=>y=(symEnd s n,())):=by
 dsimp only [XG,gm];simp (disch:=omega) only [RR,RB,m _ h.x,m _ h.y,q _ _ h.x,o];have z:ji s.x s.y=0↔s.x=s.y:=iZ;have d:(bP s.x).2=true->(bP s.y).2=true->(bP s.x).1=(bP s.y).1->s.x=s.y:=λa b c=>(oO a).2.1.trans ((congrArg dV c).trans (oO b).2.1.symm)
 unfold symEnd;rw [aJ ⟨r,p⟩,dY (show¬(true=false) by decide),dY (show¬(s.fin=2/\(bP s.x).2=true) by omega),dY (show¬(s.fin≠3/\s.fin≠4) by omega)];simp only [z];by_cases c:s.x=s.y
 .have l:¬(bP s.x).1< (bP s.y).1:=by rw [c];omega
  rcases j with f | f<;>simp [c,f]
 .rcases j with f | f<;>by_cases k:(bP s.x).2=true<;>by_cases i:(bP s.y).2=true<;>by_cases l:(bP s.x).1< (bP s.y).1<;>by_cases g:0<ji s.x s.y<;>simp [c,f,k,i,l,g]
  all_goals rw [dY λe=>c (d k i e)]
def atA{p1 f1 p2 f2 p3 f3 p4 f4 p6 f6}{r:Sym×eu->Bool}{A:Sym×eu->aCn}(C:Y27 p1 f1)(w:Y11 p2 f2)(m:Y13 p3 f3)(B:ayY p4 f4)(u:∀s n,ShY s->aW s.x->aW s.y->(s.fin=3\/s.fin=4)->r (s,n,())=true/\A (s,n,())=(symEnd s n,()))(v:Y56 p6 f6)(s:Sym)(n:Int)(j:ShY s):XH.F (p1,f1,p2,f2,p3,f3,p4,f4,r,A,p6,f6,()) (s,n,()) (λy=>y=(symEnd s n,())):=by
 dsimp only [XH,gm];simp (disch:=omega) only [RR,RB,w _ j.x,w _ j.y];have le:=j.e.1;have no:(bp (aW s.x)=false\/bp (aW s.y)=false)->symEnd s n=aeG:=λh=>by
  unfold symEnd;rw [eB];rw [eH];rcases h with h | h<;>rw [h]<;>simp
 refine⟨λh=>by rw [no h];rfl,λh=> ?_⟩;have q:=aF.1 h.1;have p:=aF.1 h.2;refine ay (λ(y:Int×Int×Sym×Int×Int×List (List au)×Int×List au×List au×Int×List Ev×Unit)=>y.1=n/\y.2.2.1=s/\y.2.2.2.2.2.2.1=s.fin/\y.2.2.2.2.2.2.2.2.2.1=s.k/\0<=y.2.1/\y.2.1<=s.events.length/\y.2.2.2.2.2.2.2.2.2.2.1=s.events.take y.2.1.toNat) (λy=>(s.events.length-y.2.1).toNat) ⟨rfl,rfl,rfl,rfl,by simp,by simp,by simp⟩ ?_;rintro⟨(o:Int),(i:Int),(a:Sym),(z1:Int),(z2:Int),(z3:List (List au)),(fin:Int),(z4:List au),(G:List au),(k:Int),(ev:List Ev),⟨⟩⟩ hI;dsimp only at hI ⊢;obtain⟨rfl,rfl,rfl,rfl,t,D,rfl⟩:=hI;have E:=j.e.at i.toNat;have tl:=length_take_le' i.toNat a.events;by_cases g:i<a.events.length
 .simp (disch:=omega) only [RR,RB,g,m _ E.1,m _ E.2.1,v _ E.2.2];exact⟨t,by simp only [fA,fE];omega,⟨ah,ah,bA t g rfl⟩,ah⟩
 .have ef:a.events.take i.toNat=a.events:=take_of_length_le ah;rw [ef];simp (disch:=omega) only [RR,RB,g,m _ j.x,m _ j.y,v _ j.r,C _ j.x,B];have b:¬bp (aW a.x/\aW a.y)=false:=by rw [aJ ⟨q,p⟩];decide
  have P:=λf=>(u a o j q p f).1
  have F:=λf=>(u a o j q p f).2
  have x:a.fin≠3/\a.fin≠4->¬(a.fin=2/\(bP a.x).2=true)->symEnd a o=a:=λc d=>by unfold symEnd;rw [dY b,dY d,eB c]
  refine⟨λf=>⟨λg=> ?_,λg=> ?_⟩,λf=>⟨λk=>⟨λ_=>⟨P (Or.inl k),?_⟩,λe=>absurd k e⟩,λk=>⟨λl=>⟨P (Or.inr l),?_⟩,λl=> ?_⟩⟩⟩
  .unfold symEnd;rw [dY b,eB ⟨f,g⟩]
  .rw [x ah (by rw [g];simp)]
  .exact congrArg (λz=>(z.1,())) (F (Or.inl k))
  .exact congrArg (λz=>(z.1,())) (F (Or.inr l))
  .rw [x ⟨k,l⟩ (λh=>f h.1)]
structure Cn(s:SS):Prop where
 ld:s.ld=uf s.evs 4
 inn:s.inn=uf s.evs 6
def Cn.stp{s:SS}(h:Cn s)(o:IOp):Cn (stp s o):=by
 constructor
 .show(if o.kind=4 then s.ld+1 else s.ld)=uf (nE s o) 4;unfold nE;by_cases c:evO o
  .rw [eB c,Av,h.ld]
  .rw [dY c,dY (λe=>c (by unfold evO;omega)),h.ld]
 .show(if o.kind=6 then s.inn+1 else s.inn)=uf (nE s o) 6;unfold nE;by_cases c:evO o
  .rw [eB c,Av,h.inn]
  .rw [dY c,dY (λe=>c (by unfold evO;omega)),h.inn]
def Cn.run:∀(l:List IOp) (s:SS),Cn s->Cn (l.foldl Go.TX.F.stp s)
 | [],_,h=>h
 | o::r,s,h=>Cn.run r _ (h.stp o)
structure Pt2(t:List Atom)(b:Blk)(i:Nat)(tb:List Atom)(V:List (List au))(ev:List Ev)(rg:List (List au)):Prop where
 tb:tb=(SW t b i).t
 V:V=(SW t b i).vals
 ev:ev=(SW t b i).evs
 rg:rg=(SW t b i).regs
def Pt2.next{t:List Atom}{b:Blk}{i:Nat}{d:List Atom}{V:List (List au)}{ev:List Ev}{f:List (List au)}(h:Pt2 t b i d V ev f)(k:i<b.ops.length){o:IOp}(g:b.ops.getD i default=o)
  {v:List au} {tb':List Atom} {ev':List Ev} {rg':List (List au)} (j:tb'=nT (SW t b i) o) (a:v=nV (SW t b i) o) (c:ev'=nE (SW t b i) o) (l:rg'=nR (SW t b i) o):Pt2 t b (i+1) tb' (V++ [v]) ev' rg':=by
 have e:=ac9 (t:=t) k;rw [g]at e;refine⟨?_,?_,?_,?_⟩<;>rw [e]
 .exact j
 .rw [h.V,a];rfl
 .exact c
 .exact l
def LY{α:Type}{l:List α}{i:Nat}(h:i<l.length)(v:α):(l.set i v).take (i+1)=l.take i++ [v]:=by
 rw [take_succ_eq_append_getElem (by rw [length_set];exact h),getElem_set_self,take_set_of_le (Nat.le_refl _)]
abbrev aBb(b:Sym×eu->Bool)(a:Sym×eu->aCn):Prop:=∀s n,ShY s->b (s,n,())=true/\a (s,n,())=(symEnd s n,())
set_option maxHeartbeats 1000000 in
def atB{p1 f1 p2 f2 p3 f3 p4 f4 p5 f5 p6 f6 p7 f7 p8 f8 p10 f10 p14 f14}{p9:Int×List au×List au×r9->Bool}{f9:Int×List au×List au×r9->List Atom×kr}{a2:List Ev×Int×r9->Bool}{R:List Ev×Int×r9->List Atom×kr}{a1:IOp×List au×List au×mI->Bool}{Q:IOp×List au×List au×mI->Int×Int×List au×List au×mI}{S:Int×mI->Bool}{g:Int×mI->List au×mI}{O:mF->Bool}{T:mF->eu}{Z:mF->Bool}{P:mF->eu}(U1:Y60 p1 f1)(U2:Y28 p2 f2)(U3:Y22 p3 f3)(U4:aBb p4 f4)(U5:Y44 p5 f5)(U6:Y29 p6 f6)(U7:Y13 p7 f7)(U8:Y31 p8 f8)(U9:∀N x y t,(1<=N/\N<=5)->Sh x->Sh y->ShT t->aI t->p9 (N,x,y,t,())=true/\f9 (N,x,y,t,())=((tDo t N x y).1,(tDo t N x y).2,()))(a8:Y35 p10 f10)(W:∀l k t,l.length<1000000000->ShT t->aI t->a2 (l,k,t,())=true/\R (l,k,t,())=((aU t ⟨if k=6 then 3 else 2,uf l k,[],[]⟩).1,fJ (aU t ⟨if k=6 then 3 else 2,uf l k,[],[]⟩).2,()))(B:∀o x y r,Sh x->Sh y->ShP r->a1 (o,x,y,r,())=true/\Q (o,x,y,r,())=(o.kind,o.at_,if o.kind=6 then []else x,if o.kind=5 then y else [],if o.kind=4\/o.kind=5 then r else [],()))(a:∀k l,S (k,l,())=true/\g (k,l,())=(if k<0\/(l.length:Int)<=k then []else((l).getD (k).toNat default),l,()))(b0:Y56 p14 f14)(b3:∀b,O (b,())=true/\T (b,())=(if b.fin=1 then-1 else b.x,()))(a7:∀b,Z (b,())=true/\P (b,())=(if b.fin=1\/b.fin=2 then-1 else b.y,()))(t:List Atom)(b:Blk)(ht:ShT t)(hb:b.ops.length<1000000000):XI.F (p1,f1,p2,f2,p3,f3,p4,f4,p5,f5,p6,f6,p7,f7,p8,f8,p9,f9,p10,f10,a2,R,a1,Q,S,g,p14,f14,O,T,Z,P,()) (t,b,()) (λy=>y=((bR t b).1,(bR t b).2,())):=by
 have b8:=ht.1;dsimp only [XI,gm];simp (disch:=omega) only [RR,RB,U6 t ht,U1 b hb,U8 t ht,(U5).1];by_cases c:aI t/\t.length<=100/\dB b
 case neg=>
  refine⟨λ_=> ?_,λh=> ?_⟩
  .unfold bR;rw [aV c];rfl
  .exact absurd ⟨aF.1 h.1.1,ah,aF.1 h.1.2⟩ c
 obtain⟨c1,c2,J⟩:=c;simp (disch:=omega) only [RR,aJ c1,aJ J];have sz:=J.sz;have b4:=J.op;have a0:=J.k3;have i0:=Kg c1 ah;obtain⟨_,g5,_⟩:=(U5).2;refine⟨λh=>absurd h ah,λ_=> ?_⟩;refine ay (λ(y:Int×Blk×Int×Int×Int×Int×List (List au)×r9)=>0<=y.1/\y.1<=4/\y.2.1=b/\y.2.2.2.2.1=b.fin/\y.2.2.2.2.2.1=b.k/\y.2.2.2.2.2.2.1.length=4/\y.2.2.2.2.2.2.1.take y.1.toNat=(rN t y.1.toNat).2/\y.2.2.2.2.2.2.2.1=(rN t y.1.toNat).1) (λy=>(4-y.1).toNat) ⟨by simp,by simp,rfl,rfl,rfl,g5,by simp;rfl,rfl⟩ ?_;rintro⟨(r:Int),(C:Blk),(z1:Int),(z2:Int),(fin:Int),(kk:Int),(rg:List (List au)),(tb:List Atom),⟨⟩⟩ hI;dsimp only at hI ⊢;obtain⟨r0,r1,rfl,rfl,rfl,r4,r5,rfl⟩:=hI;have ok:=Gg c1 ah r.toNat ah;have c0:=ok.tl;by_cases h:r<4
 .have sA:ShA ⟨1,r,[],[]⟩:=⟨⟨by simp,λm hm=>absurd hm (by simp)⟩,⟨by simp,λm hm=>absurd hm (by simp)⟩⟩;have er:((r.toNat:Nat):Int)=r:=by omega
  simp (disch:=omega) only [RR,h,a8 _ _ sA ok.tok.sh ok.tok,U2,r4,length_set];have es:rN t (r+1).toNat=((aU (rN t r.toNat).1 ⟨1,r,[],[]⟩).1,(rN t r.toNat).2++ [fJ (aU (rN t r.toNat).1 ⟨1,r,[],[]⟩).2]):=by
   rw [show(r+1).toNat=r.toNat+1 by omega,Ht,er]
  refine⟨r0,ah,r0,ah,⟨ah,ah,?_,by rw [es]⟩,ah⟩;rw [es,show(r+1).toNat=r.toNat+1 by omega,LY ah,r5]
 .have e4:r.toNat=4:=by omega
  rw [e4]at r5 ok;have eg:rg=(rN t 4).2:=by rw [<-r5,take_of_length_le ah]
  subst eg;rw [e4];simp (disch:=omega) only [RR,h];refine ay (λ(y:Int×Blk×Int×Int×Int×Int×List (List au)×List (List au)×List Atom×List Ev×Unit)=>0<=y.1/\y.1<=C.ops.length/\y.2.1=C/\y.2.2.2.2.1=C.fin/\y.2.2.2.2.2.1=C.k/\Pt2 t C y.1.toNat y.2.2.2.2.2.2.2.2.1 y.2.2.2.2.2.2.2.1 y.2.2.2.2.2.2.2.2.2.1 y.2.2.2.2.2.2.1) (λy=>(C.ops.length-y.1).toNat) ⟨by simp,by simp,rfl,rfl,rfl,⟨rfl,rfl,rfl,rfl⟩⟩ ?_;have b6:∀j:Nat,j<=C.ops.length->SI (t.length+4) j (SW t C j):=λj hj=>by
   have:=(wh (C.ops.take j) 0 (s0 t) i0 (λo u=>a0 o (mem_of_mem_take u)) (by rw [length_take];omega) (by rw [length_take];omega)).1;rw [length_take,Nat.min_eq_left hj,Nat.zero_add]at this;exact this
  rintro⟨(i:Int),(b:Blk),(z1:Int),(z2:Int),(fin:Int),(kk:Int),(rg:List (List au)),(V:List (List au)),(tb:List Atom),(ev:List Ev),⟨⟩⟩ hI;dsimp only at hI ⊢;obtain⟨F,h2,rfl,rfl,rfl,hA⟩:=hI;have f:=b6 i.toNat ah;have c5:=ajn (t:=t) (b:=b) i.toNat ah;have cn:=Cn.run (b.ops.take i.toNat) (s0 t) ⟨rfl,rfl⟩;have cn:Cn (SW t b i.toNat):=cn;by_cases A:i<b.ops.length
  case neg=>
   have en:=J.en;have hf:=en.f;have c4:=J.pc;have b7:=J.ln;have b2:i.toNat=b.ops.length:=by omega
   have eS:SW t b i.toNat=eU t b:=by unfold SW eU;rw [b2,take_of_length_le (Nat.le_refl _)]
   obtain⟨a3,D,a5,a6⟩:=hA;rw [eS]at a3 D a5 a6 f;subst a3 D a5 a6;have pk:=Ho (b:=b) f;have eR:=wo c1 c2 J;have sh:ShY (sD b (eU t b)):=by
    have hs:=Qx b.ops 0 (s0 t) i0 a0 ah ah ⟨by simp [s0],λe he=>absurd he (by simp [s0])⟩;exact⟨⟨by have:=hs.1;show(b.ops.foldl stp (s0 t)).evs.length<_;omega,hs.2⟩,f.regs,pk.1.sh,pk.2.sh⟩
   have sl:=f.vl;have x1:=en.x1;have y1:=en.y1;have EX:g (if b.fin=1 then-1 else b.x,(eU t b).vals,())=((sD b (eU t b)).x,(eU t b).vals,()):=by
    rw [(λz1 z2=>(a z1 z2).2)];show _=(if b.fin=1 then []else(((eU t b).vals).getD (b.x).toNat default),_);by_cases c:b.fin=1
    .rw [eB c,eB c,eB ah]
    .obtain⟨v1,v2,_⟩:=x1 c;rw [dY c,dY c,dY ah]
   have EY:g (if b.fin=1\/b.fin=2 then-1 else b.y,(eU t b).vals,())=((sD b (eU t b)).y,(eU t b).vals,()):=by
    rw [(λz1 z2=>(a z1 z2).2)];show _=(if 3<=b.fin then(((eU t b).vals).getD (b.y).toNat default)else [],_);by_cases c:b.fin=1\/b.fin=2
    .rw [eB c,eB (Or.inl (by decide)),dY (show¬3<=b.fin by omega)]
    .obtain⟨v1,v2,_⟩:=y1 ah;rw [dY c,dY (show¬(b.y<0\/((eU t b).vals.length:Int)<=b.y) by omega),eB (show 3<=b.fin by have:=hf;omega)]
   have b1:ShP (eU t b).regs:=sh.r;simp (disch:=omega) only [RR,RB,A,b0 _ b1,b3,a7,(λz1 z2=>(a z1 z2).1),EX,EY,U7 _ sh.x,U7 _ sh.y];exact⟨(U4 _ _ sh).1,by rw [eR];exact congrArg (λz=>((eU t b).t,z.1,())) ((U4 (sD b (eU t b)) (b.pc+b.len) sh).2)⟩
  have d:=b4 i F A;have nxt:=λ{v:List au} {tb':List Atom} {ev':List Ev} {rg':List (List au)}=>Pt2.next (o:=((b.ops).getD (i).toNat default)) hA ah rfl (v:=v) (tb':=tb') (ev':=ev') (rg':=rg')
  obtain⟨a3,D,a5,a6⟩:=hA;have ei:(i+1).toNat=i.toNat+1:=by omega
  obtain⟨sn,so⟩:=Ch (o:=((b.ops).getD (i).toNat default)) f d.k3 ah ah;have vl:=f.vl;have L:∀k:Int,Sh (if k<0\/(V.length:Int)<=k then []else((V).getD (k).toNat default)):=λk=>by
   split
   .exact⟨by simp,λm hm=>absurd hm (by simp)⟩
   .rw [D];exact(Fe f.vok k).1.sh
  obtain⟨X,eX⟩:∃X,X=if(((b.ops).getD (i).toNat default)).x<0\/(V.length:Int)<=(((b.ops).getD (i).toNat default)).x then []else((V).getD ((((b.ops).getD (i).toNat default)).x).toNat default):=⟨_,rfl⟩
  obtain⟨Y,eY⟩:∃Y,Y=if(((b.ops).getD (i).toNat default)).y<0\/(V.length:Int)<=(((b.ops).getD (i).toNat default)).y then []else((V).getD ((((b.ops).getD (i).toNat default)).y).toNat default):=⟨_,rfl⟩
  have I:g ((((b.ops).getD (i).toNat default)).x,V,())=(X,V,()):=by rw [(λz1 z2=>(a z1 z2).2),eX]
  have F2:g ((((b.ops).getD (i).toNat default)).y,V,())=(Y,V,()):=by rw [(λz1 z2=>(a z1 z2).2),eY]
  have p:Sh X:=eX▸L _;have q:Sh Y:=eY▸L _;have ex:hX ((b.ops).getD (i).toNat default)->X=xOf (SW t b i.toNat) ((b.ops).getD (i).toNat default):=λh=>by
   have v:=d.x1 h;have v2:=v.2.1;unfold xOf;rw [eB h,eX,dY (by rw [D,vl];have:=v.1;omega),D]
  have ey:hY ((b.ops).getD (i).toNat default)->Y=yOf (SW t b i.toNat) ((b.ops).getD (i).toNat default):=λh=>by
   have v:=d.y1 h;have v2:=v.2.1;unfold yOf;rw [eB h,eY,dY (by rw [D,vl];have:=v.1;omega),D]
  clear eX eY L
  have b9:V.length=i.toNat:=by rw [D];exact vl
  generalize hs:SW t b i.toNat=s at*;generalize u:((b.ops).getD (i).toNat default)=o at*;have kd:=d.kd;subst a3 a5 a6;have r4:s.regs.length=4:=f.r4;have M:=f.tok.sh;have a9:=cn.ld;have b5:=cn.inn;have E:ShP s.regs:=f.regs;have H:=λ{v:List au} {tb':List Atom} {ev':List Ev} {rg':List (List au)} (h3:tb'=nT s o) (h4:v=nV s o) (h5:ev'=nE s o) (h6:rg'=nR s o)=>show((V.length:Int)+([v].length:Int)<=1073741824)/\(0<=i+1/\i+1<=b.ops.length/\Pt2 t b (i+1).toNat tb' (V++ [v]) ev' rg')/\(b.ops.length- (i+1)).toNat< (b.ops.length-i).toNat from⟨by simp only [fA,fE];omega,⟨ah,ah,by rw [ei];exact nxt h3 h4 h5 h6⟩,ah⟩
  have G:∀e:Ev,(s.evs.length:Int)+([e].length:Int)<=1073741824:=λe=>by simp only [fA,fE];omega
  have U:o.kind≠3->o.kind≠4->o.kind≠6->s.t=nT s o:=λh3 h4 h6=>by unfold nT;rw [dY h3,dY ah]
  have K:o.kind≠8->s.regs=nR s o:=λh=>by unfold nR;rw [dY h]
  have E0:¬evO o->s.evs=nE s o:=λh=>by unfold nE;rw [dY h]
  have V0:o.kind=5\/o.kind=7\/o.kind=8->[]=nV s o:=λh=>by unfold nV;rw [dY ah,dY ah,dY ah,dY ah]
  rcases(by omega:o.kind=1\/o.kind=2\/o.kind=3\/o.kind=4\/o.kind=5\/o.kind=6\/o.kind=7\/o.kind=8)with c | c | c | c | c | c | c | c
  .simp (disch:=omega) only [RR,RB,u,A,(λz1 z2=>(a z1 z2).1),I,F2,c,Int.reduceEq,U3];exact⟨F,H (U ah ah ah) (show dV o.k=nV s o by unfold nV;rw [eB c]) (E0 (by unfold evO;omega)) (K ah)⟩
  .have k2:=d.k2 (Or.inl c);simp (disch:=omega) only [RR,RB,u,A,(λz1 z2=>(a z1 z2).1),I,F2,c,Int.reduceEq,r4];exact⟨F,k2.1,ah,k2.1,ah,H (U ah ah ah) (show((s.regs).getD (o.k).toNat default)=nV s o by unfold nV;rw [dY ah,eB c]) (E0 (by unfold evO;omega)) (K ah)⟩
  .have d9:=d.k3 c;simp (disch:=omega) only [RR,RB,u,A,(λz1 z2=>(a z1 z2).1),I,F2,c,Int.reduceEq,U9 o.k _ _ _ d9 p q M f.tok];have n:=ex (by unfold hX;omega);have w:=ey (by unfold hY;omega);exact⟨F,H (show(tDo s.t o.k X Y).1=nT s o by unfold nT;rw [eB c,n,w]) (show(tDo s.t o.k X Y).2=nV s o by unfold nV;rw [dY ah,dY ah,eB c,n,w]) (E0 (by unfold evO;omega)) (K ah)⟩
  .have el:s.evs.length<1000000000:=by omega
   have ea:aOf s o=⟨2,uf s.evs 4,[],[]⟩:=by unfold aOf;rw [eB c,a9]
   have n:=ex (by unfold hX;omega);have w:yOf s o=[]:=by unfold yOf;rw [dY (by unfold hY;omega)]
   simp (disch:=omega) only [RR,RB,u,A,(λz1 z2=>(a z1 z2).1),I,F2,c,Int.reduceEq,W s.evs 4 s.t el M f.tok,B o X Y s.regs p q E,G];exact⟨F,H (by unfold nT;rw [dY ah,eB (Or.inl c),ea]) (by unfold nV;rw [dY ah,dY ah,dY ah,eB (Or.inl c),ea]) (by unfold nE;rw [eB (by unfold evO;omega),eB (Or.inl c),c,n,w]) (K ah)⟩
  .have n:=ex (by unfold hX;omega);have w:=ey (by unfold hY;omega);simp (disch:=omega) only [RR,RB,u,A,(λz1 z2=>(a z1 z2).1),I,F2,c,Int.reduceEq,B o X Y s.regs p q E,G];exact⟨F,H (U ah ah ah) (V0 ah) (by unfold nE;rw [eB (by unfold evO;omega),eB (Or.inr c),c,n,w]) (K ah)⟩
  .have el:s.evs.length<1000000000:=by omega
   have ea:aOf s o=⟨3,uf s.evs 6,[],[]⟩:=by unfold aOf;rw [dY ah,b5]
   have n:xOf s o=[]:=by unfold xOf;rw [dY (by unfold hX;omega)]
   have w:yOf s o=[]:=by unfold yOf;rw [dY (by unfold hY;omega)]
   simp (disch:=omega) only [RR,RB,u,A,(λz1 z2=>(a z1 z2).1),I,F2,c,Int.reduceEq,W s.evs 6 s.t el M f.tok,B o X Y s.regs p q E,G];exact⟨F,H (by unfold nT;rw [dY ah,eB (Or.inr c),ea]) (by unfold nV;rw [dY ah,dY ah,dY ah,eB (Or.inr c),ea]) (by unfold nE;rw [eB (by unfold evO;omega),dY ah,c,n,w]) (K ah)⟩
  .have n:=ex (by unfold hX;omega);have w:yOf s o=[]:=by unfold yOf;rw [dY (by unfold hY;omega)]
   simp (disch:=omega) only [RR,RB,u,A,(λz1 z2=>(a z1 z2).1),I,F2,c,Int.reduceEq,B o X Y s.regs p q E,G];exact⟨F,H (U ah ah ah) (V0 ah) (by unfold nE;rw [eB (by unfold evO;omega),dY ah,c,n,w]) (K ah)⟩
  .have k2:=d.k2 (Or.inr c);have n:=ex (by unfold hX;omega);simp (disch:=omega) only [RR,RB,u,A,(λz1 z2=>(a z1 z2).1),I,F2,c,Int.reduceEq,r4];exact⟨F,k2.1,ah,k2.1,ah,H (U ah ah ah) (V0 ah) (E0 (by unfold evO;omega)) (by unfold nR;rw [eB c,n])⟩
def atC{α:Type}[Inhabited α](l:List α)(a:α)(i:Int)(h:0<=i):((l++ [a]).getD (i).toNat default)=if i=l.length then a else((l).getD (i).toNat default):=by
 by_cases c:i=l.length
 .rw [eB c,c,getD_eq_getElem?_getD];simp
 .rw [dY c,getD_eq_getElem?_getD,getD_eq_getElem?_getD];by_cases d:i.toNat<l.length
  .rw [getElem?_append_left d]
  .rw [getElem?_eq_none (by rw [eG,length_singleton];omega),getElem?_eq_none ah]
def aeJ{n:Int}{t u:List Atom}(h:aaU n t)(g:aaU n u):t=u:=by
 obtain⟨k,e⟩:=h;obtain⟨j,d⟩:=g;exact lS ah λi c f=>by
  have a:=e i c ah;have b:=d i c ah;exact a.trans b.symm
def adb:∀n:Nat,n<=4->aaU n (rN [] n).1
 | 0,_=>⟨rfl,All.zero⟩
 | n+1,hn=>by
  obtain⟨f,d⟩:=adb n ah;have ok:=Gg Fg (by simp) n ah;have e:aU (rN [] n).1 ⟨1,n,[],[]⟩=((rN [] n).1++ [⟨1,n,[],[]⟩],((rN [] n).1.length:Int)):=by
   rcases iN (rN [] n).1 ⟨1,n,[],[]⟩with⟨f1,f2⟩ | ⟨f1,f2,f3,_⟩
   .unfold aU;rw [dY ah,dY];rintro(g | g)
    .exact g (by unfold jk;rw [dY (by simp)];exact⟨⟨rfl,rfl⟩,Or.inl ⟨rfl,by dsimp only;omega,by dsimp only;omega⟩⟩)
    .omega
   .exfalso;have a:=d _ f1 ah;dsimp only at a f3;rw [a]at f3;injection f3 with _ g;omega
  have h:(rN [] (n+1)).1=(rN [] n).1++ [⟨1,n,[],[]⟩]:=by rw [Ht,e]
  rw [h];refine⟨by rw [eG,length_singleton];omega,λi b j=> ?_⟩;dsimp only;rw [atC _ _ _ b];by_cases c:i=((rN [] n).1.length:Int)
  .rw [eB c,c,f]
  .rw [dY c];exact d i b ah
def ayZ{t:List Atom}(h:aaU 4 t):t=t4:=aeJ h (adb 4 (Nat.le_refl _))
def atD{p1 f1}(k:Y8 p1 f1)(a b:List (List au))(d:ShP a):XJ.F (p1,f1,()) (a,b,()) (λy=>y=(bp (a=b),())):=by
 have g:=d.1;dsimp only [XJ,gm];simp (disch:=omega) only [RR];refine⟨λh=> ?_,λh=> ?_⟩
 .rw [aV (λe=>h (by rw [e]))]
 have j:a.length=b.length:=by omega
 refine ay (λ(y:List (List au)×List (List au)×eu)=>y.1=a/\y.2.1=b/\0<=y.2.2.1/\y.2.2.1<=a.length/\All y.2.2.1 (λi=>a.getD i.toNat default=b.getD i.toNat default)) (λy=>(a.length-y.2.2.1).toNat) ⟨rfl,rfl,by simp,by simp,All.zero⟩ ?_;rintro⟨(n:List (List au)),(o:List (List au)),(i:Int),⟨⟩⟩ hI;dsimp only at hI ⊢;obtain⟨rfl,rfl,p,m,f⟩:=hI;simp (disch:=omega) only [RR,k _ _ (d.at _),iZ];refine⟨λl=>⟨ah,ah,ah,ah,λc=> ?_,λc=>⟨⟨ah,ah,f.snoc c⟩,ah⟩⟩,λl=> ?_⟩
 .rw [aV];intro e;rw [e]at c;exact c rfl
 .rw [aJ (lS j (f.le ah))]
def atE{p1 f1 p2 f2}(d:Y8 p1 f1)(e:Y88 p2 f2)(a b:Ev)(c:ShE a):XK.F (p1,f1,p2,f2,()) (a,b,()) (λy=>y=(bp (a=b),())):=by
 dsimp only [XK,gm];simp (disch:=omega) only [RR,RB,d _ _ c.1,d _ _ c.2.1,e _ _ c.2.2,iZ];simp only [nO,<-eH];refine Prod.ext (gP ?_) rfl;cases a;cases b;simp only [Ev.mk.injEq];constructor<;>(intro h;simp only [h,and_self])
def atF{p1 f1 p2 f2 p3 f3}(g:Y8 p1 f1)(q:Y93 p2 f2)(o:Y88 p3 f3)(a b:Sym)(c:ShY a):XL.F (p1,f1,p2,f2,p3,f3,()) (a,b,()) (λy=>y=(bp (a=b),())):=by
 dsimp only [XL,gm];simp (disch:=omega) only [RR,RB,g _ _ c.x,g _ _ c.y,o _ _ c.r,iZ,aF,gK];have e:=c.e.1;refine⟨λh=> ?_,λh=> ?_⟩
 .rw [aV];rintro rfl
  revert h;simp
 refine ay (λ(y:Int×Sym×aCn)=>y.2.1=a/\y.2.2.1=b/\0<=y.1/\y.1<=a.events.length/\All y.1 (λi=>a.events.getD i.toNat default=b.events.getD i.toNat default)) (λy=>(a.events.length-y.1).toNat) ⟨rfl,rfl,by simp,by simp,All.zero⟩ ?_;rintro⟨(i:Int),(n:Sym),(k:Sym),⟨⟩⟩ hI;dsimp only at hI ⊢;obtain⟨rfl,rfl,t,s,f⟩:=hI;have p:n.events.length=k.events.length:=by
  have:=h.1.1.1.1.1;omega
 simp (disch:=omega) only [RR,RB,q _ _ (c.e.at _),aF,gK];refine⟨λm=>⟨ah,ah,ah,ah,λd=> ?_,λd=>⟨⟨ah,ah,f.snoc d⟩,ah⟩⟩,λm=> ?_⟩
 .rw [aV];rintro rfl;exact d rfl
 .rw [aJ];obtain⟨⟨⟨⟨⟨v,l⟩,w⟩,u⟩,r⟩,j⟩:=h;exact Sym.ext (lS p (f.le ah)) l ah r j ah
def atG{p1 f1 p2 f2 p3 f3 p4 f4 p5 f5}(v:Y60 p1 f1)(t:Y94 p2 f2)(s:Y44 p3 f3)(u:Y89 p4 f4)(r:Y95 p5 f5)(b c:Blk)(d:b.ops.length<1000000000)(hc:c.ops.length<1000000000):XM.F (p1,f1,p2,f2,p3,f3,p4,f4,p5,f5,()) (b,c,()) (λy=>y=(chk b c,())):=by
 have f:=λz1 z2=>(v z1 z2).1
 have k:=λz1 z2=>(v z1 z2).2
 have o:=λz1 z2 z3=>(t z1 z2 z3).1
 have p:=λz1 z2 z3=>(t z1 z2 z3).2
 have m:=s.1;have a:=s.2;have j:=λz1 z2 z3 z4=>(u z1 z2 z3 z4).1
 have i:=λz1 z2 z3 z4=>(u z1 z2 z3 z4).2
 have l:=λz1 z2 z3=>(r z1 z2 z3).1
 have n:=λz1 z2 z3=>(r z1 z2 z3).2
 have q:ShT t4:=TF.1.sh;have y1:=Dz t4 b;have a:=ayZ a.1;dsimp only [XM,gm];simp (disch:=omega) only [RR,RB,f b d,k b d,f c hc,k c hc,o b c d,p b c d,m,a,j t4 b q d,i t4 b q d,j _ c y1.2 hc,i _ c y1.2 hc,l _ _ y1.1,n _ _ y1.1,aF,gK];unfold chk;refine⟨λh=> ?_,λh=>⟨λe=> ?_,λe=> ?_⟩⟩
 .rw [aV];rintro⟨z,w,A,x,_⟩;simp_all
 .rw [aJ];exact⟨h.1.1.1,h.1.1.2,by simp_all,by simp_all,Or.inl e⟩
 .refine Prod.ext (gP ⟨λg=>⟨h.1.1.1,h.1.1.2,by simp_all,by simp_all,Or.inr g⟩,λg=>g.2.2.2.2.resolve_left e⟩) rfl
def wD(q:Cer):aCc:=(q.base.pc,q.base.len,q.base.fin,q.base.x,q.base.y,q.base.k,q.made.pc,q.made.len,q.made.fin,q.made.x,q.made.y,q.made.k,q.base.ops,q.made.ops,())
def Fj(l:List Cer)(q:Cer):List Cer:=(l++ [q]).drop (l.length+1-3)
theorem atH{p1 f1}(n:Y96 p1 f1)(l:List Cer)(h:ShD l):XV.F (p1,f1,()) (l,()) (λy=>y=(bp (uY l),())):=by
 have mE:∀c:Blk,Co.mk .blk (c.pc,c.len,c.ops,c.fin,c.x,c.y,c.k,())=c:=λ_=>rfl
 dsimp only [XV,gm,jU];have L:=h.1;simp (disch:=omega) only [RR,CRB,mE];refine⟨λg=>by rw [aV (λe=>by have:=e.1;omega)],λg=> ?_⟩;refine ay (λ(y:List Cer×eu)=>y.1=l/\0<=y.2.1/\y.2.1<=l.length/\¬∃q∈l.take y.2.1.toNat,chk q.base q.made=false) (λy=>(l.length-y.2.1).toNat) ⟨rfl,by simp,by simp,by rintro⟨q,h,_⟩;cases h⟩ ?_;rintro⟨(k:List Cer),(i:Int),⟨⟩⟩ hI;dsimp only at hI ⊢;obtain⟨rfl,f,o,j⟩:=hI;have a:=h.at i.toNat;simp (disch:=omega) only [RR,CRB,mE,n (((k).getD (i).toNat default)).base (((k).getD (i).toNat default)).made ah ah];refine⟨λb=>⟨f,b,f,b,λe=> ?_,λe=>⟨⟨ah,ah,?_⟩,ah⟩⟩,λb=> ?_⟩
 .rw [aV];intro v;have:=v.2 _ (bV f b (d:=default));rw [e]at this;cases this
 .rw [show(i+1).toNat=i.toNat+1 by omega];exact λx=>((Hw (G:=λq:Cer=>chk q.base q.made=false) ah).1 x).elim j (λz=>by rw [e]at z;cases z)
 .rw [take_of_length_le ah]at j;rw [aJ];exact⟨ah,λq m=>by
   cases c:chk q.base q.made with
   | true=>rfl
   | false=>exact absurd ⟨q,m,c⟩ j⟩
theorem atI{p1 f1}(a:Y77 p1 f1)(q:Cer)(d:q.base.ops.length<1000000)(b:q.made.ops.length<1000000):X7.F (p1,f1,()) (q,()) (λy=>y=wD q):=by
 have mE:∀c:Blk,Co.mk .blk (c.pc,c.len,c.ops,c.fin,c.x,c.y,c.k,())=c:=λ_=>rfl
 dsimp only [X7,gm,jU];simp (disch:=omega) only [RR,CRB,mE,a _ d,a _ b];rfl
theorem ay0{p1 f1}(a:Y99 p1 f1)(q:Cer)(d:q.base.ops.length<1000000)(b:q.made.ops.length<1000000):aik.F (p1,f1,()) (q,()) (λy=>y=wD q):=by
 have mE:∀c:Blk,Co.mk .blk (c.pc,c.len,c.ops,c.fin,c.x,c.y,c.k,())=c:=λ_=>rfl
 dsimp only [aik,gm,jU];simp (disch:=omega) only [RR,CRB,mE,a _ (show q.base.ops.length<1000000000 by omega),a _ (show q.made.ops.length<1000000000 by omega)];rfl
theorem ay1(q:Cer):Co.mk .cer ((wD q).1,(wD q).2.1,(wD q).2.2.2.2.2.2.2.2.2.2.2.2.1,(wD q).2.2.1,(wD q).2.2.2.1,(wD q).2.2.2.2.1,(wD q).2.2.2.2.2.1,(wD q).2.2.2.2.2.2.1,(wD q).2.2.2.2.2.2.2.1,(wD q).2.2.2.2.2.2.2.2.2.2.2.2.2.1,(wD q).2.2.2.2.2.2.2.2.1,(wD q).2.2.2.2.2.2.2.2.2.1,(wD q).2.2.2.2.2.2.2.2.2.2.1,(wD q).2.2.2.2.2.2.2.2.2.2.2.1,())=q:=rfl
abbrev atJ(b:Cer×Unit->Bool)(a:Cer×Unit->aCc):Prop:=∀q,q.base.ops.length<1000000->q.made.ops.length<1000000->b (q,())=true/\a (q,())=wD q
def atK{p1 f1}(d:atJ p1 f1)(l:List Cer)(h:ShC l):aaA.F (p1,f1,()) (l,()) (λy=>y=(l,())):=by
 have c:=h.1;dsimp only [aaA,gm,jU];refine ay (λ(y:List Cer×Int×Int×qj)=>y.1=l/\y.2.1=l.length/\y.2.2.2.1=l.take y.2.2.1.toNat/\0<=y.2.2.1/\y.2.2.1<=l.length) (λy=>(l.length-y.2.2.1).toNat) ⟨rfl,rfl,by simp,by simp,by simp⟩ ?_;rintro⟨(l:List Cer),(m:Int),(i:Int),(o:List Cer),⟨⟩⟩ hI;dsimp only at hI ⊢;obtain⟨rfl,rfl,rfl,e,f⟩:=hI;have a:=h.at i.toNat;simp (disch:=omega) only [RR,d _ a.1 a.2,ay1];refine⟨λb=>⟨ah,ah,?_,⟨bA e b rfl,ah,ah⟩,ah⟩,λb=>by rw [take_of_length_le ah]⟩;have:=length_take_le' i.toNat l;simp only [fA,fE];omega
def atL(l:List Cer)(n:Int)(a:l.length<1000000)(c:0<=n)(b:n<1000000):aaD.F () (l,n,()) (λy=>y=(l.drop (l.length-n.toNat),())):=by
 dsimp only [aaD,gm];simp (disch:=omega) only [RR];rw [show((l.length:Int)).toNat=l.length by omega,take_of_length_le (Nat.le_refl _)];split
 .rw [show((l.length:Int)-n).toNat=l.length-n.toNat by omega];exact⟨ah,ah,ah,rfl⟩
 .rw [show l.length-n.toNat=0 by omega];exact⟨ah,ah,ah,rfl⟩
abbrev ay2(b:qj->Bool)(a:qj->qj):Prop:=∀l,ShC l->b (l,())=true/\a (l,())=(l,())
def ay3{p1 f1}{f:List Cer×eu->Bool}{a:List Cer×eu->qj}(b:ay2 p1 f1)(d:∀l n,l.length<1000000->0<=n->n<1000000->f (l,n,())=true/\a (l,n,())=(l.drop (l.length-n.toNat),()))(l:List Cer)(q:Cer)(h:ShC l)(j:q.base.ops.length<1000000)(i:q.made.ops.length<1000000):aiI.F (p1,f1,f,a,()) (l,q,()) (λy=>y=(Fj l q,())):=by
 have L:=h.1;have e:(l++ [q]).length=l.length+1:=by rw [eG,length_singleton]
 have sh:ShC (Fj l q):=by
  unfold Fj;refine⟨by rw [length_drop];omega,λc hc=> ?_⟩;have:=mem_of_mem_drop hc;rw [mem_append,mem_singleton]at this;rcases this with g | rfl
  .exact h.2 c g
  .exact⟨j,i⟩
 have F:=(d (l++ [q]) 3 ah ah ah).2;rw [e]at F;have F:a (l++ [q],3,())=(Fj l q,()):=F;dsimp only [aiI,gm];simp (disch:=omega) only [RR,b l h,(d (l++ [q]) 3 ah ah ah).1,F,b _ sh,fA,fE];omega
theorem atM{p1 f1}(m:atJ p1 f1)(l:List Cer)(q:Cer)(h:ShC l)(f:q.base.ops.length<1000000)(e:q.made.ops.length<1000000):YG.F (p1,f1,()) (l,q,()) (λy=>y=(Fj l q,())):=by
 have c:=λz1 z2 z3=>(m z1 z2 z3).1
 have b:=λz1 z2 z3=>(m z1 z2 z3).2
 have j:=h.1;have mC:∀q:Cer,Co.mk .cer (q.base.pc,q.base.len,q.base.ops,q.base.fin,q.base.x,q.base.y,q.base.k,q.made.pc,q.made.len,q.made.ops,q.made.fin,q.made.x,q.made.y,q.made.k,())=q:=λ_=>rfl
 unfold wD at b;dsimp only [YG,gm,jU,cons_append,nil_append,map_cons,map_nil]at*;refine ay (λ(y:List Cer×Int×Cer×qj)=>y.1=l/\y.2.2.1=q/\y.2.2.2.1=l.take y.2.1.toNat/\0<=y.2.1/\y.2.1<=l.length) (λy=>(l.length-y.2.1).toNat) ⟨rfl,rfl,by simp,by simp,by simp⟩ ?_;rintro⟨(l:List Cer),(i:Int),(q:Cer),(o:List Cer),⟨⟩⟩ hI;dsimp only at hI ⊢;obtain⟨rfl,rfl,rfl,k,s⟩:=hI;have a:=h.at i.toNat;simp (disch:=omega) only [RR,c _ a.1 a.2,b _ a.1 a.2,c _ f e,b _ f e,mC];have tl:=length_take_le' i.toNat l;have d:∀x:Cer,([x].length:Int)=1:=λ_=>rfl
 refine⟨λg=>⟨k,g,by rw [d];omega,⟨bA k g rfl,ah,ah⟩,ah⟩,λg=> ?_⟩;have p:l.take i.toNat=l:=take_of_length_le ah;have n:((l++ [q]).length:Int)=l.length+1:=by rw [eG,length_singleton];omega
 rw [p];refine⟨by rw [d];omega,?_⟩;rw [n];have w:IntKind.i64.wrap ((l.length:Int)+1-3)=l.length+1-3:=w64 ah ah;rw [w];unfold Fj;refine⟨λr=>⟨ah,ah,ah,ah,ah,ah,?_⟩,λr=>by rw [show l.length+1-3=0 by omega];rfl⟩;rw [take_of_length_le ah,show((l.length:Int)+1-3).toNat=l.length+1-3 by omega]
theorem atN{p1 f1}(l:Y94 p1 f1)(a b:List Cer)(n:ShC a):aaL.F (p1,f1,()) (a,b,()) (λy=>y=(bp (a=b),())):=by
 have mE:∀c:Blk,Co.mk .blk (c.pc,c.len,c.ops,c.fin,c.x,c.y,c.k,())=c:=λ_=>rfl
 have j:=n.1;dsimp only [aaL,gm,jU];simp (disch:=omega) only [RR,CRB,mE];refine⟨λh=> ?_,λh=> ?_⟩
 .rw [aV (λe=>h (by rw [e]))]
 have p:a.length=b.length:=by omega
 refine ay (λ(y:List Cer×List Cer×eu)=>y.1=a/\y.2.1=b/\0<=y.2.2.1/\y.2.2.1<=a.length/\All y.2.2.1 (λi=>a.getD i.toNat default=b.getD i.toNat default)) (λy=>(a.length-y.2.2.1).toNat) ⟨rfl,rfl,by simp,by simp,All.zero⟩ ?_;rintro⟨(m:List Cer),(o:List Cer),(i:Int),⟨⟩⟩ hI;dsimp only at hI ⊢;obtain⟨rfl,rfl,f,q,k⟩:=hI;have A:=n.at i.toNat;simp (disch:=omega) only [RR,CRB,mE,l (((m).getD (i).toNat default)).base (((o).getD (i).toNat default)).base ah,l (((m).getD (i).toNat default)).made (((o).getD (i).toNat default)).made ah,aF,gK];refine⟨λg=>⟨f,g,f,ah,Or.inr f,Or.inr g,Or.inr f,Or.inr ah,λd=> ?_,λd=>⟨⟨ah,ah,k.snoc (Cer.ext d.1 d.2)⟩,ah⟩⟩,λg=> ?_⟩
 .rw [aV];intro e;rw [e]at d;rcases d with d | d<;>exact d rfl
 .rw [aJ (lS p (k.le ah))]
abbrev ay4(b:List Cer×Cer×Unit->Bool)(a:List Cer×Cer×Unit->qj):Prop:=∀l q,ShC l->q.base.ops.length<1000000->q.made.ops.length<1000000->b (l,q,())=true/\a (l,q,())=(Fj l q,())
abbrev aBd(d:List Cer×qj->Bool)(c:List Cer×qj->lX):Prop:=∀a b,ShC a->d (a,b,())=true/\c (a,b,())=(bp (a=b),())
def u8w{n:Int}:IntKind.u8.wrap n=n%256:=by
 simp [IntKind.wrap,IntKind.signed,IntKind.bits]
def opB(o:IOp):List Int:=[o.kind%256,o.x%256,o.y%256,o.k/256%256,o.k%256,o.at_%256]
def QA(b:Blk):List Int:=[b.pc%256,b.len%256,b.fin%256,b.x%256,b.y%256,b.k/256%256,b.k%256]++b.ops.flatMap opB
noncomputable def irB (b:Blk):List Int:=if bp (dB b)=true then QA b else []
def rdO(l:List Int)(p:Nat):IOp:=⟨l.getD p default,l.getD (p+1) default,l.getD (p+2) default,l.getD (p+3) default*256+l.getD (p+4) default,l.getD (p+5) default⟩
def rE(l:List Int)(n:Nat):List IOp:=(range n).map λi=>rdO l (7+6*i)
def rdB(l:List Int):Blk:=⟨l.getD 0 default,l.getD 1 default,rE l ((l.length-7)/6),l.getD 2 default,l.getD 3 default,l.getD 4 default,l.getD 5 default*256+l.getD 6 default⟩
def ajw(l:List Int):Prop:=(7<=l.length/\(l.length-7)%6=0/\l.length<=295)/\irB (rdB l)=l
noncomputable def rdF (l:List Int):Int×Int×Int×Int×Int×Int×Bool×ql:=if bp (ajw l)=true then((rdB l).pc,(rdB l).len,(rdB l).fin,(rdB l).x,(rdB l).y,(rdB l).k,true,(rdB l).ops,())else(0,0,0,0,0,0,false,[],())
def ajx(n:Int):0<=n%256/\n%256<=255:=by omega
def atO(o:IOp):By (opB o):=by
 intro z a;simp only [opB,mem_cons,not_mem_nil,or_false]at a;rcases a with h | h | h | h | h | h<;>subst h<;>exact ajx _
def Kk(b:Blk):By (irB b):=by
 unfold irB;split
 .intro z hz;unfold QA at hz;rcases mem_append.1 hz with h | h
  .simp only [mem_cons,not_mem_nil,or_false]at h;rcases h with h | h | h | h | h | h | h<;>subst h<;>exact ajx _
  .obtain⟨o,_,ho⟩:=mem_flatMap.1 h;exact atO o z ho
 .intro z hz;cases hz
def zh:∀a:List IOp,(a.flatMap opB).length=6*a.length
 | []=>rfl
 | o::r=>by rw [flatMap_cons,eG,zh r,fA];show 6+_=_;omega
theorem ajy(b:Blk):(QA b).length=7+6*b.ops.length:=by
 unfold QA;rw [eG,zh];rfl
def ajz:∀(a:List IOp) (i:Nat) (j:Nat),i<a.length->j<6->(a.flatMap opB).getD (6*i+j) default=(opB (a.getD i default)).getD j default
 | [],_,_,h,_=>absurd h (by simp)
 | o::r,0,j,_,hj=>by
  rw [flatMap_cons,getD_eq_getElem?_getD,getElem?_append_left (by show _<6;omega),<-getD_eq_getElem?_getD,Nat.mul_zero,Nat.zero_add];rfl
 | o::r,i+1,j,h,hj=>by
  rw [flatMap_cons,getD_eq_getElem?_getD,getElem?_append_right (by show 6<=_;omega),<-getD_eq_getElem?_getD,show 6*(i+1)+j- (opB o).length=6*i+j by show 6*(i+1)+j-6=_;omega];exact ajz r i j (by rw [fA]at h;omega) hj
def atP(b:Blk)(i j:Nat)(c:i<b.ops.length)(a:j<6):(QA b).getD (7+6*i+j) default=(opB (b.ops.getD i default)).getD j default:=by
 unfold QA;rw [getD_eq_getElem?_getD,getElem?_append_right (by show 7<=_;omega),<-getD_eq_getElem?_getD];show(flatMap opB b.ops).getD (7+6*i+j-7) default=_;rw [show 7+6*i+j-7=6*i+j by omega];exact ajz b.ops i j c a
def anU{a b:Int}(g:0<=a)(f:a<=255)(h:0<=b)(c:b<=255):fF .or .i64 (a*256) b=a*256+b:=by
 have d:((2^IntKind.i64.bits:Nat):Int)=18446744073709551616:=by decide
 have e:(a*256).toNat ||| b.toNat=a.toNat*256+b.toNat:=by
  rw [show(a*256).toNat=a.toNat*256 by omega,show a.toNat*256=a.toNat<<<8 by rw [Nat.shiftLeft_eq],<-Nat.shiftLeft_add_eq_or_of_lt (show b.toNat<2^8 by omega),Nat.shiftLeft_eq]
 unfold fF;dsimp only;rw [BitVec.toNat_or,BitVec.toNat_ofInt,BitVec.toNat_ofInt,d,show a*256%18446744073709551616=a*256 by omega,show b%18446744073709551616=b by omega,e,w64 ah ah];omega
theorem ay5(k:IntKind)(x y:Int):gH .or k x y=fF .or k x y:=rfl
theorem anV(x:Int):gH .shl .i64 x 8=IntKind.i64.wrap (x*256):=rfl
theorem ade(x:Int):gH .shr .i64 x 8=x.fdiv 256:=rfl
def ay6(a b:Int)(e:0<=a)(d:a<=255)(c:0<=b)(f:b<=255):aiD.F () (a,b,()) (λy=>y=(a*256+b,())):=by
 dsimp only [aiD,gm];simp (disch:=omega) only [RR,ay5,anV,anU]
 decide
def bytes_inj:∀ {a b:List Int},By a->By b->Go.Lib.bytesOf a=Go.Lib.bytesOf b->a=b
 | [],[],_,_,_=>rfl
 | [],_::_,_,_,e=>by cases e
 | _::_,[],_,_,e=>by cases e
 | x::a,y::b,ha,hb,e=>by
  unfold Go.Lib.bytesOf at e;rw [map_cons,map_cons]at e;injection e with e1 e2;have g:=ha x mem_cons_self;have f:=hb y mem_cons_self;have d:=congrArg UInt8.toNat e1;rw [UInt8.toNat_ofNat',UInt8.toNat_ofNat']at d;have:x=y:=by omega
  rw [this,bytes_inj (λz c=>ha z (mem_cons_of_mem _ c)) (λz c=>hb z (mem_cons_of_mem _ c)) e2]
def aBe(a b:List Int)(c:By a)(d:By b):aq1.F () (a,b,()) (λy=>y=(bp (a=b),())):=by
 dsimp only [aq1,gm];show((((strOfNums a).toList==(strOfNums b).toList),()):lX)=_;rw [Go.Lib.strOfNums_toList,Go.Lib.strOfNums_toList];refine Prod.ext (Bool.eq_iff_iff.2 ?_) rfl;rw [aF];constructor
 .intro h;exact bytes_inj c d (by simpa using h)
 .rintro rfl;simp
theorem ay7{p1 f1}(l:Y60 p1 f1)(b:Blk)(f:b.ops.length<1000000000):aiE.F (p1,f1,()) (b,()) (λy=>y=(irB b,())):=by
 have e:∀x:Int,Co.mk .u8 (x,())=x:=λ_=>rfl
 have d:∀x:Int,x.fdiv 256=x/256:=λx=>Int.fdiv_eq_ediv_of_nonneg x (by decide)
 dsimp only [aiE,gm];simp (disch:=omega) only [RR,RB,l b f,e,u8w,ade,d];refine⟨λh=>by unfold irB;rw [h];rfl,λh=>⟨by decide,?_⟩⟩;have ok:=aF.1 h;have o:=ok.sz;refine ay (λ(y:List IOp×aBS)=>y.1=b.ops/\y.2.1=b.ops.length/\0<=y.2.2.1/\y.2.2.1<=b.ops.length/\y.2.2.2.1=[b.pc%256,b.len%256,b.fin%256,b.x%256,b.y%256,b.k/256%256,b.k%256]++(b.ops.take y.2.2.1.toNat).flatMap opB) (λy=>(b.ops.length-y.2.2.1).toNat) ⟨rfl,rfl,by simp,by simp,by simp⟩ ?_;rintro⟨(k:List IOp),(n:Int),(i:Int),(a:List Int),⟨⟩⟩ hI;dsimp only at hI ⊢;obtain⟨rfl,rfl,j,m,c⟩:=hI;have al:a.length<=1000:=by
  rw [c,eG,zh];have:=length_take_le' i.toNat b.ops;simp only [fA,fE];omega
 simp (disch:=omega) only [RR,RB,e,u8w,ade,d,fA,fE];refine⟨λg=>⟨j,g,by decide,ah,⟨ah,ah,?_⟩,ah⟩,λg=> ?_⟩
 .rw [c,show(i+1).toNat=i.toNat+1 by omega,take_succ_eq_append_getElem ah,flatMap_append,append_assoc,getD_lt (show i.toNat<b.ops.length by omega)];rfl
 .rw [c,take_of_length_le ah];unfold irB;rw [eB h];rfl
abbrev ay8(c:mF->Bool)(a:mF->bn):Prop:=∀b,b.ops.length<1000000000->c (b,())=true/\a (b,())=(irB b,())
theorem ay9{p2 f2}{B:zx->Bool}{s:zx->lX}{d:sj->Bool}{i:sj->eu}(R:∀a b,By a->By b->B (a,b,())=true/\s (a,b,())=(bp (a=b),()))(P:ay8 p2 f2)(C:∀a b,0<=a->a<=255->0<=b->b<=255->d (a,b,())=true/\i (a,b,())=(a*256+b,()))(l:List Int)(c:By l)(v:l.length<1000000000):aiF.F (B,s,p2,f2,d,i,()) (l,()) (λy=>y=rdF l):=by
 have q:∀x:Int,cO .u8 0 x=x:=λ_=>rfl
 have p:∀n:Nat,IntKind.i64.wrap (l.getD n default)=l.getD n default:=λn=>w64 (by have:=c.at n;omega) (by have:=c.at n;omega)
 have r:∀n m:Nat,d (l.getD n default,l.getD m default,())=true:=λn m=>(C _ _ (c.at n).1 (c.at n).2 (c.at m).1 (c.at m).2).1
 have I:∀n m:Nat,i (l.getD n default,l.getD m default,())=(l.getD n default*256+l.getD m default,()):=λn m=>(C _ _ (c.at n).1 (c.at n).2 (c.at m).1 (c.at m).2).2
 dsimp only [aiF,gm];simp (disch:=omega) only [RR,RB,q,p,r,I];have no:¬ajw l->rdF l=(0,0,0,0,0,0,false,[],()):=λh=>by unfold rdF;rw [dY (by rw [aV h];decide)]
 have F:7<=l.length->((l.length:Int)-7).tmod 6=((l.length-7)%6:Nat):=λh=>by
  rw [Int.tmod_eq_emod_of_nonneg ah];omega
 refine⟨Or.inr (by decide),λh=> ?_,λh=> ?_⟩
 .rw [no];rintro⟨⟨O,V,g3⟩,_⟩;rw [F O]at h;omega
 have D:7<=l.length:=by omega
 have S:(l.length-7)%6=0:=by
  have:=h.1.2;rw [F D]at this;omega
 have atQ:l.length<=295:=by omega
 refine⟨ah,ah,ah,ah,ah,ah,ah,ah,ah,ah,ah,ah,ah,ah,?_⟩;refine ay (λ(y:List Int×aCv)=>y.1=l/\(∃j:Nat,y.2.1=7+6*j/\7+6*j<=l.length/\y.2.2.2.2.2.2.2.2.2.2.2.2.2.2.1=rE l j)/\y.2.2.2.2.2.2.2.2.1=l.getD 0 default/\y.2.2.2.2.2.2.2.2.2.1=l.getD 1 default/\y.2.2.2.2.2.2.2.2.2.2.1=l.getD 2 default/\y.2.2.2.2.2.2.2.2.2.2.2.1=l.getD 3 default/\y.2.2.2.2.2.2.2.2.2.2.2.2.1=l.getD 4 default/\y.2.2.2.2.2.2.2.2.2.2.2.2.2.1=l.getD 5 default*256+l.getD 6 default) (λy=>(l.length-y.2.1).toNat) ⟨rfl,⟨0,rfl,ah,rfl⟩,rfl,rfl,rfl,rfl,rfl,rfl⟩ ?_;rintro⟨(l:List Int),(J:Int),(z1:Int),(z2:Int),(z3:Int),(z4:Int),(U:Int),(Z:Int),(pc:Int),(len:Int),(fin:Int),(x:Int),(y:Int),(k:Int),(N:List IOp),⟨⟩⟩ hI;dsimp only at hI ⊢;obtain⟨rfl,⟨j,rfl,T,rfl⟩,rfl,rfl,rfl,rfl,rfl,rfl⟩:=hI;have W:(rE l j).length=j:=by unfold rE;rw [length_map,length_range]
 by_cases g:7+6*(j:Int)<l.length
 .have w:IntKind.i64.wrap (7+6*(j:Int)+6)=7+6*(j:Int)+6:=w64 ah ah;have L:((l.take (7+6*(j:Int)+6).toNat).drop (7+6*(j:Int)).toNat).length=6:=by
   rw [length_drop,length_take];omega
  have K:∀t:Int,0<=t->t<6->((l.take (7+6*(j:Int)+6).toNat).drop (7+6*(j:Int)).toNat).getD t.toNat default=l.getD (7+6*j+t.toNat) default:=λt X Y=>by
   rw [getD_eq_getElem?_getD,getElem?_drop,getElem?_take_of_lt ah,<-getD_eq_getElem?_getD,show(7+6*(j:Int)).toNat+t.toNat=7+6*j+t.toNat by omega]
  simp (disch:=omega) only [RR,RB,g,w,L,K,q,p,r,I,fA,fE];have Q:rE l (j+1)=rE l j++ [rdO l (7+6*j)]:=by unfold rE;rw [range_succ,map_append];rfl
  repeat' apply And.intro
  all_goals first | omega | exact⟨j+1,ah,ah,by rw [Q];rfl⟩
 .have e:7+6*j=l.length:=by omega
  have f:(⟨l.getD 0 default,l.getD 1 default,rE l j,l.getD 2 default,l.getD 3 default,l.getD 4 default,l.getD 5 default*256+l.getD 6 default⟩:Blk)=rdB l:=by
   unfold rdB;rw [show(l.length-7)/6=j by omega]
  have mE:∀(G H:Int) (u:List IOp) (A z E o:Int),Co.mk .blk (G,H,u,A,z,E,o,())=⟨G,H,u,A,z,E,o⟩:=λ_ _ _ _ _ _ _=>rfl
  have M:(rdB l).ops.length<1000000000:=by
   rw [<-f];show(rE l j).length<_;omega
  simp (disch:=omega) only [RR,RB,g,mE,f,P _ M,R _ _ (Kk (rdB l)) c];refine⟨λh=> ?_,λh=> ?_⟩
  .rw [no];rintro⟨_,g⟩;rw [aJ g]at h;cases h
  .unfold rdF;rw [eB (aJ ⟨⟨D,S,atQ⟩,aF.1 h⟩),<-f]
abbrev aza(b:bn->Bool)(a:bn->Int×Int×Int×Int×Int×Int×Bool×ql):Prop:=∀l,By l->l.length<1000000000->b (l,())=true/\a (l,())=rdF l
def o5(o:IOp):Int×Int×aCf:=(o.kind,o.x,o.y,o.k,o.at_,())
def Wo(n:Int):Prop:=0<=n/\n<=65535
def Wos(l:List Int):Prop:=∀n∈l,Wo n
structure MOK(m:aC):Prop where
 r4:m.regs.length=4
 rw:Wos m.regs
 m64:m.mem.length=64
 mw:Wos m.mem
 pc:Wo m.pc
 sv:Wo m.save
 iw:Wos m.ins
 ow:Wos m.outs
 ha:0<=m.halt/\m.halt<=4
 ct:0<=m.count/\m.count<=1000000
def xP(r a b:Int):Bool:=inB a 0 65535&&inB b 0 65535&&decide (r=1/\a=b\/r=2/\a<b)
structure MS where
 m:aC
 vals:List Int
 left:Bool
def vx(s:MS)(o:IOp):Int:=if hX o then((s.vals).getD (o.x).toNat default)else 0
def vy(s:MS)(o:IOp):Int:=if hY o then((s.vals).getD (o.y).toNat default)else 0
def mV(s:MS)(o:IOp):Int:=if o.kind=1 then o.k else if o.kind=2 then((s.m.regs).getD (o.k).toNat default)else if o.kind=3 then wdo o.k (vx s o) (vy s o)else if o.kind=4 then((s.m.mem).getD (vx s o).toNat default)else if o.kind=6 then s.m.ins.getD 0 default else 0
def mM(s:MS)(o:IOp):aC:=if o.kind=5 then {s.m with mem:=s.m.mem.set (vx s o).toNat (vy s o)}else if o.kind=6 then {s.m with ins:=s.m.ins.drop 1}else if o.kind=7 then {s.m with outs:=s.m.outs++ [vx s o]}else if o.kind=8 then {s.m with regs:=s.m.regs.set o.k.toNat (vx s o)}else s.m
def leave(m:aC)(n:Int)(h:Int):aC:={m with halt:=h,pc:=m.pc+n,count:=m.count+n}
def aK(b:Blk)(s:MS)(o:IOp):MS:=
 if s.left=true then s
 else if(o.kind=4\/o.kind=5)/\64<=vx s o then⟨leave s.m o.at_ 3,s.vals,true⟩
 else if o.kind=5/\b.pc+o.at_+1<=vx s o/\vx s o<=b.pc+b.len-1 then⟨leave (mM s o) (o.at_+1) (mM s o).halt,s.vals,true⟩
 else⟨mM s o,s.vals++ [mV s o],false⟩
def qE(b:Blk)(s:MS):aC:=if s.left=true then s.m else {s.m with count:=s.m.count+b.len,pc:=if b.fin=1 then b.k else if b.fin=2 then((s.vals).getD (b.x).toNat default)else if xP (b.fin-2) ((s.vals).getD (b.x).toNat default) ((s.vals).getD (b.y).toNat default)=true then b.k else b.pc+b.len}
def TP:aC:=⟨[],0,[],0,false,false,0,[],[],0⟩
noncomputable def eZ (b:Blk) (m:aC):aC×Bool:=if bp (dB b/\MOK m)=true then(if m.halt≠0\/m.pc≠b.pc\/1000000-b.len<m.count then(m,false)else(qE b (b.ops.foldl (aK b) ⟨m,[],false⟩),true))else(TP,false)
def bg(i:Ins):Prop:=(0<=i.op/\i.op<=15)/\(0<=i.d/\i.d<=3)/\(0<=i.a/\i.a<=3)/\0<=i.k/\
 (i.op=0->i.d=0/\i.a=0/\i.k<=3)/\(i.op=1->i.a=0/\i.k<=255)/\(i.op=2->i.k=0)/\(3<=i.op/\i.op<=7->i.k<=3)/\(i.op=8->i.k<=15)/\(9<=i.op/\i.op<=12->i.k<=255)/\(i.op=13->i.d=0/\i.k=0)/\(14<=i.op->i.a=0/\i.k=0)
def Fp(i:Ins):Int:=i.op*4096+i.d*1024+i.a*256+i.k
def bU(w:Int):Ins:=⟨w/4096,w/1024%4,w/256%4,w%256⟩
structure ni(pc:Int)(l:List Ins):Prop where
 ln:1<=l.length/\l.length<=8
 pc:0<=pc/\pc<=64-l.length
 ok:∀i:Nat,i<l.length->bg (l.getD i default)/\(l.getD i default).op≠0/\(11<=(l.getD i default).op/\(l.getD i default).op<=13->i+1=l.length)
def bW(n b:Int)(i:Ins):List IOp:=
 if i.op=1 then [⟨1,0,0,i.k,0⟩,⟨8,b,0,i.d,0⟩]
 else if i.op=2 then [⟨2,0,0,i.a,0⟩,⟨8,b,0,i.d,0⟩]
 else if i.op=8 then [⟨2,0,0,i.a,0⟩,⟨1,0,0,2^i.k.toNat,0⟩,⟨3,b,b+1,3,0⟩,⟨8,b+2,0,i.d,0⟩]
 else if i.op=9 then [⟨2,0,0,i.a,0⟩,⟨1,0,0,i.k,0⟩,⟨3,b,b+1,1,0⟩,⟨4,b+2,0,0,n⟩,⟨8,b+3,0,i.d,0⟩]
 else if i.op=10 then [⟨2,0,0,i.a,0⟩,⟨1,0,0,i.k,0⟩,⟨3,b,b+1,1,0⟩,⟨2,0,0,i.d,0⟩,⟨5,b+2,b+3,0,n⟩]
 else if i.op=14 then [⟨2,0,0,i.d,0⟩,⟨7,b,0,0,n⟩]
 else if i.op=15 then [⟨6,0,0,0,n⟩,⟨8,b,0,i.d,0⟩]
 else if i.op=11\/i.op=12 then [⟨2,0,0,i.d,0⟩,⟨2,0,0,i.a,0⟩]
 else if i.op=13 then [⟨2,0,0,i.a,0⟩]
 else [⟨2,0,0,i.a,0⟩,⟨2,0,0,i.k,0⟩,⟨3,b,b+1,i.op-2,0⟩,⟨8,b+2,0,i.d,0⟩]
def dz(n:Int)(b:Blk)(i:Ins):Blk:=
 if i.op=11\/i.op=12 then {b with ops:=b.ops++bW n b.ops.length i,fin:=i.op-8,x:=b.ops.length,y:=b.ops.length+1,k:=i.k}
 else if i.op=13 then {b with ops:=b.ops++bW n b.ops.length i,fin:=2,x:=b.ops.length,k:=0}
 else {b with ops:=b.ops++bW n b.ops.length i}
def jV:Int->Blk->List Ins->Blk
 | _,b,[]=>b
 | n,b,i::r=>jV (n+1) (dz n b i) r
def pV(pc:Int)(l:List Ins):Blk:=⟨pc,l.length,[],1,0,0,pc+l.length⟩
noncomputable def lower (pc:Int) (l:List Ins):Blk:=if bp (ni pc l)=true then jV 0 (pV pc l) l else TG
def adr(m:aC)(i:Ins):Int:=(((m.regs).getD (i.a).toNat default)+i.k)%65536
def eff(m:aC)(i:Ins):aC:=
 if i.op=1 then {m with regs:=m.regs.set i.d.toNat i.k}
 else if i.op=2 then {m with regs:=m.regs.set i.d.toNat ((m.regs).getD (i.a).toNat default)}
 else if i.op=8 then {m with regs:=m.regs.set i.d.toNat (((m.regs).getD (i.a).toNat default)*2^i.k.toNat%65536)}
 else if i.op=9 then {m with regs:=m.regs.set i.d.toNat ((m.mem).getD (adr m i).toNat default)}
 else if i.op=10 then {m with mem:=m.mem.set (adr m i).toNat ((m.regs).getD (i.d).toNat default)}
 else if i.op=14 then {m with outs:=m.outs++ [((m.regs).getD (i.d).toNat default)]}
 else if i.op=15 then {m with regs:=m.regs.set i.d.toNat (m.ins.getD 0 default),ins:=m.ins.drop 1}
 else if i.op=0 then(if i.k=0 then {m with halt:=1}else if i.k=1 then {m with aL:=true}else {m with aL:=decide (i.k=2)})
 else if 11<=i.op then m
 else {m with regs:=m.regs.set i.d.toNat (wdo (i.op-2) ((m.regs).getD (i.a).toNat default) ((m.regs).getD (i.k).toNat default))}
def nxt(m:aC)(i:Ins):Int:=
 if i.op=0/\i.k=1 then m.save
 else if(i.op=11\/i.op=12)/\xP (i.op-10) ((m.regs).getD (i.d).toNat default) ((m.regs).getD (i.a).toNat default)=true then i.k
 else if i.op=13 then((m.regs).getD (i.a).toNat default)
 else(m.pc+1)%65536
def exec(m:aC)(i:Ins):aC:=if(i.op=9\/i.op=10)/\64<=adr m i then {m with halt:=3}else {eff m i with pc:=nxt m i,count:=m.count+1}
noncomputable def stepM (m:aC) (b:Bool):aC:=
 let w:=m.waits || b
 let a:aC:=if w=true/\m.aL=true then {m with waits:=false,aL:=false,save:=m.pc,pc:=48}else {m with waits:=w}
 if 64<=a.pc then {a with halt:=4}
 else if bp (bg (bU ((a.mem).getD (a.pc).toNat default)))=false then {a with halt:=2}
 else exec a (bU ((a.mem).getD (a.pc).toNat default))
theorem va(v l:List Int)(j:Nat):((v++l).getD ((v.length:Int)+j).toNat default)=l.getD j default:=by
 rw [getD_eq_getElem?_getD,getElem?_append_right ah,<-getD_eq_getElem?_getD,show((v.length:Int)+j).toNat-v.length=j by omega]
theorem va0(v l:List Int):((v++l).getD ((v.length:Int)).toNat default)=l.getD 0 default:=by
 have:=va v l 0
 rwa [Int.natCast_zero,Int.add_zero]at this
theorem va1(v l:List Int):((v++l).getD ((v.length:Int)+1).toNat default)=l.getD 1 default:=va v l 1
theorem va2(v l:List Int):((v++l).getD ((v.length:Int)+2).toNat default)=l.getD 2 default:=va v l 2
theorem va3(v l:List Int):((v++l).getD ((v.length:Int)+3).toNat default)=l.getD 3 default:=va v l 3
theorem gd0(a b:Int): [a,b].getD 0 default=a:=rfl
theorem gd1(a b:Int): [a,b].getD 1 default=b:=rfl
def rch(m:aC)(i:Ins):Prop:=(i.op=9\/i.op=10)/\64<=adr m i
def ovr(B:Blk)(n:Int)(m:aC)(i:Ins):Prop:=i.op=10/\B.pc+n+1<=adr m i/\adr m i<=B.pc+B.len-1
theorem Wos.at{l:List Int}(h:Wos l)(i:Int):Wo ((l).getD (i).toNat default):=by
 by_cases c:i.toNat<l.length
 .rw [getD_lt c];exact h _ (getElem_mem _)
 .rw [getD_eq_getElem?_getD,getElem?_eq_none ah];exact⟨by decide,by decide⟩
theorem adf{a k:Int}(b:Wo a)(hk:Wo k):wdo 1 a k=(a+k)%65536:=by
 unfold wdo;rw [eB ⟨b,hk⟩,eB rfl]
theorem anW{a k:Int}(b:Wo a)(hk:Wo k):wdo 3 a k=a*k%65536:=by
 unfold wdo;rw [eB ⟨b,hk⟩,dY (by decide),dY (by decide),eB rfl]
theorem Kl{k:Int}(c:0<=k)(b:k<=15):Wo (2^k.toNat):=by
 obtain⟨j,rfl⟩:∃j:Nat,k=j:=⟨k.toNat,ah⟩;have:j<=15:=by omega
 rw [show((j:Int)).toNat=j from rfl];have h:(2:Nat)^j<=2^15:=Nat.pow_le_pow_right (by decide) this;have e:((2:Int)^j)=((2^j:Nat):Int):=by simp
 rw [e];have a:(2:Nat)^15=32768:=by decide
 rw [a]at h;generalize (2:Nat)^j=z at h;exact⟨ah,ah⟩
section
variable (B:Blk) (m:aC) (v:List Int)
theorem st1(k:Int):aK B ⟨m,v,false⟩ ⟨1,0,0,k,0⟩=⟨m,v++ [k],false⟩:=by simp [aK,mM,mV]
theorem st2(k:Int):aK B ⟨m,v,false⟩ ⟨2,0,0,k,0⟩=⟨m,v++ [((m.regs).getD (k).toNat default)],false⟩:=by simp [aK,mM,mV]
theorem st3(k x y:Int):aK B ⟨m,v,false⟩ ⟨3,x,y,k,0⟩=⟨m,v++ [wdo k ((v).getD (x).toNat default) ((v).getD (y).toNat default)],false⟩:=by simp [aK,mM,mV,vx,vy,hX,hY]
theorem st4(x n:Int)(h:¬64<=((v).getD (x).toNat default)):aK B ⟨m,v,false⟩ ⟨4,x,0,0,n⟩=⟨m,v++ [((m.mem).getD (((v).getD (x).toNat default)).toNat default)],false⟩:=by
 unfold aK;rw [dY (by simp),dY (by simp [vx,hX];simpa using h),dY (by simp)];simp [mM,mV,vx,hX]
theorem aBf(x n:Int)(h:64<=((v).getD (x).toNat default)):aK B ⟨m,v,false⟩ ⟨4,x,0,0,n⟩=⟨leave m n 3,v,true⟩:=by
 unfold aK;rw [dY (by simp),eB (by simp [vx,hX];simpa using h)]
theorem aBg(x y n:Int)(h:64<=((v).getD (x).toNat default)):aK B ⟨m,v,false⟩ ⟨5,x,y,0,n⟩=⟨leave m n 3,v,true⟩:=by
 unfold aK;rw [dY (by simp),eB (by simp [vx,hX];simpa using h)]
theorem aBh(x y n:Int)(h:¬64<=((v).getD (x).toNat default))(o:B.pc+n+1<=((v).getD (x).toNat default)/\((v).getD (x).toNat default)<=B.pc+B.len-1):aK B ⟨m,v,false⟩ ⟨5,x,y,0,n⟩=⟨leave {m with mem:=m.mem.set (((v).getD (x).toNat default)).toNat ((v).getD (y).toNat default)} (n+1) m.halt,v,true⟩:=by
 unfold aK;rw [dY (by simp),dY (by simp [vx,hX];simpa using h),eB (by simp [vx,hX];simpa using o)];simp [mM,vx,vy,hX,hY]
theorem st5(x y n:Int)(h:¬64<=((v).getD (x).toNat default))(o:¬(B.pc+n+1<=((v).getD (x).toNat default)/\((v).getD (x).toNat default)<=B.pc+B.len-1)):aK B ⟨m,v,false⟩ ⟨5,x,y,0,n⟩=⟨{m with mem:=m.mem.set (((v).getD (x).toNat default)).toNat ((v).getD (y).toNat default)},v++ [0],false⟩:=by
 unfold aK;rw [dY (by simp),dY (by simp [vx,hX];simpa using h),dY (by simp [vx,hX];simpa using o)];simp [mM,mV,vx,vy,hX,hY]
theorem st6(n:Int):aK B ⟨m,v,false⟩ ⟨6,0,0,0,n⟩=⟨{m with ins:=m.ins.drop 1},v++ [m.ins.getD 0 default],false⟩:=by simp [aK,mM,mV]
theorem st7(x n:Int):aK B ⟨m,v,false⟩ ⟨7,x,0,0,n⟩=⟨{m with outs:=m.outs++ [((v).getD (x).toNat default)]},v++ [0],false⟩:=by simp [aK,mM,mV,vx,hX]
theorem st8(x k:Int):aK B ⟨m,v,false⟩ ⟨8,x,0,k,0⟩=⟨{m with regs:=m.regs.set k.toNat ((v).getD (x).toNat default)},v++ [0],false⟩:=by simp [aK,mM,mV,vx,hX]
end
theorem aBi(B:Blk)(m:aC)(v:List Int)(o:IOp):aK B ⟨m,v,true⟩ o=⟨m,v,true⟩:=by simp [aK]
theorem QB(B:Blk)(m:aC)(v:List Int):∀l:List IOp,l.foldl (aK B) ⟨m,v,true⟩=⟨m,v,true⟩
 | []=>rfl
 | o::r=>by rw [foldl_cons,show aK B ⟨m,v,true⟩ o=⟨m,v,true⟩ by simp [aK]];exact QB B m v r
theorem azb(B:Blk)(n:Int){m:aC}(hm:MOK m)(v:List Int){i:Ins}(r:bg i)(A:i.op≠0):
  (rch m i->((bW n v.length i).foldl (aK B) ⟨m,v,false⟩).left=true/\((bW n v.length i).foldl (aK B) ⟨m,v,false⟩).m=leave m n 3)/\
  (¬rch m i->ovr B n m i->((bW n v.length i).foldl (aK B) ⟨m,v,false⟩).left=true/\((bW n v.length i).foldl (aK B) ⟨m,v,false⟩).m=leave (eff m i) (n+1) m.halt)/\
  (¬rch m i->¬ovr B n m i->∃w,(bW n v.length i).foldl (aK B) ⟨m,v,false⟩=⟨eff m i,v++w,false⟩/\w.length=(bW n v.length i).length/\(i.op=11\/i.op=12->w=[((m.regs).getD (i.d).toNat default),((m.regs).getD (i.a).toNat default)])/\(i.op=13->w=[((m.regs).getD (i.a).toNat default)])):=by
 obtain⟨⟨H,D⟩,⟨E,C⟩,⟨G,I⟩,f,_,z,F,y,u,l,q,s⟩:=r;have k:=hm.rw.at i.a;have a:i.op≠9->i.op≠10->¬rch m i:=λh g x=>x.1.elim h g
 have no:i.op≠10->¬ovr B n m i:=λh x=>h x.1
 rcases(by omega:i.op=1\/i.op=2\/(3<=i.op/\i.op<=7)\/i.op=8\/i.op=9\/i.op=10\/(i.op=11\/i.op=12)\/i.op=13\/i.op=14\/i.op=15)with c | c | c | c | c | c | c | c | c | c
 .refine⟨λh=>absurd h (a ah ah),λ_ h=>absurd h (no ah),λ_ _=>⟨[i.k,0],?_,?_,λg=>by omega,λg=>by omega⟩⟩
  .unfold bW eff;rw [eB c,eB c];simp only [foldl_cons,foldl_nil,st1,st8,append_assoc,cons_append,nil_append,va0];rfl
  .unfold bW;rw [eB c];rfl
 .refine⟨λh=>absurd h (a ah ah),λ_ h=>absurd h (no ah),λ_ _=>⟨[((m.regs).getD (i.a).toNat default),0],?_,?_,λg=>by omega,λg=>by omega⟩⟩
  .unfold bW eff;rw [dY ah,eB c,dY ah,eB c];simp only [foldl_cons,foldl_nil,st2,st8,append_assoc,cons_append,nil_append,va0];rfl
  .unfold bW;rw [dY ah,eB c];rfl
 .refine⟨λh=>absurd h (a ah ah),λ_ h=>absurd h (no ah),λ_ _=>⟨[((m.regs).getD (i.a).toNat default),((m.regs).getD (i.k).toNat default),wdo (i.op-2) ((m.regs).getD (i.a).toNat default) ((m.regs).getD (i.k).toNat default),0],?_,?_,λg=>by omega,λg=>by omega⟩⟩
  .unfold bW eff
   iterate 9 rw [dY ah]
   iterate 9 rw [dY ah]
   simp only [foldl_cons,foldl_nil,st2,st3,st8,append_assoc,cons_append,nil_append,va0,va1,va2];rfl
  .unfold bW
   iterate 9 rw [dY ah]
   rfl
 .have wk:=Kl f (u c);refine⟨λh=>absurd h (a ah ah),λ_ h=>absurd h (no ah),λ_ _=>⟨[((m.regs).getD (i.a).toNat default),2^i.k.toNat,wdo 3 ((m.regs).getD (i.a).toNat default) (2^i.k.toNat),0],?_,?_,λg=>by omega,λg=>by omega⟩⟩
  .unfold bW eff;rw [dY ah,dY ah,eB c,dY ah,dY ah,eB c,<-anW k wk];simp only [foldl_cons,foldl_nil,st1,st2,st3,st8,append_assoc,cons_append,nil_append,va0,va1,va2];rfl
  .unfold bW;rw [dY ah,dY ah,eB c];rfl
 .have wk:Wo i.k:=⟨f,by have:=l ah;omega⟩;have e:wdo 1 ((m.regs).getD (i.a).toNat default) i.k=adr m i:=adf k wk;have j:bW n v.length i=[⟨2,0,0,i.a,0⟩,⟨1,0,0,i.k,0⟩,⟨3,v.length,v.length+1,1,0⟩,⟨4,v.length+2,0,0,n⟩,⟨8,v.length+3,0,i.d,0⟩]:=by
   unfold bW;rw [dY ah,dY ah,dY ah,eB c]
  have d:((v++ [((m.regs).getD (i.a).toNat default),i.k,adr m i]).getD ((v.length:Int)+2).toNat default)=adr m i:=va2 _ _;rw [j];refine⟨λh=> ?_,λ_ h=>absurd h (no ah),λh _=>⟨[((m.regs).getD (i.a).toNat default),i.k,adr m i,((m.mem).getD (adr m i).toNat default),0],?_,rfl,λg=>by omega,λg=>by omega⟩⟩
  .simp only [foldl_cons,st1,st2,st3,append_assoc,cons_append,nil_append,va0,va1];simp only [gd0,gd1];rw [e,aBf _ _ _ _ _ (by rw [d];exact h.2),aBi,foldl_nil];exact⟨rfl,rfl⟩
  .have h2:¬64<=adr m i:=λg=>h ⟨Or.inl c,g⟩
   simp only [foldl_cons,foldl_nil,st1,st2,st3,append_assoc,cons_append,nil_append,va0,va1];simp only [gd0,gd1];rw [e,st4 _ _ _ _ _ (by rw [d];exact h2),d,st8];unfold eff;rw [dY ah,dY ah,dY ah,eB c];simp only [append_assoc,cons_append,nil_append,va3];rfl
 .have wk:Wo i.k:=⟨f,by have:=l ah;omega⟩;have e:wdo 1 ((m.regs).getD (i.a).toNat default) i.k=adr m i:=adf k wk;have j:bW n v.length i=[⟨2,0,0,i.a,0⟩,⟨1,0,0,i.k,0⟩,⟨3,v.length,v.length+1,1,0⟩,⟨2,0,0,i.d,0⟩,⟨5,v.length+2,v.length+3,0,n⟩]:=by
   unfold bW;rw [dY ah,dY ah,dY ah,dY ah,eB c]
  have b:((v++ [((m.regs).getD (i.a).toNat default),i.k,adr m i,((m.regs).getD (i.d).toNat default)]).getD ((v.length:Int)+2).toNat default)=adr m i:=va2 _ _;have d:((v++ [((m.regs).getD (i.a).toNat default),i.k,adr m i,((m.regs).getD (i.d).toNat default)]).getD ((v.length:Int)+3).toNat default)=((m.regs).getD (i.d).toNat default):=va3 _ _;have p:eff m i={m with mem:=m.mem.set (adr m i).toNat ((m.regs).getD (i.d).toNat default)}:=by
   unfold eff;rw [dY ah,dY ah,dY ah,dY ah,eB c]
  have t: [⟨2,0,0,i.a,0⟩,⟨1,0,0,i.k,0⟩,⟨3,(v.length:Int),v.length+1,1,0⟩,⟨2,0,0,i.d,0⟩,⟨5,(v.length:Int)+2,v.length+3,0,n⟩].foldl (aK B) ⟨m,v,false⟩=aK B ⟨m,v++ [((m.regs).getD (i.a).toNat default),i.k,adr m i,((m.regs).getD (i.d).toNat default)],false⟩ ⟨5,(v.length:Int)+2,v.length+3,0,n⟩:=by
   simp only [foldl_cons,foldl_nil,st1,st2,st3,append_assoc,cons_append,nil_append,va0,va1];simp only [gd0,gd1];rw [e]
  rw [j,t,p];refine⟨λh=> ?_,λh o=> ?_,λh o=>⟨[((m.regs).getD (i.a).toNat default),i.k,adr m i,((m.regs).getD (i.d).toNat default),0],?_,rfl,λg=>by omega,λg=>by omega⟩⟩
  .rw [aBg _ _ _ _ _ _ (by rw [b];exact h.2)];exact⟨rfl,rfl⟩
  .have h2:¬64<=adr m i:=λg=>h ⟨Or.inr c,g⟩
   rw [aBh _ _ _ _ _ _ (by rw [b];exact h2) (by rw [b];exact o.2),b,d];exact⟨rfl,rfl⟩
  .have h2:¬64<=adr m i:=λg=>h ⟨Or.inr c,g⟩
   rw [st5 _ _ _ _ _ _ (by rw [b];exact h2) (by rw [b];exact λg=>o ⟨c,g⟩),b,d,append_assoc];rfl
 .refine⟨λh=>absurd h (a ah ah),λ_ h=>absurd h (no ah),λ_ _=>⟨[((m.regs).getD (i.d).toNat default),((m.regs).getD (i.a).toNat default)],?_,?_,λg=>rfl,λg=>by omega⟩⟩
  .unfold bW eff
   iterate 7 rw [dY ah]
   rw [eB c]
   iterate 8 rw [dY ah]
   rw [eB ah];simp only [foldl_cons,foldl_nil,st2,append_assoc,cons_append,nil_append]
  .unfold bW
   iterate 7 rw [dY ah]
   rw [eB c];rfl
 .refine⟨λh=>absurd h (a ah ah),λ_ h=>absurd h (no ah),λ_ _=>⟨[((m.regs).getD (i.a).toNat default)],?_,?_,λg=>by omega,λg=>rfl⟩⟩
  .unfold bW eff
   iterate 8 rw [dY ah]
   rw [eB c]
   iterate 8 rw [dY ah]
   rw [eB ah];simp only [foldl_cons,foldl_nil,st2]
  .unfold bW
   iterate 8 rw [dY ah]
   rw [eB c];rfl
 .refine⟨λh=>absurd h (a ah ah),λ_ h=>absurd h (no ah),λ_ _=>⟨[((m.regs).getD (i.d).toNat default),0],?_,?_,λg=>by omega,λg=>by omega⟩⟩
  .unfold bW eff
   iterate 5 rw [dY ah]
   rw [eB c]
   iterate 5 rw [dY ah]
   rw [eB c];simp only [foldl_cons,foldl_nil,st2,st7,append_assoc,cons_append,nil_append,va0];rfl
  .unfold bW
   iterate 5 rw [dY ah]
   rw [eB c];rfl
 .refine⟨λh=>absurd h (a ah ah),λ_ h=>absurd h (no ah),λ_ _=>⟨[m.ins.getD 0 default,0],?_,?_,λg=>by omega,λg=>by omega⟩⟩
  .unfold bW eff
   iterate 6 rw [dY ah]
   rw [eB c]
   iterate 6 rw [dY ah]
   rw [eB c];simp only [foldl_cons,foldl_nil,st6,st8,append_assoc,cons_append,nil_append,va0];rfl
  .unfold bW
   iterate 6 rw [dY ah]
   rw [eB c];rfl
end Go.TX.F
namespace Go.TX.F
open Go Go.AE Go.TX List
def MSh(m:aC):Prop:=m.regs.length<1000000000/\m.mem.length<1000000000/\m.ins.length<1000000000/\m.outs.length<1000000000
abbrev m10(m:aC):aBW:=(m.pc,m.save,m.aL,m.waits,m.halt,m.count,m.regs,m.mem,m.ins,m.outs,())
abbrev mB(m:aC):iK:=(m.pc,m.save,m.aL,m.waits,m.halt,m.ins,m.count,m.regs,m.mem,m.outs,())
def MRB:(∀m:aC,jN .aj 0 .i64 m=m.regs)/\(∀m:aC,cO .aj 1 m=m.pc)/\(∀m:aC,jN .aj 2 .i64 m=m.mem)/\(∀m:aC,cO .aj 3 m=m.save)/\(∀m:aC,LW .aj 4 m=m.aL)/\(∀m:aC,LW .aj 5 m=m.waits)/\(∀m:aC,cO .aj 6 m=m.halt)/\(∀m:aC,jN .aj 7 .i64 m=m.ins)/\(∀m:aC,jN .aj 8 .i64 m=m.outs)/\(∀m:aC,cO .aj 9 m=m.count):=
 ⟨λ_=>rfl,λ_=>rfl,λ_=>rfl,λ_=>rfl,λ_=>rfl,λ_=>rfl,λ_=>rfl,λ_=>rfl,λ_=>rfl,λ_=>rfl⟩
def zi{a b c:Int}:inB a b c=bp (b<=a/\a<=c):=by rw [eH];simp only [inB,nO]
abbrev atS(b:bn->Bool)(a:bn->lX):Prop:=∀l,l.length<1000000000->b (l,())=true/\a (l,())=(bp (Wos l),())
def azc{p1 f1 p2 f2 p3 f3}(c:Y9 p1 f1)(f:Y1 p2 f2)(a:atS p3 f3)(m:aC)(h:MSh m):aho.F (p1,f1,p2,f2,p3,f3,()) (m,()) (λy=>y=(bp (MOK m),())):=by
 obtain⟨d,e,g,b⟩:=h;dsimp only [aho,gm];simp (disch:=omega) only [RR,MRB,c,f,a _ d,a _ e,a _ g,a _ b,zi,nO];simp only [<-eH];refine Prod.ext (gP ⟨λh=> ?_,λh=> ?_⟩) rfl
 .obtain⟨⟨⟨⟨⟨⟨⟨⟨⟨h1,h2⟩,h3⟩,h4⟩,h5⟩,h6⟩,h7⟩,h8⟩,h9⟩,h10⟩:=h;exact⟨ah,h3,ah,h4,h5,h6,h7,h8,h9,h10⟩
 .exact⟨⟨⟨⟨⟨⟨⟨⟨⟨by have:=h.r4;omega,by have:=h.m64;omega⟩,h.rw⟩,h.mw⟩,h.pc⟩,h.sv⟩,h.iw⟩,h.ow⟩,h.ha⟩,h.ct⟩
abbrev azd(b:bn->Bool)(a:bn->bn):Prop:=∀l,l.length<=1073741824->b (l,())=true/\a (l,())=(l,())
def aze{p1 f1}(a:azd p1 f1)(m:aC)(h:MSh m):aii.F (p1,f1,()) (m,()) (λy=>y=m10 m):=by
 obtain⟨c,d,e,b⟩:=h;dsimp only [aii,gm];simp (disch:=omega) only [RR,MRB,a m.regs ah,a m.mem ah,a m.ins ah,a m.outs ah]
def azf(f c:Int)(lt g:Bool)(b:Int)(ins:List Int)(d:Int)(regs mem a:List Int)(h:ins.length<1000000000):aio.F () (f,c,lt,g,b,ins,d,regs,mem,a,()) (λy=>y=(ins.getD 0 default,f,c,lt,g,b,ins.drop 1,d,regs,mem,a,())):=by
 dsimp only [aio,gm];simp (disch:=omega) only [RR];refine⟨λe=> ?_,λe=> ?_⟩
 .have:ins=[]:=eq_nil_of_length_eq_zero ah;subst this;rfl
 .exact⟨ah,ah,ah,ah,ah,by rw [take_of_length_le ah];rfl⟩
def atT{p1 f1}(c:Y32 p1 f1)(a b:aC)(h:MSh a):aaI.F (p1,f1,()) (a,b,()) (λy=>y=(bp (a=b),())):=by
 obtain⟨e,f,g,d⟩:=h;dsimp only [aaI,gm];simp (disch:=omega) only [RR,MRB,c _ b.regs e,c _ b.mem f,c _ b.ins g,c _ b.outs d,nO];refine Prod.ext ?_ rfl;have i:∀x y:Bool,(x==y)=bp (x=y):=λx y=>by cases x<;>cases y<;>simp [bp]
 simp only [i,<-eH];refine gP ?_;cases a;cases b;simp only [aC.mk.injEq];constructor<;>(intro h;simp only [h,and_self])
variable{l:List Int}{s:MS}{b:Blk}{a:aC}{i:Nat}
def Wos.set(h:Wos l){n:Int}(w:Wo n)(i:Nat):Wos (l.set i n):=λx a=>(mem_or_eq_of_mem_set a).elim (h x) (λe=>e▸w)
def Wos.drop(h:Wos l)(i:Nat):Wos (l.drop i):=λx a=>h x (mem_of_mem_drop a)
def Wos.snoc(h:Wos l){n:Int}(w:Wo n):Wos (l++ [n]):=λx a=>by
 rw [mem_append,mem_singleton]at a;exact a.elim (h x) (λe=>e▸w)
def wo0:Wo 0:=⟨by decide,by decide⟩
def ajA(h:Wos s.vals)(o:IOp):Wo (vx s o):=by
 unfold vx;split
 .exact h.at _
 .exact wo0
def ao6(h:Wos s.vals)(o:IOp):Wo (vy s o):=by
 unfold vy;split
 .exact h.at _
 .exact wo0
def Wos.hd(h:Wos l):Wo (l.getD 0 default):=h.at 0
def ajB{o:IOp}(h:Wos s.vals)(k:MOK s.m)(a:o.kind=1->0<=o.k/\o.k<=65535):Wo (mV s o):=by
 unfold mV;split
 .exact a ‹_›
 split
 .exact k.rw.at _
 split
 .exact Dr _ _ _
 split
 .exact k.mw.at _
 split
 .exact k.iw.hd
 .exact wo0
def ajC(h:Wos s.vals)(k:MOK s.m)(o:IOp):MOK (mM s o):=by
 unfold mM;split
 .exact {k with m64:=by rw [length_set];exact k.m64,mw:=k.mw.set (ao6 h o) _}
 split
 .exact {k with iw:=k.iw.drop 1}
 split
 .exact {k with ow:=k.ow.snoc (ajA h o)}
 split
 .exact {k with r4:=by rw [length_set];exact k.r4,rw:=k.rw.set (ajA h o) _}
 .exact k
def ajD(s:MS)(o:IOp):(mM s o).ins.length<=s.m.ins.length/\(mM s o).outs.length<=s.m.outs.length+1/\(mM s o).regs.length=s.m.regs.length/\(mM s o).mem.length=s.m.mem.length:=by
 unfold mM;split
 .exact⟨Nat.le_refl _,Nat.le_succ _,rfl,length_set⟩
 split
 .exact⟨by rw [length_drop];omega,Nat.le_succ _,rfl,rfl⟩
 split
 .exact⟨Nat.le_refl _,by rw [eG];exact Nat.le_refl _,rfl,rfl⟩
 split
 .exact⟨Nat.le_refl _,Nat.le_succ _,length_set,rfl⟩
 .exact⟨Nat.le_refl _,Nat.le_succ _,rfl,rfl⟩
def azg(b:Blk)(s:MS)(o:IOp):(aK b s o).m.ins.length<=s.m.ins.length/\(aK b s o).m.outs.length<=s.m.outs.length+1/\(aK b s o).m.regs.length=s.m.regs.length/\(aK b s o).m.mem.length=s.m.mem.length:=by
 unfold aK;split
 .exact⟨Nat.le_refl _,Nat.le_succ _,rfl,rfl⟩
 split
 .exact⟨Nat.le_refl _,Nat.le_succ _,rfl,rfl⟩
 split
 .exact ajD s o
 .exact ajD s o
def QC(b:Blk):∀(l:List IOp) (s:MS),(l.foldl (aK b) s).m.ins.length<=s.m.ins.length/\(l.foldl (aK b) s).m.outs.length<=s.m.outs.length+l.length/\(l.foldl (aK b) s).m.regs.length=s.m.regs.length/\(l.foldl (aK b) s).m.mem.length=s.m.mem.length
 | [],s=>⟨Nat.le_refl _,Nat.le_refl _,rfl,rfl⟩
 | o::l,s=>by
  rw [foldl_cons];have h:=QC b l (aK b s o);have k:=azg b s o;simp only [fA];exact⟨ah,ah,ah,ah⟩
theorem adg{m:aC}(a:dB b)(c:MSh m)(e:m.outs.length<900000000):MSh (qE b (b.ops.foldl (aK b) ⟨m,[],false⟩)):=by
 have h:=QC b b.ops ⟨m,[],false⟩;have d:=a.sz;obtain⟨j,i,f,g⟩:=c;dsimp only at h;unfold qE;split<;>refine⟨?_,?_,?_,?_⟩<;>(try dsimp only)<;>omega
def SM(b:Blk)(a:aC)(i:Nat):MS:=(b.ops.take i).foldl (aK b) ⟨a,[],false⟩
structure RJ(b:Blk)(m0:aC)(i:Nat)(S:MS):Prop where
 e:S=SM b m0 i
 lf:S.left=false
 ln:S.vals.length=i
 wv:Wos S.vals
 ok:MOK S.m
 li:S.m.ins.length<1000000000
 lo:S.m.outs.length<=m0.outs.length+i
def QD(c:i<b.ops.length):SM b a (i+1)=aK b (SM b a i) (b.ops.getD i default):=by
 unfold SM;rw [take_succ_eq_append_getElem c,foldl_append,getD_lt c];rfl
def adh{m:aC}{v:List Int}(h:SM b a i=⟨m,v,true⟩):b.ops.foldl (aK b) ⟨a,[],false⟩=⟨m,v,true⟩:=by
 conv=>lhs;rw [<-take_append_drop i b.ops]
 rw [foldl_append,show(b.ops.take i).foldl (aK b) ⟨a,[],false⟩=_ from h];exact QB b m v _
def RJ.next{S:MS}{o:IOp}(h:RJ b a i S)(f:i<b.ops.length)(e:b.ops.getD i default=o)(c:o.kind=1->0<=o.k/\o.k<=65535)
  (g:¬((o.kind=4\/o.kind=5)/\64<=vx S o)) (d:¬(o.kind=5/\b.pc+o.at_+1<=vx S o/\vx S o<=b.pc+b.len-1)):RJ b a (i+1) ⟨mM S o,S.vals++ [mV S o],false⟩:=by
 have l:=ajD S o;refine⟨?_,rfl,by rw [eG,h.ln];rfl,h.wv.snoc (ajB h.wv h.ok c),ajC h.wv h.ok o,by have:=h.li;dsimp only;omega,by have:=h.lo;dsimp only;omega⟩;rw [QD f,<-h.e,e];unfold aK;rw [dY (by rw [h.lf];decide),dY g,dY d]
def atU{i n:Nat}(a:l.length=i)(b:i<n)(v:Int):(l++replicate (n-i) 0).set i v=(l++ [v])++replicate (n- (i+1)) 0:=by
 rw [set_append_right _ _ ah,a,Nat.sub_self,show n-i=(n- (i+1))+1 by omega,replicate_succ,set_cons_zero,append_assoc];rfl
def anX{i n:Nat}(a:i<n):l++replicate (n-i) 0=(l++ [0])++replicate (n- (i+1)) 0:=by
 rw [show n-i=(n- (i+1))+1 by omega,replicate_succ,append_assoc];rfl
def azh{i n:Nat}{x:Int}(a:l.length=i)(b:0<=x)(h:x<i):((l++replicate (n-i) 0).getD (x).toNat default)=((l).getD (x).toNat default):=by
 rw [getD_eq_getElem?_getD,getElem?_append_left ah,<-getD_eq_getElem?_getD]
def atV{i n:Nat}(a:l.length=i)(h:i<=n):(l++replicate (n-i) 0).length=n:=by
 rw [eG,length_replicate];omega
end Go.TX.F
namespace Go.TX.F
open Go Go.AE Go.TX List
def QE(a b:Int):xP 1 a b=(inB a 0 65535&&inB b 0 65535&&decide (a=b)):=by unfold xP;simp
def QF(a b:Int):xP 2 a b=(inB a 0 65535&&inB b 0 65535&&decide (a<b)):=by unfold xP;simp
def RT(b:Blk)(a:aC)(y:List IOp×Int×Int×Int×Int×Bool×Bool×Int×List Int×Int×List Int×List Int×Blk×zx):Prop:=
 ∃(i:Nat) (S:MS),i<=b.ops.length/\RJ b a i S/\y=(b.ops,(b.ops.length:Int),(i:Int),S.m.pc,S.m.save,S.m.aL,S.m.waits,S.m.halt,S.m.ins,S.m.count,S.m.regs,S.m.mem,b,S.vals++replicate (b.ops.length-i) 0,S.m.outs,())
abbrev aBj(h:iK->Bool)(g:iK->Int×iK):Prop:=∀(d c:Int) (lt e:Bool) (b:Int) (ins:List Int) (f:Int) (regs mem a:List Int),ins.length<1000000000->h (d,c,lt,e,b,ins,f,regs,mem,a,())=true/\g (d,c,lt,e,b,ins,f,regs,mem,a,())=(ins.getD 0 default,d,c,lt,e,b,ins.drop 1,f,regs,mem,a,())
abbrev aa5(b:aCa->Bool)(a:aCa->aBW):Prop:=∀m,MSh m->b (m,())=true/\a (m,())=m10 m
abbrev QG(b:aCa->Bool)(a:aCa->lX):Prop:=∀m,MSh m->b (m,())=true/\a (m,())=(bp (MOK m),())
def azi{n:Int}(b:0<=n)(a:n<=15):(vN.getD n.toNat default).d=decide (n≠0/\n≠13)/\(vN.getD n.toNat default).a=decide (n≠0/\n≠1/\n≠14/\n≠15)/\
  (vN.getD n.toNat default).most=(if n=0 then 3 else if n=1 then 255 else if n=2 then 0 else if n<=7 then 3 else if n=8 then 15 else if n<=12 then 255 else 0):=by
 rcases(by omega:n=0\/n=1\/n=2\/n=3\/n=4\/n=5\/n=6\/n=7\/n=8\/n=9\/n=10\/n=11\/n=12\/n=13\/n=14\/n=15)with h | h | h | h | h | h | h | h | h | h | h | h | h | h | h | h<;>subst h<;>exact⟨rfl,rfl,rfl⟩
theorem atW:(vN.length:Int)=16:=rfl
theorem azj{p1 f1 p2 f2}(n:Y1 p1 f1)(m:Y17 p2 f2)(i:Ins):ahp.F (p1,f1,p2,f2,()) (i,()) (λy=>y=(bp (bg i),())):=by
 have a:(∀i:Ins,cO .ins 0 i=i.op)/\(∀i:Ins,cO .ins 1 i=i.d)/\(∀i:Ins,cO .ins 2 i=i.a)/\(∀i:Ins,cO .ins 3 i=i.k)/\(∀f:Form,LW .form 0 f=f.d)/\(∀f:Form,LW .form 1 f=f.a)/\(∀f:Form,cO .form 2 f=f.most):=⟨λ_=>rfl,λ_=>rfl,λ_=>rfl,λ_=>rfl,λ_=>rfl,λ_=>rfl,λ_=>rfl⟩;have e:acF .form=vN:=rfl;dsimp only [ahp,gm];simp (disch:=omega) only [RR,a,n,m,e,atW,bF,jJ];refine⟨λh=>by rw [aV (λg=>h ⟨g.1.1,g.1.2⟩)],λh=> ?_⟩;obtain⟨b,c,d⟩:=azi h.1 h.2;rw [b,c,d];refine⟨h.1,ah,Prod.ext ?_ rfl⟩;simp only [zi,nO];have l:∀P Q:Prop,(bp P || bp Q)=bp (P\/Q):=λP Q=>by by_cases k:P<;>by_cases j:Q<;>simp [bp,k,j]
 simp only [l,<-eH];refine gP ?_;unfold bg;obtain⟨o,p⟩:=h;rcases(by omega:i.op=0\/i.op=1\/i.op=2\/(3<=i.op/\i.op<=7)\/i.op=8\/(9<=i.op/\i.op<=12)\/i.op=13\/i.op=14\/i.op=15)with h | h | h | h | h | h | h | h | h
 all_goals (constructor<;>intro g<;>(repeat' split at g)<;>(repeat' split)<;>omega)
def azk{p1 f1}(b:Y1 p1 f1)(a:Int):ahs.F (p1,f1,()) (a,()) (λy=>y=(inB a 11 13,())):=by
 dsimp only [ahs,gm];simp (disch:=omega) only [RR,b]
abbrev ajE(c:eu->Bool)(b:eu->lX):Prop:=∀a,c (a,())=true/\b (a,())=(inB a 11 13,())
abbrev aa6(b:aCi->Bool)(a:aCi->lX):Prop:=∀i,b (i,())=true/\a (i,())=(bp (bg i),())
theorem aBk{p1 f1 p2 f2 p3 f3}(o:ajE p1 f1)(d:aa6 p2 f2)(t:Y1 p3 f3)(k:Int)(l:List Ins)(x:l.length<1000000000):aqU.F (p1,f1,p2,f2,p3,f3,()) (k,l,()) (λy=>y=(bp (ni k l),())):=by
 have p:∀i:Ins,cO .ins 0 i=i.op:=λ_=>rfl
 dsimp only [aqU,gm];simp (disch:=omega) only [RR,p,o,d,t,bF,jJ];refine⟨λh=> ?_,λh=> ?_⟩
 .rw [aV];intro g;have a:=g.ln;have c:=g.pc;omega
 refine ay (λ(y:List Ins×List Ins×sj)=>y.1=l/\y.2.1=l/\y.2.2.1=l.length/\0<=y.2.2.2.1/\y.2.2.2.1<=l.length/\∀j:Nat,j<y.2.2.2.1->bg (l.getD j default)/\(l.getD j default).op≠0/\(11<=(l.getD j default).op/\(l.getD j default).op<=13->j+1=l.length)) (λy=>(l.length-y.2.2.2.1).toNat) ⟨rfl,rfl,rfl,by simp,by simp,λj b=>absurd b (by dsimp only;omega)⟩ ?_;rintro⟨(z:List Ins),(A:List Ins),(n:Int),(i:Int),⟨⟩⟩ hI;dsimp only at hI ⊢;obtain⟨rfl,rfl,rfl,r,w,f⟩:=hI;simp (disch:=omega) only [RR,p,o,d,bF,jJ,aF,gK];refine⟨λg=>⟨r,g,λe=> ?_,λe=>⟨⟨ah,ah,λj b=> ?_⟩,ah⟩⟩,λg=> ?_⟩
 .rw [aV];intro v;have:=v.ok i.toNat ah;rcases e with(e | e) | e
  .exact e this.1
  .exact this.2.1 e
  .have:=this.2.2 e.1;omega
 .by_cases c:j<i
  .exact f j c
  .have ej:j=i.toNat:=by omega
   subst ej;obtain⟨⟨u,s⟩,m⟩:=e;refine⟨u,s,λq=> ?_⟩;rw [bF.2 q,Bool.true_and]at m;have:=of_decide_eq_false m;omega
 .rw [aJ];exact⟨ah,ah,λj b=>f j ah⟩
theorem atX{p1 f1}(q:Y61 p1 f1)(g x y k n o i l j m a:Int)(f:List IOp)(h:f.length<1000000):aam.F (p1,f1,()) (g,x,y,k,n,o,i,l,j,m,a,f,()) (λp=>p=((f.length:Int),n,o,i,l,j,m,a,f++ [⟨g,x,y,k,if 4<=g/\g<=7 then a else 0⟩],())):=by
 have mk:∀a b c d e:Int,Co.mk .iop (a,b,c,d,e,())=⟨a,b,c,d,e⟩:=λ_ _ _ _ _=>rfl
 dsimp only [aam,gm];simp (disch:=omega) only [RR,mk,q,evO,fA,fE,eG];refine⟨λc=>⟨ah,?_⟩,λc=>⟨ah,?_⟩⟩
 .rw [eB c,show((f.length+(0+1):Nat):Int)-1=f.length by omega]
 .rw [dY c,show((f.length+(0+1):Nat):Int)-1=f.length by omega]
abbrev ajF(l:yc->Bool)(j:yc->H9):Prop:=∀(c x y k e f g d h i a:Int) (b:List IOp),b.length<1000000->l (c,x,y,k,e,f,g,d,h,i,a,b,())=true/\j (c,x,y,k,e,f,g,d,h,i,a,b,())=((b.length:Int),e,f,g,d,h,i,a,b++ [⟨c,x,y,k,if 4<=c/\c<=7 then a else 0⟩],())
def atY{p1 f1}(j:ajF p1 f1)(k d e f c g i a:Int)(b:List IOp)(h:b.length<1000000):aao.F (p1,f1,()) (k,d,e,f,c,g,i,a,b,()) (λy=>y=((b.length:Int),d,e,f,c,g,i,a,b++ [⟨1,0,0,k,0⟩],())):=by
 dsimp only [aao,gm];simp (disch:=omega) only [RR,j 1 0 0 k d e f c g i a b h];rfl
def atZ{p1 f1}(j:ajF p1 f1)(k d e f c g i a:Int)(b:List IOp)(h:b.length<1000000):aap.F (p1,f1,()) (k,d,e,f,c,g,i,a,b,()) (λy=>y=((b.length:Int),d,e,f,c,g,i,a,b++ [⟨2,0,0,k,0⟩],())):=by
 dsimp only [aap,gm];simp (disch:=omega) only [RR,j 2 0 0 k d e f c g i a b h];rfl
def at0{p1 f1}(k:ajF p1 f1)(d x y e f g c i j a:Int)(b:List IOp)(h:b.length<1000000):aaq.F (p1,f1,()) (d,x,y,e,f,g,c,i,j,a,b,()) (λz=>z=((b.length:Int),e,f,g,c,i,j,a,b++ [⟨3,x,y,d,0⟩],())):=by
 dsimp only [aaq,gm];simp (disch:=omega) only [RR,k 3 x y d e f g c i j a b h];rfl
theorem at5{p1 f1}(k:ajF p1 f1)(v:Int)(i:Ins)(d e f c g j a:Int)(b:List IOp)(h:b.length<1000000):aan.F (p1,f1,()) (v,i,d,e,f,c,g,j,a,b,()) (λy=>y=(i,d,e,f,c,g,j,a,b++ [⟨8,v,0,i.d,0⟩],())):=by
 have l:cO .ins 1 i=i.d:=rfl;dsimp only [aan,gm];simp (disch:=omega) only [RR,l,k 8 v 0 i.d d e f c g j a b h];rfl
def anY{k:Int}(a:0<=k)(b:k<=15):gH .shl .i64 1 k=2^k.toNat:=by
 have p:=Kl a b;unfold Wo at p;show IntKind.i64.wrap (1*2^ (min k.toNat 64))=_;rw [Nat.min_eq_left ah,Int.one_mul,w64 ah ah]
set_option maxHeartbeats 1000000 in
def at6{p4 f4}{S:Int×Int×H9->Bool}{Q:Int×Int×H9->H9}{O:H9->Bool}{V:H9->H9}{M:Int×Ins×aCp->Bool}{X:Int×Ins×aCp->Ins×aCp}{N:H9->Bool}{T:H9->H9}(w:∀(L x y j d c e f g a:Int) (b:List IOp),b.length<1000000->S (L,x,y,j,d,c,e,f,g,a,b,())=true/\Q (L,x,y,j,d,c,e,f,g,a,b,())=((b.length:Int),j,d,c,e,f,g,a,b++ [⟨3,x,y,L,0⟩],()))(s:∀(k j d c e f g a:Int) (b:List IOp),b.length<1000000->O (k,j,d,c,e,f,g,a,b,())=true/\V (k,j,d,c,e,f,g,a,b,())=((b.length:Int),j,d,c,e,f,g,a,b++ [⟨2,0,0,k,0⟩],()))(r:∀(v:Int) (i:Ins) (j d c e f g a:Int) (b:List IOp),b.length<1000000->M (v,i,j,d,c,e,f,g,a,b,())=true/\X (v,i,j,d,c,e,f,g,a,b,())=(i,j,d,c,e,f,g,a,b++ [⟨8,v,0,i.d,0⟩],()))(u:ajF p4 f4)(q:∀(k j d c e f g a:Int) (b:List IOp),b.length<1000000->N (k,j,d,c,e,f,g,a,b,())=true/\T (k,j,d,c,e,f,g,a,b,())=((b.length:Int),j,d,c,e,f,g,a,b++ [⟨1,0,0,k,0⟩],()))(i:Ins)(B:Blk)(a:Int)(h:B.ops.length<900000)(K:i.op=8->0<=i.k/\i.k<=15)(Y:0<=i.op/\i.op<=15):aar.F (S,Q,O,V,M,X,p4,f4,N,T,()) (i,B.pc,B.len,B.fin,B.x,B.y,B.k,a,B.ops,()) (λy=>y=((dz a B i).pc,(dz a B i).len,(dz a B i).fin,(dz a B i).x,(dz a B i).y,(dz a B i).k,a,(dz a B i).ops,())):=by
 have C:(∀i:Ins,cO .ins 0 i=i.op)/\(∀i:Ins,cO .ins 1 i=i.d)/\(∀i:Ins,cO .ins 2 i=i.a)/\(∀i:Ins,cO .ins 3 i=i.k):=⟨λ_=>rfl,λ_=>rfl,λ_=>rfl,λ_=>rfl⟩;have d:∀n:Int,n+1+1=n+2:=λn=>by omega
 have c:∀n:Int,n+2+1=n+3:=λn=>by omega
 have e:∀n:Int,n-3+1=n-2:=λn=>by omega
 obtain⟨Z,a0⟩:=Y;have z:∀(l:List IOp) (o:IOp),((l++ [o]).length:Int)=l.length+1:=λl o=>by rw [eG];rfl
 have t:∀(l:List IOp) (o:IOp),l.length<990000->(l++ [o]).length<1000000:=λl o h=>by rw [eG];simp only [fA,fE];omega
 have m:∀(l:List IOp) (o D:IOp),l.length<990000->((l++ [o])++ [D]).length<1000000:=λl o D h=>by simp only [eG,fA,fE];omega
 have p:∀(l:List IOp) (o D I:IOp),l.length<990000->(((l++ [o])++ [D])++ [I]).length<1000000:=λl o D I h=>by simp only [eG,fA,fE];omega
 have A:∀(l:List IOp) (o D I U:IOp),l.length<990000->((((l++ [o])++ [D])++ [I])++ [U]).length<1000000:=λl o D I U h=>by simp only [eG,fA,fE];omega
 dsimp only [aar,gm];unfold dz bW;by_cases W:i.op=1
 .simp (disch:=first | omega | (apply t;omega) | (apply m;omega) | (apply p;omega) | (apply A;omega)) only [RR,C,W,w,s,r,u,q,z,Int.reduceEq,Int.reduceAdd,Int.reduceSub,Int.reduceLE,or_self,true_and,and_true,and_self,false_and,and_false]
  try simp [d,c]
 by_cases R:i.op=2
 .simp (disch:=first | omega | (apply t;omega) | (apply m;omega) | (apply p;omega) | (apply A;omega)) only [RR,C,R,w,s,r,u,q,z,Int.reduceEq,Int.reduceAdd,Int.reduceSub,Int.reduceLE,or_self,true_and,and_true,and_self,false_and,and_false]
  try simp [d,c]
 by_cases J:i.op=8
 .simp (disch:=first | omega | (apply t;omega) | (apply m;omega) | (apply p;omega) | (apply A;omega)) only [RR,C,J,w,s,r,u,q,z,Int.reduceEq,Int.reduceAdd,Int.reduceSub,Int.reduceLE,or_self,true_and,and_true,and_self,false_and,and_false,anY (K J).1 (K J).2,(K J).1]
  try simp [d,c]
 by_cases P:i.op=9
 .simp (disch:=first | omega | (apply t;omega) | (apply m;omega) | (apply p;omega) | (apply A;omega)) only [RR,C,P,w,s,r,u,q,z,Int.reduceEq,Int.reduceAdd,Int.reduceSub,Int.reduceLE,or_self,true_and,and_true,and_self,false_and,and_false]
  try simp [d,c]
 by_cases H:i.op=10
 .simp (disch:=first | omega | (apply t;omega) | (apply m;omega) | (apply p;omega) | (apply A;omega)) only [RR,C,H,w,s,r,u,q,z,Int.reduceEq,Int.reduceAdd,Int.reduceSub,Int.reduceLE,or_self,true_and,and_true,and_self,false_and,and_false]
  try simp [d,c]
 by_cases F:i.op=14
 .simp (disch:=first | omega | (apply t;omega) | (apply m;omega) | (apply p;omega) | (apply A;omega)) only [RR,C,F,w,s,r,u,q,z,Int.reduceEq,Int.reduceAdd,Int.reduceSub,Int.reduceLE,or_self,true_and,and_true,and_self,false_and,and_false]
  try simp [d,c]
 by_cases G:i.op=15
 .simp (disch:=first | omega | (apply t;omega) | (apply m;omega) | (apply p;omega) | (apply A;omega)) only [RR,C,G,w,s,r,u,q,z,Int.reduceEq,Int.reduceAdd,Int.reduceSub,Int.reduceLE,or_self,true_and,and_true,and_self,false_and,and_false]
  try simp [d,c]
 by_cases E:i.op=11
 .simp (disch:=first | omega | (apply t;omega) | (apply m;omega) | (apply p;omega) | (apply A;omega)) only [RR,C,E,w,s,r,u,q,z,Int.reduceEq,Int.reduceAdd,Int.reduceSub,Int.reduceLE,or_self,true_and,and_true,and_self,false_and,and_false]
  try simp [d,c]
 by_cases e12:i.op=12
 .simp (disch:=first | omega | (apply t;omega) | (apply m;omega) | (apply p;omega) | (apply A;omega)) only [RR,C,e12,w,s,r,u,q,z,Int.reduceEq,Int.reduceAdd,Int.reduceSub,Int.reduceLE,or_self,true_and,and_true,and_self,false_and,and_false]
  try simp [d,c]
 by_cases e13:i.op=13
 .simp (disch:=first | omega | (apply t;omega) | (apply m;omega) | (apply p;omega) | (apply A;omega)) only [RR,C,e13,w,s,r,u,q,z,Int.reduceEq,Int.reduceAdd,Int.reduceSub,Int.reduceLE,or_self,true_and,and_true,and_self,false_and,and_false]
  try simp [d,c]
 simp (disch:=first | omega | (apply t;omega) | (apply m;omega) | (apply p;omega) | (apply A;omega)) only [RR,C,W,R,J,P,H,F,G,E,e12,e13,w,s,r,u,q,z,Int.reduceEq,Int.reduceAdd,Int.reduceSub,Int.reduceLE,or_self,true_and,and_true,and_self,false_and,and_false]
 try simp [d,c,e]
def ajG(n b:Int)(i:Ins):(bW n b i).length<=5:=by
 unfold bW;repeat' split
 all_goals simp only [fA,fE]
 all_goals omega
def ajH(n:Int)(b:Blk)(i:Ins):(dz n b i).ops.length<=b.ops.length+5:=by
 have:=ajG n b.ops.length i;unfold dz;repeat' split
 all_goals (dsimp only;rw [eG];omega)
def uZ:∀(l:List Ins) (n:Int) (b:Blk) (i:Ins),jV n b (l++ [i])=dz (n+l.length) (jV n b l) i
 | [],n,b,i=>by simp [jV]
 | j::l,n,b,i=>by
  show jV (n+1) (dz n b j) (l++ [i])=dz _ (jV (n+1) (dz n b j) l) i;rw [uZ l (n+1) (dz n b j) i,fA,show n+1+(l.length:Int)=n+((l.length+1:Nat):Int) by omega]
def DF:∀(l:List Ins) (n:Int) (b:Blk),(jV n b l).ops.length<=b.ops.length+5*l.length
 | [],_,_=>Nat.le_refl _
 | i::l,n,b=>by
  show(jV (n+1) (dz n b i) l).ops.length<=_;have:=DF l (n+1) (dz n b i);have:=ajH n b i;rw [fA];omega
abbrev azl(c:mQ->Bool)(b:mQ->lX):Prop:=∀a l,l.length<1000000000->c (a,l,())=true/\b (a,l,())=(bp (ni a l),())
theorem aBl{p1 f1 p2 f2}{j:Ins×aCp->Bool}{m:Ins×aCp->aCp}(u:azl p1 f1)(s:Y99 p2 f2)(q:∀(i:Ins) (B:Blk) (a:Int),B.ops.length<900000->(i.op=8->0<=i.k/\i.k<=15)->(0<=i.op/\i.op<=15)->j (i,B.pc,B.len,B.fin,B.x,B.y,B.k,a,B.ops,())=true/\m (i,B.pc,B.len,B.fin,B.x,B.y,B.k,a,B.ops,())=((dz a B i).pc,(dz a B i).len,(dz a B i).fin,(dz a B i).x,(dz a B i).y,(dz a B i).k,a,(dz a B i).ops,()))(f:Int)(l:List Ins)(r:l.length<1000000000):aqZ.F (p1,f1,p2,f2,j,m,()) (f,l,()) (λy=>y=bk7 (lower f l)):=by
 have mE:∀c:Blk,Co.mk .blk (c.pc,c.len,c.ops,c.fin,c.x,c.y,c.k,())=c:=λ_=>rfl
 dsimp only [aqZ,gm,jU];simp (disch:=omega) only [RR,u f l r,aF,gK];unfold lower;refine⟨λh=>by rw [aV h,dY (by decide)];rfl,λh=> ?_⟩;rw [aJ h,eB rfl];have x:=h.ln;have z:=h.pc;refine ay (λ(y:List Ins×Int×Int×aCv)=>y.1=l/\y.2.1=l.length/\0<=y.2.2.1/\y.2.2.1<=l.length/\∃B:Blk,B=jV 0 (pV f l) (l.take y.2.2.1.toNat)/\y.2.2.2.2.2.2.2.2.2.1=B.pc/\y.2.2.2.2.2.2.2.2.2.2.1=B.len/\y.2.2.2.2.2.2.2.2.2.2.2.1=B.fin/\y.2.2.2.2.2.2.2.2.2.2.2.2.1=B.x/\y.2.2.2.2.2.2.2.2.2.2.2.2.2.1=B.y/\y.2.2.2.2.2.2.2.2.2.2.2.2.2.2.1=B.k/\y.2.2.2.2.2.2.2.2.2.2.2.2.2.2.2.2.1=B.ops) (λy=>(l.length-y.2.2.1).toNat) ⟨rfl,rfl,by simp,by simp,_,rfl,rfl,rfl,rfl,rfl,rfl,w64 ah ah,rfl⟩ ?_;rintro⟨(b:List Ins),(n:Int),(i:Int),z1,z2,z3,z4,z5,z6,q1,q2,q3,q4,q5,q6,q7,q8,⟨⟩⟩ hI;dsimp only at hI ⊢;obtain⟨rfl,rfl,k,v,B,g,rfl,rfl,rfl,rfl,rfl,rfl,rfl⟩:=hI;have w:B.ops.length<=40:=by
  have:=DF (b.take i.toNat) 0 (pV f b);rw [<-g]at this;have t:=length_take_le i.toNat b;have:(pV f b).ops.length=0:=rfl;omega
 by_cases c:i<b.length
 .obtain⟨o1,o2,o3⟩:=h.ok i.toNat ah;have p:(((b).getD (i).toNat default)).op=8->0<=(((b).getD (i).toNat default)).k/\(((b).getD (i).toNat default)).k<=15:=λe=>⟨o1.2.2.2.1,o1.2.2.2.2.2.2.2.2.1 e⟩
  have o:=o1.1;simp (disch:=omega) only [RR,c,q (((b).getD (i).toNat default)) B i ah p o];refine⟨k,⟨ah,ah,dz i B (((b).getD (i).toNat default)),?_,rfl,rfl,rfl,rfl,rfl,rfl,rfl⟩,ah⟩;rw [<-bA (d:=default) k c rfl,uZ,<-g,length_take,show(0:Int)+((min i.toNat b.length:Nat):Int)=i by omega]
 .rw [take_of_length_le ah]at g;simp (disch:=omega) only [RR,c,mE,s B ah,<-g]
def OKS(ops:List IOp)(len:Int):Prop:=∀j:Int,0<=j->j<ops.length->pU ops len j ((ops).getD (j).toNat default)
theorem azm{a w:List IOp}{x:Int}(b:0<=x)(h:x<a.length):((a++w).getD (x).toNat default)=((a).getD (x).toNat default):=by
 rw [getD_eq_getElem?_getD,getElem?_append_left ah,<-getD_eq_getElem?_getD]
theorem azn{a w:List IOp}{t:Nat}:((a++w).getD ((a.length:Int)+t).toNat default)=w.getD t default:=by
 rw [getD_eq_getElem?_getD,getElem?_append_right ah,<-getD_eq_getElem?_getD,show((a.length:Int)+t).toNat-a.length=t by omega]
theorem Vl.mono{d w:List IOp}{x n e:Int}(h:Vl d x n)(f:n<=d.length)(h2:n<=e):Vl (d++w) x e:=by
 obtain⟨a,b,c⟩:=h;exact⟨a,ah,by rw [azm a ah];exact c⟩
theorem pU.mono{a w:List IOp}{len i:Int}{o:IOp}(h:pU a len i o)(b:i<=a.length):pU (a++w) len i o:=
 {h with x1:=λg=>(h.x1 g).mono b (Int.le_refl _),y1:=λg=>(h.y1 g).mono b (Int.le_refl _)}
theorem OKS.app{a w:List IOp}{len:Int}(h:OKS a len)(d:∀t:Nat,t<w.length->pU (a++w) len ((a.length:Int)+t) (w.getD t default)):OKS (a++w) len:=λj b e=>by
 rw [eG]at e;by_cases c:j<a.length
 .rw [azm b c];exact(h j b c).mono ah
 .obtain⟨t,rfl⟩:∃t:Nat,j=(a.length:Int)+t:=⟨(j-a.length).toNat,ah⟩;rw [azn];exact d t ah
theorem adi(a w:List IOp)(s t:Nat)(h:s<t)(m:mkV (w.getD s default)):Vl (a++w) ((a.length:Int)+s) ((a.length:Int)+t):=⟨ah,ah,by rw [azn];exact m⟩
section
variable {ops:List IOp} {len i x y k n:Int}
theorem ok1(h:0<=k/\k<=65535):pU ops len i ⟨1,0,0,k,0⟩:=by constructor<;>simp [hX,hY,evO]<;>omega
theorem ok2(h:0<=k/\k<=3):pU ops len i ⟨2,0,0,k,0⟩:=by constructor<;>simp [hX,hY,evO]<;>omega
theorem ok3(h:1<=k/\k<=5)(b:Vl ops x i)(a:Vl ops y i):pU ops len i ⟨3,x,y,k,0⟩:=by constructor<;>simp [hX,hY,evO,b,a]<;>omega
theorem ok4(h:0<=n/\n<len)(a:Vl ops x i):pU ops len i ⟨4,x,0,0,n⟩:=by constructor<;>simp [hX,hY,evO,a]<;>omega
theorem ok5(h:0<=n/\n<len)(b:Vl ops x i)(a:Vl ops y i):pU ops len i ⟨5,x,y,0,n⟩:=by constructor<;>simp [hX,hY,evO,b,a]<;>omega
theorem ok6(h:0<=n/\n<len):pU ops len i ⟨6,0,0,0,n⟩:=by constructor<;>simp [hX,hY,evO]<;>omega
theorem ok7(h:0<=n/\n<len)(a:Vl ops x i):pU ops len i ⟨7,x,0,0,n⟩:=by constructor<;>simp [hX,hY,evO,a]<;>omega
theorem ok8(h:0<=k/\k<=3)(a:Vl ops x i):pU ops len i ⟨8,x,0,k,0⟩:=by constructor<;>simp [hX,hY,evO,a]<;>omega
end
theorem adk{ops:List IOp}{len n:Int}{i:Ins}(h:OKS ops len)(G:bg i)(K:i.op≠0)(hn:0<=n/\n<len):OKS (ops++bW n ops.length i) len/\
  (i.op=11\/i.op=12->Vl (ops++bW n ops.length i) ops.length ((ops++bW n ops.length i).length)/\Vl (ops++bW n ops.length i) (ops.length+1) ((ops++bW n ops.length i).length))/\
  (i.op=13->Vl (ops++bW n ops.length i) ops.length ((ops++bW n ops.length i).length)):=by
 obtain⟨⟨N,L⟩,⟨o,l⟩,⟨p,q⟩,A,_,E,M,D,J,B,F,H⟩:=G;have k:=λ(w:List IOp) (t:Nat) (h:0<t) (m:mkV (w.getD 0 default))=>show Vl (ops++w) (ops.length:Int) ((ops.length:Int)+t)from by have:=adi ops w 0 t h m;rwa [Int.natCast_zero,Int.add_zero]at this
 have s:=λ(w:List IOp) (t:Nat) (h:1<t) (m:mkV (w.getD 1 default))=>adi ops w 1 t h m
 have v:=λ(w:List IOp) (t:Nat) (h:2<t) (m:mkV (w.getD 2 default))=>adi ops w 2 t h m
 have z:=λ(w:List IOp) (t:Nat) (h:3<t) (m:mkV (w.getD 3 default))=>adi ops w 3 t h m
 have x:∀a b c d:Int,mkV ⟨1,a,b,c,d⟩:=λ_ _ _ _=>by unfold mkV;dsimp only;omega
 have j:∀a b c d:Int,mkV ⟨2,a,b,c,d⟩:=λ_ _ _ _=>by unfold mkV;dsimp only;omega
 have u:∀a b c d:Int,mkV ⟨3,a,b,c,d⟩:=λ_ _ _ _=>by unfold mkV;dsimp only;omega
 have I:∀a b c d:Int,mkV ⟨4,a,b,c,d⟩:=λ_ _ _ _=>by unfold mkV;dsimp only;omega
 have C:∀a b c d:Int,mkV ⟨6,a,b,c,d⟩:=λ_ _ _ _=>Or.inr rfl
 rcases(by omega:i.op=1\/i.op=2\/(3<=i.op/\i.op<=7)\/i.op=8\/i.op=9\/i.op=10\/(i.op=11\/i.op=12)\/i.op=13\/i.op=14\/i.op=15)with c | c | c | c | c | c | c | c | c | c
 .have e:bW n ops.length i=[⟨1,0,0,i.k,0⟩,⟨8,ops.length,0,i.d,0⟩]:=by unfold bW;rw [eB c]
  rw [e];refine⟨h.app λt f=> ?_,λg=>by omega,λg=>by omega⟩;rcases t with _ | _ | t
  .exact ok1 (by have:=E c;omega)
  .exact ok8 ⟨o,l⟩ (k _ 1 (by decide) (x _ _ _ _))
  .simp only [fA,fE]at f;omega
 .have e:bW n ops.length i=[⟨2,0,0,i.a,0⟩,⟨8,ops.length,0,i.d,0⟩]:=by unfold bW;rw [dY ah,eB c]
  rw [e];refine⟨h.app λt f=> ?_,λg=>by omega,λg=>by omega⟩;rcases t with _ | _ | t
  .exact ok2 ⟨p,q⟩
  .exact ok8 ⟨o,l⟩ (k _ 1 (by decide) (j _ _ _ _))
  .simp only [fA,fE]at f;omega
 .have e:bW n ops.length i=[⟨2,0,0,i.a,0⟩,⟨2,0,0,i.k,0⟩,⟨3,ops.length,ops.length+1,i.op-2,0⟩,⟨8,ops.length+2,0,i.d,0⟩]:=by
   unfold bW
   iterate 9 rw [dY ah]
  rw [e];refine⟨h.app λt f=> ?_,λg=>by omega,λg=>by omega⟩;rcases t with _ | _ | _ | _ | t
  .exact ok2 ⟨p,q⟩
  .exact ok2 ⟨A,D c⟩
  .exact ok3 ah (k _ 2 (by decide) (j _ _ _ _)) (s _ 2 (by decide) (j _ _ _ _))
  .exact ok8 ⟨o,l⟩ (v _ 3 (by decide) (u _ _ _ _))
  .simp only [fA,fE]at f;omega
 .have e:bW n ops.length i=[⟨2,0,0,i.a,0⟩,⟨1,0,0,2^i.k.toNat,0⟩,⟨3,ops.length,ops.length+1,3,0⟩,⟨8,ops.length+2,0,i.d,0⟩]:=by
   unfold bW;rw [dY ah,dY ah,eB c]
  rw [e];refine⟨h.app λt f=> ?_,λg=>by omega,λg=>by omega⟩;rcases t with _ | _ | _ | _ | t
  .exact ok2 ⟨p,q⟩
  .exact ok1 (Kl A (J c))
  .exact ok3 (by decide) (k _ 2 (by decide) (j _ _ _ _)) (s _ 2 (by decide) (x _ _ _ _))
  .exact ok8 ⟨o,l⟩ (v _ 3 (by decide) (u _ _ _ _))
  .simp only [fA,fE]at f;omega
 .have e:bW n ops.length i=[⟨2,0,0,i.a,0⟩,⟨1,0,0,i.k,0⟩,⟨3,ops.length,ops.length+1,1,0⟩,⟨4,ops.length+2,0,0,n⟩,⟨8,ops.length+3,0,i.d,0⟩]:=by
   unfold bW;rw [dY ah,dY ah,dY ah,eB c]
  have r:=B ah;rw [e];refine⟨h.app λt f=> ?_,λg=>by omega,λg=>by omega⟩;rcases t with _ | _ | _ | _ | _ | t
  .exact ok2 ⟨p,q⟩
  .exact ok1 ah
  .exact ok3 (by decide) (k _ 2 (by decide) (j _ _ _ _)) (s _ 2 (by decide) (x _ _ _ _))
  .exact ok4 hn (v _ 3 (by decide) (u _ _ _ _))
  .exact ok8 ⟨o,l⟩ (z _ 4 (by decide) (I _ _ _ _))
  .simp only [fA,fE]at f;omega
 .have e:bW n ops.length i=[⟨2,0,0,i.a,0⟩,⟨1,0,0,i.k,0⟩,⟨3,ops.length,ops.length+1,1,0⟩,⟨2,0,0,i.d,0⟩,⟨5,ops.length+2,ops.length+3,0,n⟩]:=by
   unfold bW;rw [dY ah,dY ah,dY ah,dY ah,eB c]
  have r:=B ah;rw [e];refine⟨h.app λt f=> ?_,λg=>by omega,λg=>by omega⟩;rcases t with _ | _ | _ | _ | _ | t
  .exact ok2 ⟨p,q⟩
  .exact ok1 ah
  .exact ok3 (by decide) (k _ 2 (by decide) (j _ _ _ _)) (s _ 2 (by decide) (x _ _ _ _))
  .exact ok2 ⟨o,l⟩
  .exact ok5 hn (v _ 4 (by decide) (u _ _ _ _)) (z _ 4 (by decide) (j _ _ _ _))
  .simp only [fA,fE]at f;omega
 .have e:bW n ops.length i=[⟨2,0,0,i.d,0⟩,⟨2,0,0,i.a,0⟩]:=by
   unfold bW
   iterate 7 rw [dY ah]
   rw [eB c]
  have y:∀a b:IOp,(((ops++ [a,b]).length:Nat):Int)=(ops.length:Int)+((2:Nat):Int):=λa b=>by rw [eG];rfl
  rw [e];refine⟨h.app λt f=> ?_,λg=> ?_,λg=>by omega⟩
  .rcases t with _ | _ | t
   .exact ok2 ⟨o,l⟩
   .exact ok2 ⟨p,q⟩
   .simp only [fA,fE]at f;omega
  .rw [y];exact⟨k _ 2 (by decide) (j _ _ _ _),s _ 2 (by decide) (j _ _ _ _)⟩
 .have e:bW n ops.length i=[⟨2,0,0,i.a,0⟩]:=by
   unfold bW
   iterate 8 rw [dY ah]
   rw [eB c]
  have y:∀a:IOp,(((ops++ [a]).length:Nat):Int)=(ops.length:Int)+((1:Nat):Int):=λa=>by rw [eG];rfl
  rw [e];refine⟨h.app λt f=> ?_,λg=>by omega,λg=> ?_⟩
  .rcases t with _ | t
   .exact ok2 ⟨p,q⟩
   .simp only [fA,fE]at f;omega
  .rw [y];exact k _ 1 (by decide) (j _ _ _ _)
 .have e:bW n ops.length i=[⟨2,0,0,i.d,0⟩,⟨7,ops.length,0,0,n⟩]:=by
   unfold bW
   iterate 5 rw [dY ah]
   rw [eB c]
  rw [e];refine⟨h.app λt f=> ?_,λg=>by omega,λg=>by omega⟩;rcases t with _ | _ | t
  .exact ok2 ⟨o,l⟩
  .exact ok7 hn (k _ 1 (by decide) (j _ _ _ _))
  .simp only [fA,fE]at f;omega
 .have e:bW n ops.length i=[⟨6,0,0,0,n⟩,⟨8,ops.length,0,i.d,0⟩]:=by
   unfold bW
   iterate 6 rw [dY ah]
   rw [eB c]
  rw [e];refine⟨h.app λt f=> ?_,λg=>by omega,λg=>by omega⟩;rcases t with _ | _ | t
  .exact ok6 hn
  .exact ok8 ⟨o,l⟩ (k _ 1 (by decide) (C _ _ _ _))
  .simp only [fA,fE]at f;omega
end Go.TX.F
namespace Go.TX.F
open Go Go.AE Go.TX List
variable{l:List Ins}
def Mid(i:Ins):Prop:=bg i/\i.op≠0/\¬(11<=i.op/\i.op<=13)
def ajI{n:Int}{b:Blk}{i:Ins}(h:Mid i):dz n b i={b with ops:=b.ops++bW n b.ops.length i}:=by
 obtain⟨_,_,a⟩:=h;unfold dz;rw [dY ah,dY ah]
def Km:∀(r:List Ins) (n:Int) (b:Blk),(∀i∈r,Mid i)->OKS b.ops b.len->0<=n->n+r.length<=b.len->OKS (jV n b r).ops b.len/\jV n b r={b with ops:=(jV n b r).ops}
 | [],n,b,_,h,_,_=>⟨h,rfl⟩
 | i::r,n,b,hr,h,h0,h1=>by
  have a:=hr i (mem_cons_self ..);simp only [fA]at h1;have k:=adk (n:=n) h a.1 a.2.1 ⟨h0,ah⟩;have e:=ajI (n:=n) (b:=b) a;show OKS (jV (n+1) (dz n b i) r).ops b.len/\jV (n+1) (dz n b i) r={b with ops:=(jV (n+1) (dz n b i) r).ops};have c:=Km r (n+1) (dz n b i) (λj d=>hr j (mem_cons_of_mem _ d)) (by rw [e];exact k.1) ah (by rw [e];dsimp only;omega);rw [e]at c ⊢;exact c
def zk(n:Int)(b:Blk)(i:Ins):(dz n b i).ops=b.ops++bW n b.ops.length i:=by
 unfold dz;split
 .rfl
 split<;>rfl
def TQ:∀(r:List Ins) (n:Int) (b:Blk),∃w,(jV n b r).ops=b.ops++w
 | [],n,b=>⟨[],by rw [append_nil];rfl⟩
 | i::r,n,b=>by
  obtain⟨w,e⟩:=TQ r (n+1) (dz n b i);exact⟨bW n b.ops.length i++w,by show(jV (n+1) (dz n b i) r).ops=_;rw [e,zk,append_assoc]⟩
def Oe{pc:Int}(h:ni pc l):∃r i,l=r++ [i]/\(∀j∈r,Mid j)/\bg i/\i.op≠0:=by
 have f:=h.ln;rcases eq_nil_or_concat l with e | ⟨r,i,e⟩
 .subst e;simp at f
 rw [concat_eq_append]at e;subst e;refine⟨r,i,rfl,λj d=> ?_,?_,?_⟩
 .obtain⟨t,ht,rfl⟩:=getElem_of_mem d;have:=h.ok t (by rw [eG];omega);rw [getD_eq_getElem?_getD,getElem?_append_left ht,getElem?_eq_getElem ht]at this;obtain⟨a,b,c⟩:=this;refine⟨a,b,λg=> ?_⟩;have:=c g;rw [eG,length_singleton]at this;omega
 .have:=h.ok r.length (by rw [eG,length_singleton];omega);rw [getD_eq_getElem?_getD,getElem?_append_right (Nat.le_refl _),Nat.sub_self]at this;exact this.1
 .have:=h.ok r.length (by rw [eG,length_singleton];omega);rw [getD_eq_getElem?_getD,getElem?_append_right (Nat.le_refl _),Nat.sub_self]at this;exact this.2.1
theorem ku{pc:Int}(h:ni pc l):dB (lower pc l):=by
 have D:=h.ln;have B:=h.pc;have o:lower pc l=jV 0 (pV pc l) l:=by unfold lower;rw [aJ h,eB rfl]
 have w:=DF l 0 (pV pc l);obtain⟨r,i,e,y,m,s⟩:=Oe h;have C:l.length=r.length+1:=by rw [e,eG,length_singleton]
 have v:OKS (pV pc l).ops (pV pc l).len:=λj p k=>absurd k (by show¬j< ((0:Nat):Int);omega)
 obtain⟨A,f⟩:=Km r 0 (pV pc l) y v ah (by show 0+(r.length:Int)<=(l.length:Int);omega);have b:lower pc l=dz r.length (jV 0 (pV pc l) r) i:=by
  rw [o]
  conv=>lhs;rw [e]
  rw [uZ,<-e];simp
 obtain⟨q,z,t⟩:=adk (n:=r.length) A m s ⟨ah,by show(r.length:Int)< (l.length:Int);omega⟩;have x:=zk r.length (jV 0 (pV pc l) r) i;rw [<-o]at w;generalize G:(jV 0 (pV pc l) r).ops=a at*;have z0:(pV pc l).ops.length=0:=rfl;have F:(lower pc l).pc=pc/\(lower pc l).len=l.length:=by
  rw [b,f];unfold dz;split
  .exact⟨rfl,rfl⟩
  split<;>exact⟨rfl,rfl⟩
 have O:(lower pc l).ops=a++bW r.length a.length i:=by rw [b];exact x
 refine⟨by rw [F.2];omega,by rw [F.1,F.2];omega,ah,?_,?_⟩
 .rw [O,F.2];exact λj p k=>q j p k
 .by_cases c:i.op=11\/i.op=12
  .obtain⟨v1,v2⟩:=z c;have E:lower pc l=⟨pc,l.length,a++bW r.length a.length i,i.op-8,a.length,a.length+1,i.k⟩:=by rw [b,f];unfold dz;rw [eB c];rfl
   have u:=m.2.2.2.2.2.2.2.2.2.1;rw [E];refine⟨by dsimp only;omega,λ_=>v1,λg=>by dsimp only at g;omega,λ_=>v2,λg=>by dsimp only at g;omega,λ_=> ?_,λg=>by dsimp only at g;omega⟩;have:=m.2.2.2.1;have:=u ah;dsimp only;omega
  by_cases d:i.op=13
  .have v1:=t d;have E:lower pc l=⟨pc,l.length,a++bW r.length a.length i,2,a.length,0,0⟩:=by rw [b,f];unfold dz;rw [dY c,eB d];rfl
   rw [E];exact⟨by dsimp only;omega,λ_=>v1,λg=>by dsimp only at g;omega,λg=>by dsimp only at g;omega,λ_=>rfl,λg=>absurd rfl g,λ_=>rfl⟩
  .have E:lower pc l=⟨pc,l.length,a++bW r.length a.length i,1,0,0,pc+l.length⟩:=by rw [b,f];unfold dz;rw [dY c,dY d];rfl
   rw [E];exact⟨by dsimp only;omega,λg=>absurd rfl g,λ_=>rfl,λg=>by dsimp only at g;omega,λ_=>rfl,λ_=>by dsimp only;omega,λg=>by dsimp only at g;omega⟩
end Go.TX.F
