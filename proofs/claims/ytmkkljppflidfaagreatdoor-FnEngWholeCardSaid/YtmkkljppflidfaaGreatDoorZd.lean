/- Part 4 of a proof: what the last part needs. No condition. -/
import Derived.Test.YtmkkljppflidfaaGreatDoorZc
import Derived.Lib.Bytes
set_option maxHeartbeats 1000000
set_option linter.all false
set_option linter.unusedSectionVars false
set_option linter.unusedVariables false
set_option linter.unusedSimpArgs false
namespace Go.TX.F
open Go Go.AE Go.TX List
def ajR{p1 f1}{d:wm->Bool}{c:wm->List Atom×eB}(g:Y28 p1 f1)(i:∀(t:List Atom) a,t.length<1000000000->ShA a->d (t,a,())=true/\c (t,a,())=((aQ t a).1,(aQ t a).2,()))(b k:Int)(t:List Atom)(e:Bool)(j:t.length<1000000000):
  QJ.F (p1,f1,d,c,()) (b,k,t,e,()) (λy=>y=if(aQ t ⟨b,k,[],[]⟩).2<0 then([],t,true,())else(fP (aQ t ⟨b,k,[],[]⟩).2,(aQ t ⟨b,k,[],[]⟩).1,e,())):=by
 have f:ShA ⟨b,k,[],[]⟩:=⟨oQ,oQ⟩;dsimp only [QJ,gm];simp (disch:=omega) only [RR,g,i _ _ j f];exact⟨λh=>by rw [if_pos h],λh=>by rw [if_neg h]⟩
theorem Uy(t:List Atom)(n:Nat):rN t (n+1)=((aQ (rN t n).1 ⟨1,n,[],[]⟩).1,(rN t n).2++ [fP (aQ (rN t n).1 ⟨1,n,[],[]⟩).2]):=rfl
abbrev Y57(b:Int×Int×arn->Bool)(a:Int×Int×arn->List au×arn):Prop:=∀kd k (t:List Atom) fl,t.length<1000000000->b (kd,k,t,fl,())=true/\a (kd,k,t,fl,())=if(aQ t ⟨kd,k,[],[]⟩).2<0 then([],t,true,())else(fP (aQ t ⟨kd,k,[],[]⟩).2,(aQ t ⟨kd,k,[],[]⟩).1,fl,())
def ajS{p1 f1}(h:Y57 p1 f1)(t:List Atom)(a:Bool)(b:aH t)(d:t.length<=196):QK.F (p1,f1,()) (t,a,()) (λy=>y=((rN t 4).1,a,(rN t 4).2,())):=by
 dsimp only [QK,gm];refine ay (λ(y:Int×List Atom×Bool×l7)=>0<=y.1/\y.1<=4/\y.2.2.1=a/\y.2.1=(rN t y.1.toNat).1/\y.2.2.2.1=(rN t y.1.toNat).2) (λy=>(4-y.1).toNat) ⟨by simp,by simp,rfl,rfl,rfl⟩ ?_;rintro⟨(i:Int),(u:List Atom),(g:Bool),(r:List (List au)),⟨⟩⟩ hI;dsimp only at hI ⊢;obtain⟨k,j,rfl,rfl,rfl⟩:=hI;have ok:=I9 b d i.toNat ah;have l:=ok.tl;have m:=ok.r4;simp (disch:=omega) only [RR,h _ _ (rN t i.toNat).1 _ ah,length_cons,length_nil];refine⟨λf=> ?_,λf=> ?_⟩
 .have hp:=zm b d (n:=i.toNat) ah;rw [show((i.toNat:Nat):Int)=i by omega]at hp;rw [if_neg ah];have e:(i+1).toNat=i.toNat+1:=by omega
  have c:((i.toNat:Nat):Int)=i:=by omega
  refine⟨ah,⟨ah,ah,rfl,?_,?_⟩,ah⟩
  .rw [e,Uy,c]
  .rw [e,Uy,c]
 .rw [show i.toNat=4 by omega]
def ajT(a:List (List au))(c:0<a.length)(b:a.length<1000000000):QM.F () (a,()) (λy=>y=(a,a,())):=by
 dsimp only [QM,gm];simp (disch:=omega) only [RR,length_nil];exact⟨ah,ah,rfl⟩
abbrev Y58(b:arn->Bool)(a:arn->List Atom×Bool×l7):Prop:=∀(t:List Atom) fl,aH t->t.length<=196->b (t,fl,())=true/\a (t,fl,())=((rN t 4).1,fl,(rN t 4).2,())
def anT{p2 f2 p1 f1}(c:Y31 p2 f2)(b:Y58 p1 f1):
  Z8.F (p2,f2,p1,f1,()) () (λy=>y.1=t4):=by
 have a:ShT t4:=Ux.1.sh;unfold t4 at a ⊢;dsimp only [Z8,gm];simp (disch:=omega) only [RR,b [] false Jb (by simp),c _ a]
abbrev Y59(d:ari->Bool)(c:ari->fA):Prop:=∀r a b,d (r,a,b,())=true/\c (r,a,b,())=(inB a 0 65535&&inB b 0 65535&& (decide (r=1/\a=b\/r=2/\a<b)),())
def anU{p1 f1 p2 f2 p3 f3 p5 f5 p6 f6}{i:Sym×Unit->Bool}{o:Sym×Unit->Int×Int×List Ev×List (List au)×uy}(p:Y27 p1 f1)(j:Y11 p2 f2)(v:Y8 p3 f3)(z:∀s,ShY s->i (s,())=true/\o (s,())=(s.fin,s.k,s.events,s.regs,s.x,s.y,()))(r:Y14 p5 f5)(u:Y59 p6 f6)(s:Sym)(n:Int)(e:ShY s)(A:0<=s.fin)(B:s.fin<=4):aaj.F (p1,f1,p2,f2,p3,f3,i,o,p5,f5,p6,f6,()) (s,n,()) (λy=>y=(symEnd s n,())):=by
 dsimp only [aaj,gm];simp (disch:=omega) only [RR,RB,p _ e.x,p _ e.y,j _ e.x,j _ e.y,v _ _ e.x,z s e,r _ _ e.x,u];have f:nu s.x s.y=0↔s.x=s.y:=mq;have w:(dB s.x).2=true->inB (dB s.x).1 0 65535=true:=λh=>dU.2 (sU h).2.2
 have x:(dB s.y).2=true->inB (dB s.y).1 0 65535=true:=λh=>dU.2 (sU h).2.2
 unfold symEnd;refine⟨λh=> ?_,λh=>⟨λg=> ?_,λg=>⟨λk=> ?_,λk=>⟨λl=>⟨λm=> ?_,λm=> ?_⟩,λl=>⟨λm=> ?_,λm=> ?_⟩⟩⟩⟩⟩
 .rw [if_pos (by rw [fT,Bool.and_eq_false_iff];exact h)];rfl
 all_goals rw [if_neg (by rw [fT,h.1,h.2];simp)]
 .rw [if_pos g]
 all_goals rw [if_neg (show¬(s.fin=2/\(dB s.x).2=true) by
  rintro⟨a,b⟩;rw [decide_eq_true a,b]at g;cases g)]
 .rw [if_pos k]
 all_goals rw [if_neg (show¬(s.fin≠3/\s.fin≠4) by
  rintro⟨a,b⟩;rw [decide_eq_false a,decide_eq_false b]at k;cases k)]
 .rw [if_pos (by rw [<-f];exact l),if_neg];rintro(⟨c,d⟩ | ⟨⟨c,d⟩,t⟩)
  .have:=m.1;rw [decide_eq_true (f.2 c),decide_eq_true d]at this;cases this
  .have:=m.2;rw [c,d,w c,x d,decide_eq_true ah]at this;cases this
 .rw [if_pos (by rw [<-f];exact l),if_pos];rcases m with⟨c,d⟩ | ⟨c,_,t⟩
  .exact Or.inl ⟨f.1 c,d⟩
  .exact Or.inr ⟨c,ah⟩
 all_goals rw [if_neg (show¬(s.x=s.y\/(dB s.x).2=true/\(dB s.y).2=true) by
  rintro(q | ⟨c,d⟩)
  .exact l.1 (f.2 q)
  .have:=l.2;rw [c,d]at this;cases this)]
 .rw [if_pos m]
 .rw [if_neg];rintro⟨a,b⟩;rw [decide_eq_true a,decide_eq_true b]at m;cases m
variable{t:List Atom}{b:Blk}{i:Nat}{V:List (List au)}{ev:List Ev}
noncomputable def SW (t:List Atom) (b:Blk) (i:Nat):SS:=(b.ops.take i).foldl stp (s0 t)
structure At(t:List Atom)(b:Blk)(i:Nat)(ld inn:Int)(tb:List Atom)(V:List (List au))(ev:List Ev)(rg:List (List au)):Prop where
 ld:ld=(SW t b i).ld
 inn:inn=(SW t b i).inn
 tb:tb=(SW t b i).t
 V:V=(SW t b i).vals++replicate (b.ops.length-i) []
 ev:ev=(SW t b i).evs
 rg:rg=(SW t b i).regs
def At.aqe{d a:Int}{c:List Atom}{e:List (List au)}(h:At t b i d a c V ev e)(f:(SW t b i).vals.length=i)(g:i<=b.ops.length):V.length=b.ops.length:=by
 rw [h.V,length_append,length_replicate,f];omega
def Uz(t:List Atom):∀(l:List IOp) (s:SS),(l.foldl stp s).evs.length<=s.evs.length+l.length
 | [],s=>Nat.le_refl _
 | o::r,s=>by
  rw [foldl_cons,length_cons];have b:=Uz t r (stp s o);have a:(stp s o).evs.length<=s.evs.length+1:=by
   show(nE s o).length<=_;unfold nE;split
   .rw [length_append];exact Nat.le_refl _
   .omega
  omega
theorem ajU(i:Nat)(a:i<=b.ops.length):(SW t b i).evs.length<=i:=by
 have:=Uz t (b.ops.take i) (s0 t);rw [length_take,Nat.min_eq_left a]at this;show((b.ops.take i).foldl stp (s0 t)).evs.length<=i;have e:(s0 t).evs.length=0:=rfl;omega
def ae9(a:i<b.ops.length):SW t b (i+1)=stp (SW t b i) (b.ops.getD i default):=by
 unfold SW;rw [R7 _ _ a,getD_lt a]
def At.next{c a:Int}{k:List Atom}{l:List (List au)}(h:At t b i c a k V ev l)(r:(SW t b i).vals.length=i)(p:i<b.ops.length){o:IOp}(m:b.ops.getD i default=o)
  {ld' abB:Int} {tb':List Atom} {V':List (List au)} {ev':List Ev} {rg':List (List au)} (g:ld'=if o.kind=4 then c+1 else c) (d:abB=if o.kind=6 then a+1 else a) (n:tb'=nT (SW t b i) o) (f:V'=V.set i (nV (SW t b i) o)) (j:ev'=nE (SW t b i) o) (q:rg'=nR (SW t b i) o):At t b (i+1) ld' abB tb' V' ev' rg':=by
 have e:=ae9 (t:=t) p;rw [m]at e;refine⟨?_,?_,?_,?_,?_,?_⟩<;>rw [e]
 .rw [g,h.ld];rfl
 .rw [d,h.inn];rfl
 .exact n
 .rw [f,h.V];show _=((SW t b i).vals++ [nV (SW t b i) o])++_;rw [set_append_right _ _ ah,r,Nat.sub_self,show b.ops.length-i=(b.ops.length- (i+1))+1 by omega,replicate_succ,set_cons_zero,append_assoc];rfl
 .exact j
 .exact q
abbrev Y60(c:kr->Bool)(a:kr->fA):Prop:=∀b,b.ops.length<1000000000->c (b,())=true/\a (b,())=(bp (dK b),())
abbrev Y61(b:IOp×Unit->Bool)(a:IOp×Unit->fA):Prop:=∀o,b (o,())=true/\a (o,())=(decide (evO o),())
abbrev Y62(b:Sym×eB->Bool)(a:Sym×eB->Sym×Unit):Prop:=∀s n,ShY s->0<=s.fin->s.fin<=4->b (s,n,())=true/\a (s,n,())=(symEnd s n,())
set_option maxHeartbeats 1000000 in
theorem anV{p1 f1 p2 f2 p3 f3 p4 f4 p5 f5 p6 f6 p7 f7 p8 f8 p9 f9 p10 f10 p11 f11}{Z:l7->Bool}{O:l7->List (List au)×l7}(U1:Y54 p1 f1)(U2:Y60 p2 f2)(z:Y61 p3 f3)(A:Y53 p4 f4)(U5:Y22 p5 f5)(U6:Y62 p6 f6)(U7:Y29 p7 f7)(U8:Y31 p8 f8)(U9:Y30 p9 f9)(D:Y57 p10 f10)(a7:Y58 p11 f11)(M:∀a:List (List au),0<a.length->a.length<1000000000->Z (a,())=true/\O (a,())=(a,a,()))(t:List Atom)(b:Blk)(ht:ShT t)(hb:b.ops.length<1000000000):aak.F (p1,f1,p2,f2,p3,f3,p4,f4,p5,f5,p6,f6,p7,f7,p8,f8,p9,f9,p10,f10,p11,f11,Z,O,()) (t,b,()) (λy=>y=((bN t b).1,(bN t b).2,())):=by
 have b0:=ht.1;dsimp only [aak,gm];simp (disch:=omega) only [RR,RB,U7 t ht,U2 b hb];by_cases c:aH t/\t.length<=100/\dK b
 case neg=>
  refine⟨λ_=> ?_,λh=> ?_⟩
  .unfold bN;rw [bJ c];rfl
  .exact absurd ⟨aX.1 h.1.1,ah,aX.1 h.2⟩ c
 obtain⟨Q,c2,w⟩:=c;simp (disch:=omega) only [RR,aR Q,aR w,a7 t false Q ah];have sz:=w.sz;have a8:=w.op;have W:=w.k3;have i0:=Ja Q ah;have a0:∀j:Nat,j<=b.ops.length->SI (t.length+4) j (SW t b j):=λj hj=>by
  have:=(wC (b.ops.take j) 0 (s0 t) i0 (λo r=>W o (mem_of_mem_take r)) (by rw [length_take];omega) (by rw [length_take];omega)).1;rw [length_take,Nat.min_eq_left hj,Nat.zero_add]at this;exact this
 refine⟨λh=>absurd h ah,λ_=>⟨ah,ah,?_⟩⟩
 refine ay (λ(y:Int×Int×List IOp×Int×Int×Blk×Int×Int×List Atom×Bool×Int×Int×List (List au)×List Ev×l7)=>y.2.2.2.2.2.1=b/\y.2.2.1=b.ops/\y.2.2.2.1=b.ops.length/\y.2.2.2.2.2.2.2.2.2.1=false/\y.2.2.2.2.2.2.2.2.2.2.1=b.fin/\y.2.2.2.2.2.2.2.2.2.2.2.1=b.k/\
   0<=y.2.2.2.2.1/\y.2.2.2.2.1<=b.ops.length/\At t b y.2.2.2.2.1.toNat y.1 y.2.1 y.2.2.2.2.2.2.2.2.1 y.2.2.2.2.2.2.2.2.2.2.2.2.1 y.2.2.2.2.2.2.2.2.2.2.2.2.2.1 y.2.2.2.2.2.2.2.2.2.2.2.2.2.2.1) (λy=>(b.ops.length-y.2.2.2.2.1).toNat)
  ⟨rfl,rfl,rfl,rfl,rfl,rfl,by simp,by simp,⟨rfl,rfl,rfl,rfl,rfl,rfl⟩⟩ ?_
 rintro⟨(ld:Int),(b1:Int),(b4:List IOp),(n:Int),(i:Int),(d:Blk),(z1:Int),(z2:Int),(tb:List Atom),(fl:Bool),(fin:Int),(kk:Int),(V:List (List au)),(ev:List Ev),(rg:List (List au)),⟨⟩⟩ hI;dsimp only at hI ⊢;obtain⟨e1,e2,e3,e4,e5,e6,h1,h2,hA⟩:=hI;subst e1 e2 e3 e4 e5 e6;have hl:V.length=d.ops.length:=hA.aqe (a0 i.toNat ah).vl ah;have l:=a0 i.toNat ah;obtain⟨a1,a2,a3,K,T,a6⟩:=hA;have tl:tb.length<1000000000:=by rw [a3];have:=l.tl;omega
 have r4:rg.length=4:=by rw [a6];exact l.r4
 have b3:ev.length<=i.toNat:=by rw [T];exact ajU i.toNat ah
 by_cases q:i<d.ops.length
 case neg=>
  have en:=w.en;have hf:=en.f;have b2:=w.pc;have a9:=w.ln;have U:i.toNat=d.ops.length:=by omega
  have eS:SW t d i.toNat=gZ t d:=by unfold SW gZ;rw [U,take_of_length_le (Nat.le_refl _)]
  rw [eS]at a1 a2 a3 K T a6 l;have eV:V=(gZ t d).vals:=by rw [K,U,Nat.sub_self];simp
  clear K
  have pk:=Kn (b:=d) l;have eR:=zn Q c2 w;have sh:ShY (uJ d (gZ t d)):=by
   have i0:=Ja Q ah;have hs:=R5 d.ops 0 (s0 t) i0 W ah ah ⟨by simp [s0],λe he=>absurd he (by simp [s0])⟩;exact⟨⟨by have:=hs.1;show(d.ops.foldl stp (s0 t)).evs.length<_;omega,hs.2⟩,l.regs,pk.1.sh,pk.2.sh⟩
  have st:=l.tok.sh;obtain⟨v,u⟩:=U6 (uJ d (gZ t d)) (d.pc+d.len) sh (by show 0<=d.fin;omega) hf.2;subst a1 a2 a3 T a6 eV;have x1:=en.x1;have y1:=en.y1;have sl:=l.vl;have E:uJ d (gZ t d)=⟨(gZ t d).evs,(gZ t d).regs,d.fin,if d.fin=1 then []else(((gZ t d).vals).getD (d.x).toNat default),if 3<=d.fin then(((gZ t d).vals).getD (d.y).toNat default)else [],d.k⟩:=rfl;rw [E]at v u;rcases(by omega:d.fin=1\/d.fin=2\/3<=d.fin)with c | c | c
  .have F:¬3<=d.fin:=by omega
   rw [if_pos c,if_neg F]at v u;simp (disch:=omega) only [RR,RB,q,U1,decide_eq_false F,c,ne_eq,not_true_eq_false,decide_false,U8 _ st];rw [c]at v u;rw [eR,E,if_pos c,if_neg F,c];exact⟨λh=>absurd h ah,λ_=>⟨v,by rw [u]⟩⟩
  .have n1:d.fin≠1:=by omega
   have F:¬3<=d.fin:=by omega
   obtain⟨g,G,_⟩:=x1 n1;rw [if_neg n1,if_neg F]at v u;simp (disch:=omega) only [RR,RB,q,U1,decide_eq_true n1,decide_eq_false F,U8 _ st];rw [eR,E,if_neg n1,if_neg F];exact⟨g,ah,g,ah,v,by rw [u]⟩
  .have n1:d.fin≠1:=by omega
   obtain⟨g,G,_⟩:=x1 n1;obtain⟨J,w2,_⟩:=y1 c;rw [if_neg n1,if_pos c]at v u;simp (disch:=omega) only [RR,RB,q,U1,decide_eq_true n1,decide_eq_true c,U8 _ st];rw [eR,E,if_neg n1,if_pos c];exact⟨g,ah,g,ah,J,ah,J,ah,v,by rw [u]⟩
 have f:=a8 i h1 q;have nxt:=λ{ld' abB:Int} {tb':List Atom} {V':List (List au)} {ev':List Ev} {rg':List (List au)}=>At.next (t:=t) (b:=d) (i:=i.toNat) (o:=((d.ops).getD (i).toNat default)) ⟨a1,a2,a3,K,T,a6⟩ l.vl ah rfl (ld':=ld') (abB:=abB) (tb':=tb') (V':=V') (ev':=ev') (rg':=rg')
 have x:(i+1).toNat=i.toNat+1:=by omega
 have vx:∀j:Int,0<=j->j<i->((V).getD (j).toNat default)=(((SW t d i.toNat).vals).getD (j).toNat default):=λj j1 j2=>by
  have:=l.vl;rw [K,getD_lt (by rw [length_append];omega),getD_lt ah,getElem_append_left]
 have Y:hX ((d.ops).getD (i).toNat default)->((V).getD ((((d.ops).getD (i).toNat default)).x).toNat default)=xOf (SW t d i.toNat) ((d.ops).getD (i).toNat default):=λh=>by
  unfold xOf;rw [if_pos h];exact vx _ (f.x1 h).1 (f.x1 h).2.1
 have ey:hY ((d.ops).getD (i).toNat default)->((V).getD ((((d.ops).getD (i).toNat default)).y).toNat default)=yOf (SW t d i.toNat) ((d.ops).getD (i).toNat default):=λh=>by
  unfold yOf;rw [if_pos h];exact vx _ (f.y1 h).1 (f.y1 h).2.1
 have v0:V.set i.toNat []=V:=by
  have:=l.vl;rw [K,set_append_right _ _ ah,this,Nat.sub_self,show d.ops.length-i.toNat=(d.ops.length- (i.toNat+1))+1 by omega,replicate_succ,set_cons_zero]
 obtain⟨sn,so⟩:=BO (o:=((d.ops).getD (i).toNat default)) l f.k3 ah ah;have gl:=l.ld;have gi:=l.inn;have P:=(l.x ((d.ops).getD (i).toNat default)).1.sh;have S:=(l.y ((d.ops).getD (i).toNat default)).1.sh;generalize hs:SW t d i.toNat=s at*;generalize r:((d.ops).getD (i).toNat default)=o at*;have L:=f.kd;subst a1 a2 a3 T a6;have H:o.kind≠4->s.ld=if o.kind=4 then s.ld+1 else s.ld:=λh=>by rw [if_neg h]
 have C:o.kind≠6->s.inn=if o.kind=6 then s.inn+1 else s.inn:=λh=>by rw [if_neg h]
 have R:o.kind≠3->o.kind≠4->o.kind≠6->s.t=nT s o:=λh3 h4 h6=>by unfold nT;rw [if_neg h3,if_neg ah]
 have B:o.kind≠8->s.regs=nR s o:=λh=>by unfold nR;rw [if_neg h]
 have E0:¬evO o->s.evs=nE s o:=λh=>by unfold nE;rw [if_neg h]
 have V0:o.kind=5\/o.kind=7\/o.kind=8->V=V.set i.toNat (nV s o):=λh=>by
  rw [show nV s o=[] by unfold nV;rw [if_neg ah,if_neg ah,if_neg ah,if_neg ah],v0]
 have P0:∀L k,0<=(aQ s.t ⟨L,k,[],[]⟩).2->f10 (L,k,s.t,false,())=(fP (aQ s.t ⟨L,k,[],[]⟩).2,(aQ s.t ⟨L,k,[],[]⟩).1,false,()):=λL k h=>by
  rw [(D _ _ _ _ tl).2,if_neg ah]
 have y0:¬hY o->yOf s o=[]:=λh=>by unfold yOf;rw [if_neg h]
 have x0:¬hX o->xOf s o=[]:=λh=>by unfold xOf;rw [if_neg h]
 rcases(by omega:o.kind=1\/o.kind=2\/o.kind=3\/o.kind=4\/o.kind=5\/o.kind=6\/o.kind=7\/o.kind=8)with c | c | c | c | c | c | c | c
 .have dX:decide (hX o)=false:=decide_eq_false (by unfold hX;omega);have m:decide (hY o)=false:=decide_eq_false (by unfold hY;omega);have p:decide (evO o)=false:=decide_eq_false (by unfold evO;omega);have N:At t d (i.toNat+1) s.ld s.inn s.t (V.set i.toNat (gU o.k)) s.evs s.regs:=nxt (H ah) (C ah) (R ah ah ah) (by unfold nV;rw [if_pos c]) (E0 (by unfold evO;omega)) (B ah);simp (disch:=omega) only [RR,RB,r,q,A,z,dX,m,p,c,Int.reduceEq,length_cons,length_nil,U5]
  repeat' apply And.intro
  all_goals first | omega | (rw [x];exact N)
 .have dX:decide (hX o)=false:=decide_eq_false (by unfold hX;omega);have m:decide (hY o)=false:=decide_eq_false (by unfold hY;omega);have p:decide (evO o)=false:=decide_eq_false (by unfold evO;omega);have k2:=f.k2 (Or.inl c);have N:At t d (i.toNat+1) s.ld s.inn s.t (V.set i.toNat ((s.regs).getD (o.k).toNat default)) s.evs s.regs:=nxt (H ah) (C ah) (R ah ah ah) (by unfold nV;rw [if_neg ah,if_pos c]) (E0 (by unfold evO;omega)) (B ah);simp (disch:=omega) only [RR,RB,r,q,A,z,dX,m,p,c,Int.reduceEq,length_cons,length_nil,r4]
  repeat' apply And.intro
  all_goals first | omega | (rw [x];exact N)
 .have dX:decide (hX o)=true:=decide_eq_true (by unfold hX;omega);have m:decide (hY o)=true:=decide_eq_true (by unfold hY;omega);have p:decide (evO o)=false:=decide_eq_false (by unfold evO;omega);have g:=f.x1 (by unfold hX;omega);have G:=f.y1 (by unfold hY;omega);have u1:=g.2.1;have u2:=G.2.1;have J:=g.1;have w2:=G.1;obtain⟨d1,d2,d3⟩:=(U9 s.t o.k _ _ tl P S).2;have d4:=(so.d c).ok;have N:At t d (i.toNat+1) s.ld s.inn (tDo s.t o.k (xOf s o) (yOf s o)).1 (V.set i.toNat (tDo s.t o.k (xOf s o) (yOf s o)).2) s.evs s.regs:=nxt (H ah) (C ah) (by unfold nT;rw [if_pos c]) (by unfold nV;rw [if_neg ah,if_neg ah,if_pos c]) (E0 (by unfold evO;omega)) (B ah);simp (disch:=omega) only [RR,RB,r,q,A,z,dX,m,p,c,Int.reduceEq,length_cons,length_nil,Y (by unfold hX;omega),ey (by unfold hY;omega),(U9 s.t o.k _ _ tl P S).1,d1,d2,d3,d4]
  repeat' apply And.intro
  all_goals first | omega | (rw [x];exact N)
 .have dX:decide (hX o)=true:=decide_eq_true (by unfold hX;omega);have m:decide (hY o)=false:=decide_eq_false (by unfold hY;omega);have p:decide (evO o)=true:=decide_eq_true (by unfold evO;omega);have g:=f.x1 (by unfold hX;omega);have u1:=g.2.1;have J:=g.1;have I:aOf s o=⟨2,s.ld,[],[]⟩:=by unfold aOf;rw [if_pos c]
  have X:=so.p (Or.inl c);rw [I]at X;have N:At t d (i.toNat+1) (s.ld+1) s.inn (aQ s.t ⟨2,s.ld,[],[]⟩).1 (V.set i.toNat (fP (aQ s.t ⟨2,s.ld,[],[]⟩).2)) (s.evs++ [⟨4,o.at_,xOf s o,[],s.regs⟩]) s.regs:=nxt (by rw [if_pos c]) (C ah) (by unfold nT;rw [if_neg ah,if_pos (Or.inl c),I]) (by unfold nV;rw [if_neg ah,if_neg ah,if_neg ah,if_pos (Or.inl c),I]) (by unfold nE;rw [if_pos (by unfold evO;omega),if_pos (Or.inl c),c,y0 (by unfold hY;omega)]) (B ah);simp (disch:=omega) only [RR,RB,r,q,A,z,dX,m,p,c,Int.reduceEq,length_cons,length_nil,Y (by unfold hX;omega),M s.regs ah ah,(D 2 s.ld s.t false tl).1,P0 2 s.ld X]
  repeat' apply And.intro
  all_goals first | omega | (rw [x];exact N)
 .have dX:decide (hX o)=true:=decide_eq_true (by unfold hX;omega);have m:decide (hY o)=true:=decide_eq_true (by unfold hY;omega);have p:decide (evO o)=true:=decide_eq_true (by unfold evO;omega);have g:=f.x1 (by unfold hX;omega);have G:=f.y1 (by unfold hY;omega);have u1:=g.2.1;have u2:=G.2.1;have J:=g.1;have w2:=G.1;have N:At t d (i.toNat+1) s.ld s.inn s.t V (s.evs++ [⟨5,o.at_,xOf s o,yOf s o,s.regs⟩]) s.regs:=nxt (H ah) (C ah) (R ah ah ah) (V0 ah) (by unfold nE;rw [if_pos (by unfold evO;omega),if_pos (Or.inr c),c]) (B ah);simp (disch:=omega) only [RR,RB,r,q,A,z,dX,m,p,c,Int.reduceEq,length_cons,length_nil,Y (by unfold hX;omega),ey (by unfold hY;omega),M s.regs ah ah]
  repeat' apply And.intro
  all_goals first | omega | (rw [x];exact N)
 .have dX:decide (hX o)=false:=decide_eq_false (by unfold hX;omega);have m:decide (hY o)=false:=decide_eq_false (by unfold hY;omega);have p:decide (evO o)=true:=decide_eq_true (by unfold evO;omega);have I:aOf s o=⟨3,s.inn,[],[]⟩:=by unfold aOf;rw [if_neg ah]
  have X:=so.p (Or.inr c);rw [I]at X;have N:At t d (i.toNat+1) s.ld (s.inn+1) (aQ s.t ⟨3,s.inn,[],[]⟩).1 (V.set i.toNat (fP (aQ s.t ⟨3,s.inn,[],[]⟩).2)) (s.evs++ [⟨6,o.at_,[],[],[]⟩]) s.regs:=nxt (H ah) (by rw [if_pos c]) (by unfold nT;rw [if_neg ah,if_pos (Or.inr c),I]) (by unfold nV;rw [if_neg ah,if_neg ah,if_neg ah,if_pos (Or.inr c),I]) (by unfold nE;rw [if_pos (by unfold evO;omega),if_neg ah,c,x0 (by unfold hX;omega),y0 (by unfold hY;omega)]) (B ah);simp (disch:=omega) only [RR,RB,r,q,A,z,dX,m,p,c,Int.reduceEq,length_cons,length_nil,(D 3 s.inn s.t false tl).1,P0 3 s.inn X]
  repeat' apply And.intro
  all_goals first | omega | (rw [x];exact N)
 .have dX:decide (hX o)=true:=decide_eq_true (by unfold hX;omega);have m:decide (hY o)=false:=decide_eq_false (by unfold hY;omega);have p:decide (evO o)=true:=decide_eq_true (by unfold evO;omega);have g:=f.x1 (by unfold hX;omega);have u1:=g.2.1;have J:=g.1;have N:At t d (i.toNat+1) s.ld s.inn s.t V (s.evs++ [⟨7,o.at_,xOf s o,[],[]⟩]) s.regs:=nxt (H ah) (C ah) (R ah ah ah) (V0 ah) (by unfold nE;rw [if_pos (by unfold evO;omega),if_neg ah,c,y0 (by unfold hY;omega)]) (B ah);simp (disch:=omega) only [RR,RB,r,q,A,z,dX,m,p,c,Int.reduceEq,length_cons,length_nil,Y (by unfold hX;omega)]
  repeat' apply And.intro
  all_goals first | omega | (rw [x];exact N)
 .have dX:decide (hX o)=true:=decide_eq_true (by unfold hX;omega);have m:decide (hY o)=false:=decide_eq_false (by unfold hY;omega);have p:decide (evO o)=false:=decide_eq_false (by unfold evO;omega);have g:=f.x1 (by unfold hX;omega);have u1:=g.2.1;have J:=g.1;have k2:=f.k2 (Or.inr c);have N:At t d (i.toNat+1) s.ld s.inn s.t V s.evs (s.regs.set o.k.toNat (xOf s o)):=nxt (H ah) (C ah) (R ah ah ah) (V0 ah) (E0 (by unfold evO;omega)) (by unfold nR;rw [if_pos c]);simp (disch:=omega) only [RR,RB,r,q,A,z,dX,m,p,c,Int.reduceEq,length_cons,length_nil,Y (by unfold hX;omega),r4]
  repeat' apply And.intro
  all_goals first | omega | (rw [x];exact N)
end Go.TX.F
namespace Go.TX.F
open Go Go.AE Go.TX List
abbrev Y63(a:ark->Bool)(b:ark->fA):Prop:=∀i,a (i,())=true
variable{b:List Int}
structure InD(m:Int)(b:List Int)(p:Int)(y:Int×Int×Int×yw):Prop where
 b:y.2.2.2.2.1=b
 lo:p<=y.2.2.2.2.2.1
 hi:y.2.2.2.2.2.1<=p+m
 k:0<=y.2.2.2.1/\y.2.2.2.1<=255
abbrev ajV:List Int->Prop
 | []=>True
 | x::l=>(0<=x/\x<=255)/\ajV l
def M7:∀(l:List Int) (n:Nat),ajV l->0<=l.getD n default/\l.getD n default<=255
 | [],n,_=>by simp only [getD_nil];decide
 | x::l,0,h=>h.1
 | x::l,n+1,h=>M7 l n h.2
def pkR{e:yw->yw}(f:Bt b)(a:∀n b p,Bt b->0<=p->p<1000000000->Pk n b p (e (n,b,p,()))):
  (∀n p,0<=p->p<1000000000->(e (n,b,p,())).2.1=b)/\(∀n p,0<=p->p<1000000000->(e (n,b,p,())).2.2.1=p+1)/\
  (∀n p,0<=p->p<1000000000->(0<=(e (n,b,p,())).1)=True)/\(∀n p k,0<=p->p<1000000000->n<=k->0<k->((e (n,b,p,())).1<k)=True)/\
  (∀n p k,0<=p->p<1000000000->n<=k+1->0<=k->((e (n,b,p,())).1<=k)=True):=
 ⟨λn p d c=>(a n b p f d c).1,λn p d c=>(a n b p f d c).2.1,λn p d c=>eq_true (a n b p f d c).2.2.1,
  λn p k d c h g=>eq_true (by have:=(a n b p f d c).2.2;omega),λn p k d c h g=>eq_true (by have:=(a n b p f d c).2.2;omega)⟩
def pkS{a:yw->Bool}{c:yw->yw}(g:Bt b)(U:∀n b p,Bt b->0<=p->p<1000000000->a (n,b,p,())=true/\Pk n b p (c (n,b,p,()))):=pkR g λn b p e d f=>(U n b p e d f).2
def ajW{p1 f1}(a:Y38 p1 f1)(b:List Int)(p:Int)(e:Bt b)(d:0<=p)(c:p<900000000):Pj.F (p1,f1,()) (b,p,()) (λy=>InD 20 b p y):=by
 have R:=pkS e a;have P:=λn p d c=>(a n b p e d c).1
 dsimp only [Pj,gm];simp (disch:=omega) only [RR,R,P,length_cons,length_nil]
 repeat' (first | (refine⟨?_,?_⟩) | intro _)
 all_goals try omega
 all_goals refine⟨rfl,by dsimp only;omega,by dsimp only;omega,?_⟩
 all_goals dsimp only
 all_goals first | omega | (refine M7 _ _ ?_;simp (disch:=omega) only [ajV,R,Int.reduceLE,and_self,true_and,and_true]) | (simp (disch:=omega) only [R,Int.reduceLE,and_self,true_and,and_true])
abbrev Y70(c:fE->Bool)(a:fE->Int×Int×Int×yw):Prop:=∀b p,Bt b->0<=p->p<900000000->c (b,p,())=true/\InD 20 b p (a (b,p,()))
def ajX{p1 f1 p2 f2 p3 f3}(d:Y70 p1 f1)(f:Y38 p2 f2)(h:Y63 p3 f3)(b:List Int)(p:Int)(c:Bt b)(a:0<=p)(e:p<800000000):Pv.F (p1,f1,p2,f2,p3,f3,()) (b,p,()) (λy=>InD 30 b p y):=by
 obtain⟨i,j,k,g⟩:=(d b p c a ah).2;have R:=pkS c f;have P:=λn p a e=>(f n b p c a e).1
 dsimp only [Pv,gm];simp (disch:=omega) only [RR,(d b p c a ah).1,h,i,R,P];refine⟨λ_=>⟨rfl,by dsimp only;omega,by dsimp only;omega,?_⟩,λ_=>⟨rfl,j,by dsimp only;omega,g⟩⟩;dsimp only;simp (disch:=omega) only [R,Int.reduceLE,and_self]
abbrev Y71(c:fE->Bool)(a:fE->Int×Int×Int×yw):Prop:=∀b p,Bt b->0<=p->p<800000000->c (b,p,())=true/\InD 30 b p (a (b,p,()))
end Go.TX.F
namespace Go.TX.F
open Go Go.AE Go.TX List
variable{α:Type}{k:Nat}
def kn(a:List IOp)(k:Int):Int×Bool:=if 0<=k/\k<a.length/\(((a).getD (k).toNat default)).kind=1 then((((a).getD (k).toNat default)).k,true)else(0,false)
abbrev bk7(b:Blk):dY:=(b.pc,b.len,b.fin,b.x,b.y,b.k,b.ops,())
structure FE(b:Blk):Prop where
 f:1<=b.fin/\b.fin<=4
 x:b.fin≠1->0<=b.x/\b.x<b.ops.length
 y:3<=b.fin->0<=b.y/\b.y<b.ops.length
 y0:b.fin<=2->b.y=0
 p:0<=b.pc/\b.pc<=100/\0<=b.len/\b.len<=100
abbrev Y73(c:kr->Bool)(a:kr->kr):Prop:=∀b,b.ops.length<1000000->c (b,())=true/\a (b,())=(jM b,())
def abC{d:α}{f l:List α}(a:f.length=k)(h:k<l.length):(f++l.drop k).getD k d=l.getD k d:=by grind
def ajY{d:α}{f l:List α}{k j:Nat}(a:f.length=k)(h:j<k):(f++l.drop k).getD j d=f.getD j d:=by grind
def Dw{x:α}{f l:List α}(a:f.length=k)(h:k<l.length):(f++l.drop k).set k x=(f++ [x])++l.drop (k+1):=by
 rw [set_append_right _ _ ah,a,Nat.sub_self,drop_eq_getElem_cons h,set_cons_zero,append_assoc];rfl
def M8{d:α}{f l:List α}(h:k<l.length):f++l.drop k=(f++ [l.getD k d])++l.drop (k+1):=by simp_all
def Dx{f l:List α}(a:f.length=k)(h:k<=l.length):(f++l.drop k).length=l.length:=by simp_all
def dK.fe{b:Blk}(ok:dK b){f:List IOp}(h:f.length=b.ops.length):FE ⟨b.pc,b.len,f,b.fin,b.x,b.y,b.k⟩:=by
 have a:=ok.en;have d:=ok.pc;have e:=ok.ln;exact⟨a.f,λc=>⟨(a.x1 c).1,by dsimp only;rw [h];exact(a.x1 c).2.1⟩,λc=>⟨(a.y1 c).1,by dsimp only;rw [h];exact(a.y1 c).2.1⟩,a.y0,by dsimp only;omega⟩
end Go.TX.F
namespace Go.TX.F
open Go Go.AE Go.TX List
abbrev Y80(d:Blk×ard->Bool)(c:Blk×ard->dY):Prop:=∀b a,dK b->a.length=b.ops.length->d (b,a,())=true/\c (b,a,())=bk7 (Av b a)
abbrev Y88(d:List (List au)×l7->Bool)(c:List (List au)×l7->fA):Prop:=∀a b,ShP a->d (a,b,())=true/\c (a,b,())=(bp (a=b),())
abbrev Y89(c:List Atom×kr->Bool)(a:List Atom×kr->List Atom×Sym×Unit):Prop:=∀t b,ShT t->b.ops.length<1000000000->c (t,b,())=true/\a (t,b,())=((bN t b).1,(bN t b).2,())
theorem agK(x y:IOp):ami .iop x y=decide (x=y):=rfl
def mD{P:Prop}[Decidable P]:decide P=bp P:=by unfold bp;congr
def ajZ(a b:List IOp)(m:a.length<1000000000):Qw.F () (a,b,()) (λy=>y=(bp (a=b),())):=by
 dsimp only [Qw,gm];simp (disch:=omega) only [RR];refine⟨λh=> ?_,λh=> ?_⟩
 .rw [bJ (λe=>h (by rw [e]))]
 have f:a.length=b.length:=by omega
 refine ay (λ(y:List IOp×List IOp×oz)=>y.1=a/\y.2.1=b/\y.2.2.1=a.length/\0<=y.2.2.2.1/\y.2.2.2.1<=a.length/\All y.2.2.2.1 (λi=>a.getD i.toNat default=b.getD i.toNat default)) (λy=>(a.length-y.2.2.2.1).toNat) ⟨rfl,rfl,rfl,by simp,by simp,All.zero⟩ ?_;rintro⟨(k:List IOp),(o:List IOp),(n:Int),(i:Int),⟨⟩⟩ hI;dsimp only at hI ⊢;obtain⟨rfl,rfl,rfl,l,j,d⟩:=hI;simp (disch:=omega) only [RR,agK];refine⟨λg=>⟨ah,ah,ah,ah,λc=> ?_,λc=>⟨⟨ah,ah,d.snoc c⟩,ah⟩⟩,λg=> ?_⟩
 .rw [bJ];intro e;rw [e]at c;exact c rfl
 .rw [aR (qc f (d.le ah))]
abbrev Y92(d:List IOp×Yo->Bool)(c:List IOp×Yo->fA):Prop:=∀a b,a.length<1000000000->d (a,b,())=true/\c (a,b,())=(bp (a=b),())
def anW{p1 f1}(c:Y92 p1 f1)(a b:Blk)(d:a.ops.length<1000000000):ZO.F (p1,f1,()) (a,b,()) (λy=>y=(bp (a=b),())):=by
 dsimp only [ZO,gm];simp (disch:=omega) only [RR,RB,c _ _ d];simp only [mD,<-fT];refine Prod.ext (iF ?_) rfl;cases a;cases b;simp only [Blk.mk.injEq];constructor<;>(intro h;simp only [h,and_self])
def aj0{p1 f1}(c:Y14 p1 f1)(a b:List au)(d:Sh a):Rf.F (p1,f1,()) (a,b,()) (λy=>y=(decide (nu a b=0),())):=by
 dsimp only [Rf,gm];simp (disch:=omega) only [RR,c _ _ d]
def aj1{p1 f1}(l:Y14 p1 f1)(a b:List (List au))(g:ShP a):Rh.F (p1,f1,()) (a,b,()) (λy=>y=(bp (a=b),())):=by
 have d:=g.1;dsimp only [Rh,gm];simp (disch:=omega) only [RR];refine⟨λh=> ?_,λh=> ?_⟩
 .rw [bJ (λe=>h (by rw [e]))]
 have k:a.length=b.length:=by omega
 refine ay (λ(y:List (List au)×List (List au)×oz)=>y.1=b/\y.2.1=a/\y.2.2.1=a.length/\0<=y.2.2.2.1/\y.2.2.2.1<=a.length/\All y.2.2.2.1 (λi=>a.getD i.toNat default=b.getD i.toNat default)) (λy=>(a.length-y.2.2.2.1).toNat) ⟨rfl,rfl,rfl,by simp,by simp,All.zero⟩ ?_;rintro⟨(p:List (List au)),(q:List (List au)),(n:Int),(i:Int),⟨⟩⟩ hI;dsimp only at hI ⊢;obtain⟨rfl,rfl,rfl,o,m,f⟩:=hI;simp (disch:=omega) only [RR,l _ _ (g.at _),mq];refine⟨λj=>⟨ah,ah,ah,ah,λc=> ?_,λc=>⟨⟨ah,ah,f.snoc c⟩,ah⟩⟩,λj=> ?_⟩
 .rw [bJ];intro e;rw [e]at c;exact c rfl
 .rw [aR (qc k (f.le ah))]
def aj2{p1 f1}(c:Y88 p1 f1)(a b:List (List au))(d:ShP a):Ri.F (p1,f1,()) (a,b,()) (λy=>y=(bp (a=b),())):=by
 dsimp only [Ri,gm];simp (disch:=omega) only [RR,c _ _ d]
def anX{p1 f1 p2 f2}(d:Y14 p1 f1)(e:Y88 p2 f2)(a b:Ev)(c:ShE a):aal.F (p1,f1,p2,f2,()) (a,b,()) (λy=>y=(bp (a=b),())):=by
 dsimp only [aal,gm];simp (disch:=omega) only [RR,RB,d _ _ c.1,d _ _ c.2.1,e _ _ c.2.2,mq];simp only [mD,<-fT];refine Prod.ext (iF ?_) rfl;cases a;cases b;simp only [Ev.mk.injEq];constructor<;>(intro h;simp only [h,and_self])
abbrev Y93(d:Ev×Ev×Unit->Bool)(c:Ev×Ev×Unit->fA):Prop:=∀a b,ShE a->d (a,b,())=true/\c (a,b,())=(bp (a=b),())
def aj3{p1 f1}(k:Y93 p1 f1)(a b:List Ev)(d:abw a):Rj.F (p1,f1,()) (a,b,()) (λy=>y=(bp (a=b),())):=by
 have g:=d.1;dsimp only [Rj,gm];simp (disch:=omega) only [RR];refine⟨λh=> ?_,λh=> ?_⟩
 .rw [bJ (λe=>h (by rw [e]))]
 have j:a.length=b.length:=by omega
 refine ay (λ(y:List Ev×List Ev×oz)=>y.1=b/\y.2.1=a/\y.2.2.1=a.length/\0<=y.2.2.2.1/\y.2.2.2.1<=a.length/\All y.2.2.2.1 (λi=>a.getD i.toNat default=b.getD i.toNat default)) (λy=>(a.length-y.2.2.2.1).toNat) ⟨rfl,rfl,rfl,by simp,by simp,All.zero⟩ ?_;rintro⟨(o:List Ev),(p:List Ev),(n:Int),(i:Int),⟨⟩⟩ hI;dsimp only at hI ⊢;obtain⟨rfl,rfl,rfl,q,m,f⟩:=hI;simp (disch:=omega) only [RR,k _ _ (d.at _),aX,lS];refine⟨λl=>⟨ah,ah,ah,ah,λc=> ?_,λc=>⟨⟨ah,ah,f.snoc c⟩,ah⟩⟩,λl=> ?_⟩
 .rw [bJ];intro e;rw [e]at c;exact c rfl
 .rw [aR (qc j (f.le ah))]
def anY{p1 f1 p2 f2}{d:List Ev×List Ev×Unit->Bool}{f:List Ev×List Ev×Unit->fA}(e:Y14 p1 f1)(i:Y88 p2 f2)(g:∀b a,abw b->d (b,a,())=true/\f (b,a,())=(bp (b=a),()))(a b:Sym)(c:ShY a):aam.F (p1,f1,p2,f2,d,f,()) (a,b,()) (λy=>y=(bp (a=b),())):=by
 dsimp only [aam,gm];simp (disch:=omega) only [RR,RB,e _ _ c.x,e _ _ c.y,i _ _ c.r,g _ _ c.e,mq];simp only [mD,<-fT];refine Prod.ext (iF ?_) rfl;cases a;cases b;simp only [Sym.mk.injEq];constructor<;>(intro h;simp only [h,and_self])
abbrev Y94(d:aro->Bool)(c:aro->fA):Prop:=∀a b,a.ops.length<1000000000->d (a,b,())=true/\c (a,b,())=(bp (a=b),())
abbrev Y95(d:Sym×Sym×Unit->Bool)(c:Sym×Sym×Unit->fA):Prop:=∀a b,ShY a->d (a,b,())=true/\c (a,b,())=(bp (a=b),())
def anZ{p1 f1 p2 f2 p4 f4 p5 f5}{d:Unit->Bool}{j:Unit->List Atom×l7}(i:Y60 p1 f1)(n:Y94 p2 f2)(m:d ()=true/\(j ()).1=t4)(f:Y89 p4 f4)(l:Y95 p5 f5)(b c:Blk)(a:b.ops.length<1000000000)(hc:c.ops.length<1000000000):aan.F (p1,f1,p2,f2,d,j,p4,f4,p5,f5,()) (b,c,()) (λy=>y=(chk b c,())):=by
 have k:ShT t4:=Ux.1.sh;have y1:=Ko t4 b;dsimp only [aan,gm];simp (disch:=omega) only [RR,RB,i b a,i c hc,n b c a,m,f t4 b k a,f _ c y1.2 hc,l _ _ y1.1,aX,lS];unfold chk;refine⟨λh=> ?_,λh=>⟨λe=> ?_,λe=> ?_⟩⟩
 .rw [bJ];rintro⟨q,o,r,p,_⟩;simp_all
 .rw [aR];exact⟨h.1.1.1,h.1.1.2,h.1.2,h.2,Or.inl e⟩
 .refine Prod.ext (iF ?_) rfl;exact⟨λg=>⟨h.1.1.1,h.1.1.2,h.1.2,h.2,Or.inr g⟩,λg=>g.2.2.2.2.resolve_left e⟩
abbrev Y96(d:aro->Bool)(a:aro->fA):Prop:=∀b c,b.ops.length<1000000000->c.ops.length<1000000000->d (b,c,())=true/\a (b,c,())=(chk b c,())
theorem mkB(p l o f x y k):Co.mk .blk (p,l,o,f,x,y,k,())=Blk.mk p l o f x y k:=rfl
structure afa(nm:List Int)(fin x y:Int)(ops:List IOp):Prop where
 op:∀i:Int,0<=i->i<ops.length->(hX ((ops).getD (i).toNat default)->0<=(((ops).getD (i).toNat default)).x/\(((ops).getD (i).toNat default)).x<nm.length)/\(hY ((ops).getD (i).toNat default)->0<=(((ops).getD (i).toNat default)).y/\(((ops).getD (i).toNat default)).y<nm.length)
 x:fin≠1->0<=x/\x<nm.length
 y:3<=fin->0<=y/\y<nm.length
 l:ops.length<1000000000
def an0(b:Blk)(a:b.ops.length<1000000000):ZG.F () (b,()) (λy=>y=bk7 b):=by
 dsimp only [ZG,gm];simp (disch:=omega) only [RR,RB];omega
def an1(i c d e b f g:Int)(a:List IOp)(h:0<=i/\i<a.length):aaN.F () (i,c,d,e,b,f,g,a,()) (λy=>y=(decide ((((a).getD (i).toNat default)).kind=1),c,d,e,b,f,g,a,())):=by
 dsimp only [aaN,gm];simp (disch:=omega) only [RR,RB];omega
def an2{p1 f1 p2 f2}(J:Y54 p1 f1)(I:Y53 p2 f2)(nm:List Int)(u len fin x y k:Int)(a:List IOp)(h:afa nm fin x y a):aaI.F (p1,f1,p2,f2,()) (nm,u,len,fin,x,y,k,a,()) (λz=>z=(u,len,fin,(if fin=1 then x else((nm).getD (x).toNat default)),(if 3<=fin then((nm).getD (y).toNat default)else y),k,a.map (ren nm),())):=by
 have N:=h.l;dsimp only [aaI,gm];simp (disch:=omega) only [RR,RB];refine ay (λ(z:List Int×sw)=>z.1=nm/\z.2.1=a.length/\0<=z.2.2.1/\z.2.2.1<=a.length/\z.2.2.2=(u,len,fin,x,y,k,(a.take z.2.2.1.toNat).map (ren nm)++a.drop z.2.2.1.toNat,())) (λz=>((a.length:Int)-z.2.2.1).toNat) ⟨rfl,rfl,by dsimp only;omega,by dsimp only;omega,rfl⟩ ?_;rintro⟨(g:List Int),(n:Int),(i:Int),(s:Int),(p:Int),(b:Int),(v:Int),(w:Int),(A:Int),(B:List IOp),⟨⟩⟩ hI;dsimp only at hI ⊢;simp only [Prod.mk.injEq,and_true]at hI;obtain⟨rfl,rfl,j,M,rfl,rfl,rfl,rfl,rfl,rfl,rfl⟩:=hI;have m:((a.take i.toNat).map (ren g)).length=i.toNat:=by rw [length_map,length_take];omega
 have K:=Dx (l:=a) m ah;by_cases c:i<a.length
 .obtain⟨ox,oy⟩:=h.op i j c;have H:=abC (d:=default) (l:=a) m ah;have C:=λq=>Dw (x:=q) (l:=a) m ah
  have mk:=M8 (d:=default) (f:=(a.take i.toNat).map (ren g)) (l:=a) (k:=i.toNat) ah;have F:=dO (d:=default) (l:=a) j c rfl;have D:∀q:IOp,(((a.take i.toNat).map (ren g)++ [q])++a.drop (i.toNat+1)).getD i.toNat default=q:=λq=>by
   rw [getD_lt (by rw [length_append,length_append,m];simp only [length_cons,length_nil];omega),getElem_append_left (by rw [length_append,m];simp),getElem_append_right ah];simp only [m,Nat.sub_self,getElem_cons_zero]
  have E:∀q r:IOp,(((a.take i.toNat).map (ren g)++ [q])++a.drop (i.toNat+1)).set i.toNat r=((a.take i.toNat).map (ren g)++ [r])++a.drop (i.toNat+1):=λq r=>by
   rw [set_append_left _ _ (by rw [length_append,m];simp),set_append_right _ _ ah,m,Nat.sub_self];rfl
  have L:∀q:IOp,(((a.take i.toNat).map (ren g)++ [q])++a.drop (i.toNat+1)).length=a.length:=λq=>by
   rw [length_append,length_append,m,length_drop];simp only [length_cons,length_nil];omega
  rw [mk]at H K C ⊢;generalize ((a).getD (i).toNat default)=o at*;simp (disch:=omega) only [RR,RB,I,D,E,L,c];have G:∀q:IOp,q=ren g o->(s,p,b,v,w,A,(a.take i.toNat).map (ren g)++ [q]++a.drop (i.toNat+1),())=(s,p,b,v,w,A,(a.take (i+1).toNat).map (ren g)++a.drop (i+1).toNat,()):=λq e=>by
   rw [e,<-F,map_append,show(i+1).toNat=i.toNat+1 by omega];rfl
  refine⟨j,j,λd=>⟨(ox d).1,(ox d).2,j,j,λe=>⟨(oy e).1,(oy e).2,j,j,⟨ah,ah,G _ ?_⟩,ah⟩,λe=>⟨⟨ah,ah,G _ ?_⟩,ah⟩⟩,λd=>⟨λe=>⟨(oy e).1,(oy e).2,j,j,⟨ah,ah,G _ ?_⟩,ah⟩,λe=>⟨⟨ah,ah,G _ ?_⟩,ah⟩⟩⟩
  all_goals unfold ren
  .rw [if_pos d,if_pos e]
  .rw [if_pos d,if_neg e]
  .rw [if_neg d,if_pos e]
  .rw [if_neg d,if_neg e]
 .have hx:=h.x;have t:=h.y;have z:(a.take i.toNat).map (ren g)++a.drop i.toNat=a.map (ren g):=by rw [take_of_length_le ah,drop_of_length_le ah,append_nil]
  rw [z];simp (disch:=omega) only [RR,RB,J,c,mkB];refine⟨λd=>⟨(hx d).1,(hx d).2,λe=>⟨(t e).1,(t e).2,?_⟩,λe=> ?_⟩,λd=>⟨λe=>⟨(t e).1,(t e).2,?_⟩,λe=> ?_⟩⟩
  .rw [if_neg (show¬b=1 from d),if_pos (show 3<=b from e)]
  .rw [if_neg (show¬b=1 from d),if_neg (show¬3<=b from e)]
  .rw [if_pos (show b=1 from Classical.byContradiction d),if_pos (show 3<=b from e)]
  .rw [if_pos (show b=1 from Classical.byContradiction d),if_neg (show¬3<=b from e)]
abbrev Y98(b:List Int×dY->Bool)(a:List Int×dY->dY):Prop:=∀(nm:List Int) pc len fin x y k ops,afa nm fin x y ops->b (nm,pc,len,fin,x,y,k,ops,())=true/\a (nm,pc,len,fin,x,y,k,ops,())=(pc,len,fin,(if fin=1 then x else((nm).getD (x).toNat default)),(if 3<=fin then((nm).getD (y).toNat default)else y),k,ops.map (ren nm),())
theorem an3{p1 f1}(B:Y98 p1 f1)(b:Blk)(g:List Bool)(ok:dK b)(hk:g.length=b.ops.length):aaJ.F (p1,f1,()) (b,g,()) (λy=>y=bk7 (Av b g)):=by
 have E:=ok.sz;dsimp only [aaJ,gm];simp (disch:=omega) only [RR,RB];refine⟨ah,ah,ay (λ(y:List Bool×List IOp×Int×Int×Int×Int×Int×Int×Int×Int×List Int×dY)=>y.1=g/\y.2.1=b.ops/\y.2.2.1=b.ops.length/\0<=y.2.2.2.1/\y.2.2.2.1<=b.ops.length/\y.2.2.2.2.2.2.2.2.2.2=((kpS b.ops g y.2.2.2.1.toNat).1++(replicate b.ops.length (0:Int)).drop y.2.2.2.1.toNat,b.pc,b.len,b.fin,b.x,b.y,b.k,(kpS b.ops g y.2.2.2.1.toNat).2,())) (λy=>((b.ops.length:Int)-y.2.2.2.1).toNat) ⟨rfl,rfl,rfl,by dsimp only;omega,by dsimp only;omega,?_⟩ ?_⟩
 .rfl
 rintro⟨(f:List Bool),(A:List IOp),(n:Int),(i:Int),u1,u2,u3,u4,u5,u6,(nm:List Int),(J:Int),(len:Int),(fin:Int),(x:Int),(y:Int),(k:Int),(out:List IOp),⟨⟩⟩ hI;dsimp only at hI ⊢;simp only [Prod.mk.injEq,and_true]at hI;obtain⟨rfl,rfl,rfl,p,G,rfl,rfl,rfl,rfl,rfl,rfl,rfl,rfl⟩:=hI;obtain⟨v,K⟩:=Dv b.ops f i.toNat;have u:(replicate b.ops.length (0:Int)).length=b.ops.length:=length_replicate;have C:=Dx (l:=replicate b.ops.length (0:Int)) v ah;have s:=λ(q:Int) (h:i<b.ops.length)=>Dw (x:=q) (l:=replicate b.ops.length (0:Int)) v ah
 have fin:¬i<b.ops.length->kpS b.ops f i.toNat=kpS b.ops f b.ops.length:=λh=>by rw [show i.toNat=b.ops.length by omega]
 have F:kpS b.ops f (i+1).toNat=((kpS b.ops f i.toNat).1++ [((kpS b.ops f i.toNat).2.length:Int)],if f.getD i.toNat default=true then(kpS b.ops f i.toNat).2++ [((b.ops).getD (i).toNat default)]else(kpS b.ops f i.toNat).2):=by rw [show(i+1).toNat=i.toNat+1 by omega];rfl
 have D:Av b f=ae4 (kpS b.ops f b.ops.length).1 b (kpS b.ops f b.ops.length).2:=rfl;have r:=ok.en;by_cases c:i<b.ops.length
 .have s:=λq=>s q c
  generalize w:kpS b.ops f (i+1).toNat=T at*;generalize kpS b.ops f i.toNat=S at*;simp (disch:=omega) only [RR,RB,C,s,c,length_append,length_cons,length_nil,fQ];rw [w,F,u,show(i+1).toNat=i.toNat+1 by omega];refine⟨p,p,c,p,c,p,ah,λd=>⟨ah,⟨ah,ah,?_⟩,ah⟩,λd=>⟨⟨ah,ah,?_⟩,ah⟩⟩
  .rw [if_pos d]
  .rw [d,if_neg (by decide)]
 .have e:=fin c;have z:(kpS b.ops f i.toNat).1++(replicate b.ops.length (0:Int)).drop i.toNat=(kpS b.ops f b.ops.length).1:=by
   rw [drop_of_length_le (by rw [u];omega),append_nil,e]
  have R:afa (kpS b.ops f b.ops.length).1 b.fin b.x b.y (kpS b.ops f b.ops.length).2:=by
   obtain⟨t,L⟩:=Dv b.ops f b.ops.length;refine⟨λm H I=> ?_,λd=> ?_,λd=> ?_,ah⟩
   .obtain⟨j,j1,j2,j3⟩:=aby b.ops f (n:=b.ops.length) (m:=m.toNat) ah;have a:=(ajM b.ops f j1 j2).2;rw [j3]at a;rw [a,t];have o:=ok.op j ah ah;rw [show(j:Int).toNat=j from rfl]at o;exact⟨λd=>⟨(o.x1 d).1,by have:=(o.x1 d).2.1;omega⟩,λd=>⟨(o.y1 d).1,by have:=(o.y1 d).2.1;omega⟩⟩
   .rw [t];exact⟨(r.x1 d).1,(r.x1 d).2.1⟩
   .rw [t];exact⟨(r.y1 d).1,(r.y1 d).2.1⟩
  rw [z,e,D];generalize kpS b.ops f b.ops.length=N at*;simp (disch:=omega) only [RR,RB,c,B N.1 b.pc b.len b.fin b.x b.y b.k N.2 R];rfl
def aj4{b:Blk}(f:dK b){j:Int}(e:0<=j)(d:j<b.ops.length)(a:((((fc b.ops b.ops.length)).getD (j).toNat default)).kind=1):0<=((((fc b.ops b.ops.length)).getD (j).toNat default)).k/\((((fc b.ops b.ops.length)).getD (j).toNat default)).k<=65535:=by
 rw [ajL b.ops (show j.toNat<b.ops.length by omega)]at a ⊢;unfold fcO at a ⊢;split at a
 .rename_i c;rw [if_pos c];exact Am _ _ _
 .rename_i c;rw [if_neg c];exact(f.op j e d).k1 a
abbrev Y99(c:kr->Bool)(a:kr->dY):Prop:=∀b,b.ops.length<1000000000->c (b,())=true/\a (b,())=bk7 b
theorem an4{p1 f1 p2 f2 p4 f4 p5 f5}{S:Int×dY->Bool}{f3:Int×dY->Bool×dY}(U1:Y99 p1 f1)(U2:Y60 p2 f2)(X:∀(i Q R J L K O:Int) (p:List IOp),0<=i/\i<p.length->S (i,Q,R,J,L,K,O,p,())=true/\f3 (i,Q,R,J,L,K,O,p,())=(decide ((((p).getD (i).toNat default)).kind=1),Q,R,J,L,K,O,p,()))(U4:Y24 p4 f4)(U5:Y59 p5 f5)(b:Blk)(hb:b.ops.length<1000000):aaO.F (p1,f1,p2,f2,S,f3,p4,f4,p5,f5,()) (b,()) (λy=>y=(jM b,())):=by
 dsimp only [aaO,gm];simp (disch:=omega) only [RR,RB,U1 b ah,U2 b ah,mkB];refine⟨λh=>by unfold jM;rw [h,if_neg (by decide)];rfl,λh=> ?_⟩;have ok:=aX.1 h;rw [Kt ok];have a0:=ok.sz;refine ay (λ(y:Int×Int×Blk×Int×U0)=>y.1=b.ops.length/\0<=y.2.1/\y.2.1<=b.ops.length/\y.2.2.1=b/\y.2.2.2.2.2.2.2.2.2=(b.pc,b.len,b.fin,b.x,b.y,b.k,fc b.ops y.2.1.toNat++b.ops.drop y.2.1.toNat,())) (λy=>((b.ops.length:Int)-y.2.1).toNat) ⟨rfl,by dsimp only;omega,by dsimp only;omega,rfl,rfl⟩ ?_;rintro⟨(n:Int),(k:Int),(a:Blk),u1,u2,u3,u4,u5,u6,b1,b2,b3,b4,b5,b6,(p:List IOp),⟨⟩⟩ hI;dsimp only at hI ⊢;simp only [Prod.mk.injEq,and_true]at hI;obtain⟨rfl,u,T,rfl,rfl,rfl,rfl,rfl,rfl,rfl,rfl⟩:=hI;have I:=wD a.ops k.toNat;have B:=Dx (l:=a.ops) I ah;have C:=λj P=>(X j a.pc a.len a.fin a.x a.y a.k (fc a.ops k.toNat++a.ops.drop k.toNat) P).2
 have t:=λj P=>(X j a.pc a.len a.fin a.x a.y a.k (fc a.ops k.toNat++a.ops.drop k.toNat) P).1
 by_cases c:k<a.ops.length
 .have o:=ok.op k u c;have V:=abC (d:=default) (l:=a.ops) I ah;have lo:=λ(j:Int) (j0:0<=j) (j1:j<k)=>ajY (d:=default) (l:=a.ops) (j:=j.toNat) I ah
  have nx:fc a.ops (k+1).toNat=fc a.ops k.toNat++ [fcO (fc a.ops k.toNat) ((a.ops).getD (k).toNat default)]:=by rw [show(k+1).toNat=k.toNat+1 by omega];rfl
  have hk:=M8 (d:=default) (f:=fc a.ops k.toNat) (l:=a.ops) (k:=k.toNat) ah;have hs:=λx=>Dw (x:=x) (l:=a.ops) I ah
  have W:∀x:Int,Vl a.ops x k->0<=x/\x<k:=λx v=>⟨v.1,v.2.1⟩
  have w:fcO (fc a.ops k.toNat) ((a.ops).getD (k).toNat default)=if(((a.ops).getD (k).toNat default)).kind=3/\((((fc a.ops k.toNat)).getD ((((a.ops).getD (k).toNat default)).x).toNat default)).kind=1/\((((fc a.ops k.toNat)).getD ((((a.ops).getD (k).toNat default)).y).toNat default)).kind=1 then⟨1,0,0,wdo (((a.ops).getD (k).toNat default)).k ((((fc a.ops k.toNat)).getD ((((a.ops).getD (k).toNat default)).x).toNat default)).k ((((fc a.ops k.toNat)).getD ((((a.ops).getD (k).toNat default)).y).toNat default)).k,0⟩else((a.ops).getD (k).toNat default):=rfl
  generalize U:((a.ops).getD (k).toNat default)=q at*;generalize hM:fc a.ops k.toNat++a.ops.drop k.toNat=M at*;by_cases F:q.kind=3
  .have vx:=W _ (o.x1 (by unfold hX;omega));have vy:=W _ (o.y1 (Or.inl F));have m:0<=q.x/\q.x<M.length:=⟨vx.1,ah⟩;have s:0<=q.y/\q.y<M.length:=⟨vy.1,ah⟩;rw [<-lo _ vx.1 vx.2,<-lo _ vy.1 vy.2]at w;simp (disch:=omega) only [RR,RB,B,V,U,C _ m,t _ m,C _ s,t _ s,U4,c,F,m,s,decide_true,Bool.true_and];rw [nx,show(k+1).toNat=k.toNat+1 by omega];refine⟨u,u,λd=>⟨λe=>⟨ah,ah,ah,ah,u,u,⟨ah,ah,?_⟩,ah⟩,λe=>⟨⟨ah,ah,?_⟩,ah⟩⟩,λd=>⟨d,⟨ah,ah,?_⟩,ah⟩⟩
   .rw [if_pos ⟨F,e⟩]at w;rw [w,hs]
   .rw [if_neg (by rintro⟨_,E,H⟩;rw [E,H]at e;cases e)]at w;rw [w,hk]
   .rw [if_neg (by rintro⟨_,E,H⟩;exact d E)]at w;rw [w,hk]
  .simp (disch:=omega) only [RR,RB,B,V,U,c,F];rw [nx,show(k+1).toNat=k.toNat+1 by omega];refine⟨u,u,⟨ah,ah,?_⟩,ah⟩;rw [if_neg (λg=>F g.1)]at w;rw [w,hk]
 .have z:fc a.ops k.toNat++a.ops.drop k.toNat=fc a.ops a.ops.length:=by rw [drop_of_length_le ah,append_nil,show k.toNat=a.ops.length by omega]
  have fe:=ok.fe (wD a.ops a.ops.length);have Y:=fe.x;have Z:=fe.y;have hf:=fe.f;have y0:=fe.y0;have hp:=fe.p;dsimp only at Y Z hf y0 hp;rw [z]at C t ⊢;have B:=wD a.ops a.ops.length;have fi:=λ(j:Int) u T h3=>aj4 ok (j:=j) u T h3
  generalize fc a.ops a.ops.length=M at*;have G:¬(a.fin=2/\(((M).getD (a.x).toNat default)).kind=1)->¬(3<=a.fin/\(((M).getD (a.x).toNat default)).kind=1/\(((M).getD (a.y).toNat default)).kind=1)->fcB a M=⟨a.pc,a.len,M,a.fin,a.x,a.y,a.k⟩:=λE H=>by unfold fcB;rw [if_neg E,if_neg H]
  by_cases N:a.fin=1
  .rw [G ah ah];simp (disch:=omega) only [RR,RB,B,c,show¬a.fin=2 by omega,show¬3<=a.fin by omega,mkB,decide_false];rfl
  .have m:=Y N;by_cases r:a.fin=2
   .by_cases d:(((M).getD (a.x).toNat default)).kind=1
    .have e:fcB a M=⟨a.pc,a.len,M,1,0,a.y,(((M).getD (a.x).toNat default)).k⟩:=by unfold fcB;rw [if_pos ⟨r,d⟩]
     rw [e];simp (disch:=omega) only [RR,RB,B,c,eq_true r,eq_true d,mkB,C _ m,t _ m,decide_true,Bool.true_and,Bool.and_true,Bool.and_false];exact⟨m.1,ah,m.1,ah,rfl⟩
    .rw [G ah ah];simp (disch:=omega) only [RR,RB,B,c,eq_true r,d,show¬3<=a.fin by omega,mkB,C _ m,t _ m,decide_true,decide_false,Bool.true_and,Bool.and_true,Bool.and_false];rfl
   .have s:=Z ah;have A:3<=a.fin:=by omega
    by_cases D:(((M).getD (a.x).toNat default)).kind=1
    .by_cases d2:(((M).getD (a.y).toNat default)).kind=1
     .have e:fcB a M=⟨a.pc,a.len,M,1,0,0,if a.fin=3/\(((M).getD (a.x).toNat default)).k=(((M).getD (a.y).toNat default)).k\/a.fin=4/\(((M).getD (a.x).toNat default)).k< (((M).getD (a.y).toNat default)).k then a.k else a.pc+a.len⟩:=by unfold fcB;rw [if_neg ah,if_pos ⟨A,D,d2⟩]
      have r1:=dU.2 (fi a.x m.1 ah D);have r2:=dU.2 (fi a.y s.1 ah d2);rw [e];simp (disch:=omega) only [RR,RB,B,c,r,A,D,d2,mkB,C _ m,t _ m,C _ s,t _ s,U5,r1,r2,decide_true,decide_false,Bool.true_and,Bool.and_true,Bool.and_false];refine⟨m.1,ah,m.1,ah,s.1,ah,s.1,ah,λg=> ?_,λg=> ?_⟩
      .rw [if_neg ah];rfl
      .rw [if_pos ah];rfl
     .rw [G ah ah];simp (disch:=omega) only [RR,RB,B,c,r,A,D,d2,mkB,C _ m,t _ m,C _ s,t _ s,decide_true,decide_false,Bool.true_and,Bool.and_true,Bool.and_false];rfl
    .rw [G ah ah];simp (disch:=omega) only [RR,RB,B,c,r,A,D,mkB,C _ m,t _ m,decide_true,decide_false,Bool.true_and,Bool.and_true,Bool.and_false];rfl
def an5{p1 f1 p2 f2 p3 f3}(I:Y99 p1 f1)(P:Y98 p2 f2)(O:Y60 p3 f3)(b:Blk)(Z:b.ops.length<1000000):aaP.F (p1,f1,p2,f2,p3,f3,()) (b,()) (λy=>y=(jT b,())):=by
 dsimp only [aaP,gm];simp (disch:=omega) only [RR,RB,I b ah,O b ah,fQ];refine⟨λh=>by unfold jT;rw [h,if_neg (by decide)];rfl,λh=> ?_⟩;have ok:=aX.1 h;rw [M6 ok];have V:=ok.sz;refine⟨ah,ah,ay (λ(y:List IOp×Int×Int×Blk×Int×Int×Int×Int×Int×Int×ql)=>y.1=b.ops/\y.2.1=b.ops.length/\0<=y.2.2.1/\y.2.2.1<=b.ops.length/\y.2.2.2.1=b/\y.2.2.2.2.2.2.2.2.2.2=((cpS b.ops y.2.2.1.toNat).1++(replicate b.ops.length (0:Int)).drop y.2.2.1.toNat,(cpS b.ops y.2.2.1.toNat).2,())) (λy=>((b.ops.length:Int)-y.2.2.1).toNat) ⟨rfl,rfl,by dsimp only;omega,by dsimp only;omega,rfl,rfl⟩ ?_⟩;rintro⟨(K:List IOp),(n:Int),(k:Int),(a:Blk),u1,u2,u3,u4,u5,u6,(nm:List Int),(la:List Int),⟨⟩⟩ hI;dsimp only at hI ⊢;simp only [Prod.mk.injEq,and_true]at hI;obtain⟨rfl,rfl,J,X,rfl,rfl,rfl⟩:=hI;obtain⟨H,l2⟩:=Kq a.ops k.toNat;have p:(replicate a.ops.length (0:Int)).length=a.ops.length:=length_replicate;have C:=Dx (l:=replicate a.ops.length (0:Int)) H ah;by_cases c:k<a.ops.length
 .have o:=ok.op k J c;have nx:cpS a.ops (k+1).toNat=((cpS a.ops k.toNat).1++ [cpN (cpS a.ops k.toNat) k ((a.ops).getD (k).toNat default)],cpL (cpS a.ops k.toNat) k ((a.ops).getD (k).toNat default)):=by
   rw [show(k+1).toNat=k.toNat+1 by omega,show k=((k.toNat:Nat):Int) by omega];rfl
  have s:=λ(q:Int)=>Dw (x:=q) (l:=replicate a.ops.length (0:Int)) H ah
  have t:∀q r:Int,(((cpS a.ops k.toNat).1++ [q])++(replicate a.ops.length (0:Int)).drop (k.toNat+1)).set k.toNat r=((cpS a.ops k.toNat).1++ [r])++(replicate a.ops.length (0:Int)).drop (k.toNat+1):=λq r=>by simp_all
  have D:∀q:Int,(((cpS a.ops k.toNat).1++ [q])++(replicate a.ops.length (0:Int)).drop (k.toNat+1)).length=a.ops.length:=λq=>by grind
  have Q:∀(q x:Int),0<=x->x<k->(((((cpS a.ops k.toNat).1++ [q])++(replicate a.ops.length (0:Int)).drop (k.toNat+1))).getD (x).toNat default)=(((cpS a.ops k.toNat).1).getD (x).toNat default):=λq x W x1=>by grind
  have F:=o.k2;have L:=λf:(((a.ops).getD (k).toNat default)).kind=8=>o.x1 (by unfold hX;omega)
  generalize u:((a.ops).getD (k).toNat default)=q at*;generalize A:cpS a.ops (k+1).toNat=T at*;generalize cpS a.ops k.toNat=S at*;have Y:∀i:Int,0<=i->i<S.2.length->S.2.set i.toNat ((S.2).getD (i).toNat default)=S.2:=λi i0 i1=>by simp_all
  have G:∀v w,v=cpN S k q->w=cpL S k q->((S.1++ [v])++(replicate a.ops.length (0:Int)).drop (k.toNat+1),w,())=(T.1++(replicate a.ops.length (0:Int)).drop (k+1).toNat,T.2,()):=λv w e1 e2=>by grind
  by_cases e:q.kind=2
  .have kk:=F (Or.inl e);by_cases j:0<=((S.2).getD (q.k).toNat default)
   .have g:=G (((S.2).getD (q.k).toNat default)) S.2 (by unfold cpN;rw [if_pos ⟨e,j⟩]) (by unfold cpL;rw [if_pos e,if_pos j]);simp (disch:=omega) only [RR,RB,C,s,t,D,p,c,u,eq_true e,eq_true j,A,g,decide_true,decide_false,Bool.true_and,Bool.and_true,Bool.and_false,Bool.false_and,false_and];omega
   .have g:=G k (S.2.set q.k.toNat k) (by unfold cpN;rw [if_neg (λq=>j q.2)]) (by unfold cpL;rw [if_pos e,if_neg j]);simp (disch:=omega) only [RR,RB,C,s,t,D,p,c,u,eq_true e,j,A,g,decide_true,decide_false,Bool.true_and,Bool.and_true,Bool.and_false,Bool.false_and,false_and];omega
  .by_cases f:q.kind=8
   .have kk:=F (Or.inr f);have v:=L f;have v0:=v.1;have v1:=v.2.1;have g:=G k (S.2.set q.k.toNat ((S.1).getD (q.x).toNat default)) (by unfold cpN;rw [if_neg (λq=>e q.1)]) (by unfold cpL;rw [if_neg e,if_pos f]);simp (disch:=omega) only [RR,RB,C,s,t,D,Q,p,c,u,e,eq_true f,A,g,decide_true,decide_false,Bool.true_and,Bool.and_true,Bool.and_false,Bool.false_and,false_and];omega
   .have g:=G k S.2 (by unfold cpN;rw [if_neg (λq=>e q.1)]) (by unfold cpL;rw [if_neg e,if_neg f]);simp (disch:=omega) only [RR,RB,C,s,t,D,p,c,u,e,f,A,g,decide_true,decide_false,Bool.true_and,Bool.and_true,Bool.and_false,Bool.false_and,false_and];omega
 .have z:(cpS a.ops k.toNat).1++(replicate a.ops.length (0:Int)).drop k.toNat=(cpS a.ops a.ops.length).1:=by
   rw [drop_of_length_le (by rw [p];omega),append_nil,show k.toNat=a.ops.length by omega]
  have B:=ok.en;have R:afa (cpS a.ops a.ops.length).1 a.fin a.x a.y a.ops:=by
   obtain⟨E,q2⟩:=Kq a.ops a.ops.length;refine⟨λm M U=> ?_,λd=> ?_,λd=> ?_,ah⟩
   .have o:=ok.op m M U;rw [E];exact⟨λd=>⟨(o.x1 d).1,by have:=(o.x1 d).2.1;omega⟩,λd=>⟨(o.y1 d).1,by have:=(o.y1 d).2.1;omega⟩⟩
   .rw [E];exact⟨(B.x1 d).1,(B.x1 d).2.1⟩
   .rw [E];exact⟨(B.y1 d).1,(B.y1 d).2.1⟩
  rw [z];generalize (cpS a.ops a.ops.length).1=N at*;simp (disch:=omega) only [RR,RB,c,I a ah,P N a.pc a.len a.fin a.x a.y a.k a.ops R];rfl
def an6{p1 f1 p2 f2}(B:Y54 p1 f1)(A:Y53 p2 f2)(b:Blk)(ok:dK b):aaK.F (p1,f1,p2,f2,()) (b,()) (λy=>y=(us b b.ops.length,())):=by
 have C:=ok.sz;have t:=ok.en;have m:¬b.fin=1->0<=b.x/\b.x<b.ops.length:=λc=>by have:=t.x1 c;exact⟨this.1,this.2.1⟩
 have l:3<=b.fin->0<=b.y/\b.y<b.ops.length:=λc=>by have:=t.y1 c;exact⟨this.1,this.2.1⟩
 dsimp only [aaK,gm];simp (disch:=omega) only [RR,RB,B,length_replicate,length_set,Int.toNat_natCast];refine⟨ah,ah,λc=>⟨(m c).1,(m c).2,(m c).1,(m c).2,λd=>⟨(l d).1,(l d).2,(l d).1,(l d).2,?_⟩,λd=> ?_⟩,λc=>⟨λd=>⟨(l d).1,(l d).2,(l d).1,(l d).2,?_⟩,λd=> ?_⟩⟩
 all_goals
  refine ay (λ(y:Int×Blk×ard)=> -1<=y.1/\y.1<b.ops.length/\y.2.1=b/\y.2.2.1=us b (b.ops.length-1-y.1).toNat) (λy=>(y.1+1).toNat) ⟨by dsimp only;omega,by dsimp only;omega,rfl,?_⟩ ?_
  .dsimp only;rw [show(b.ops.length-1- ((b.ops.length:Int)-1)).toNat=0 by omega];show _=us0 b;unfold us0;dsimp only
   first
    | rw [if_neg (show¬b.fin=1 from c),if_pos (show 3<=b.fin from d)]
    | rw [if_neg (show¬b.fin=1 from c),if_neg (show¬3<=b.fin from d)]
    | (rw [if_pos (show b.fin=1 from Classical.byContradiction c),if_pos (show 3<=b.fin from d)])
    | (rw [if_pos (show b.fin=1 from Classical.byContradiction c),if_neg (show¬3<=b.fin from d)])
  rintro⟨(j:Int),(a:Blk),(D:List Bool),⟨⟩⟩ hI;dsimp only at hI ⊢;obtain⟨E,f,rfl,rfl⟩:=hI;have s:=R8 a (a.ops.length-1-j).toNat;have i:0<=j->us a (a.ops.length-1- (j-1)).toNat=usO ((a.ops).getD (j).toNat default) j.toNat (us a (a.ops.length-1-j).toNat):=λg=>by
   rw [show(a.ops.length-1- (j-1)).toNat=(a.ops.length-1-j).toNat+1 by omega];show usO (a.ops.getD (a.ops.length-1- (a.ops.length-1-j).toNat) default) (a.ops.length-1- (a.ops.length-1-j).toNat) _=_;rw [show a.ops.length-1- (a.ops.length-1-j).toNat=j.toNat by omega]
  have r:¬0<=j->us a (a.ops.length-1-j).toNat=us a a.ops.length:=λg=>by rw [show(a.ops.length-1-j).toNat=a.ops.length by omega]
  generalize us a (a.ops.length-1-j).toNat=U at i r s ⊢;by_cases g:0<=j
  .have o:=ok.op j g f;have i:=i g;have n:=λc:hX ((a.ops).getD (j).toNat default)=>(o.x1 c)
   have k:=λc:hY ((a.ops).getD (j).toNat default)=>(o.y1 c)
   unfold usO at i;generalize v:((a.ops).getD (j).toNat default)=q at*;have u:∀x:Bool,(U.set j.toNat x).getD j.toNat default=x:=λx=>by rw [getD_lt (by rw [length_set];omega),getElem_set_self]
   simp (disch:=omega) only [RR,RB,A,s,length_set,u,v,g,eq_true g];rw [i];by_cases w:(U.getD j.toNat default || decide (4<=q.kind))=true
   .have w2:U.getD j.toNat default=true\/4<=q.kind:=by rw [Bool.or_eq_true,decide_eq_true_eq]at w;exact w
    rw [if_pos w,w];refine⟨f,f,f,f,f,f,f,λe=> ?_,λ_=>⟨λe=>⟨(n e).1,by have:=(n e).2.1;omega,(n e).1,by have:=(n e).2.1;omega,λh=>⟨(k h).1,by have:=(k h).2.1;omega,(k h).1,by have:=(k h).2.1;omega,⟨ah,ah,?_⟩,ah⟩,λh=>⟨⟨ah,ah,?_⟩,ah⟩⟩,λe=>⟨λh=>⟨(k h).1,by have:=(k h).2.1;omega,(k h).1,by have:=(k h).2.1;omega,⟨ah,ah,?_⟩,ah⟩,λh=>⟨⟨ah,ah,?_⟩,ah⟩⟩⟩⟩
    .rcases w2 with w2 | w2
     .rw [e.1]at w2;cases w2
     .exact absurd w2 e.2
    all_goals dsimp only
    .rw [if_pos e,if_pos h]
    .rw [if_pos e,if_neg h]
    .rw [if_neg e,if_pos h]
    .rw [if_neg e,if_neg h]
   .have w1:(U.getD j.toNat default || decide (4<=q.kind))=false:=by simpa using w
    rw [if_neg w,w1];have p:U.getD j.toNat default=false:=by rw [Bool.or_eq_false_iff]at w1;exact w1.1
    have z:U.set j.toNat false=U:=by rw [<-p,getD_lt (show j.toNat<U.length by omega),set_getElem_self]
    refine⟨f,f,f,f,f,f,f,λ_=>⟨⟨ah,ah,z⟩,ah⟩,λe=> ?_⟩;exfalso;rcases e with e | e
    .rw [p]at e;cases e
    .rw [decide_eq_true e,Bool.or_true]at w;exact w rfl
  .simp (disch:=omega) only [RR,RB,g,eq_false g,r g]
def afb(j:Nat)(D:List Bool)(v:Bool):(replicate (j+1) false++D).set j v=replicate j false++v::D:=by
 rw [replicate_succ',append_assoc,set_append_right _ _ (by rw [length_replicate];exact Nat.le_refl _),length_replicate,Nat.sub_self];rfl
def abD(j:Nat)(D:List Bool)(u v:Bool):(replicate j false++u::D).set j v=replicate j false++v::D:=by
 rw [set_append_right _ _ (by rw [length_replicate];exact Nat.le_refl _),length_replicate,Nat.sub_self];rfl
theorem an7{p1 f1 p2 f2}(J:Y80 p1 f1)(G:Y60 p2 f2)(b:Blk)(P:b.ops.length<1000000):aaM.F (p1,f1,p2,f2,()) (b,()) (λy=>y=(qg b,())):=by
 dsimp only [aaM,gm];simp (disch:=omega) only [RR,RB,G b ah,Int.toNat_natCast];refine⟨λh=>by unfold qg;rw [h,if_neg (by decide)];rfl,λh=> ?_⟩;have ok:=aX.1 h;rw [M0 ok];have M:=ok.sz;have L:(iH b.ops).length=b.ops.length:=by unfold iH;rw [length_map,length_range]
 refine⟨ah,ah,ah,ah,ay (λ(y:Int×Blk×Int×Int×Int×Int×Int×Int×List Bool×ard)=> -1<=y.1/\y.1<b.ops.length/\y.2.1=b/\y.2.2.2.2.2.2.2.2.1=replicate (y.1+1).toNat false++(iH b.ops).drop (y.1+1).toNat/\y.2.2.2.2.2.2.2.2.2.1.length=4/\∀r:Int,0<=r->r<=3->((y.2.2.2.2.2.2.2.2.2.1).getD (r).toNat default)=um (b.ops.drop (y.1+1).toNat) r) (λy=>(y.1+1).toNat) ⟨by dsimp only;omega,by dsimp only;omega,rfl,?_,rfl,λr i k=> ?_⟩ ?_⟩
 .dsimp only;rw [show((b.ops.length:Int)-1+1).toNat=b.ops.length by omega,drop_of_length_le ah,append_nil]
 .dsimp only;rw [show((b.ops.length:Int)-1+1).toNat=b.ops.length by omega,drop_of_length_le ah];rcases(by omega:r=0\/r=1\/r=2\/r=3)with h | h | h | h<;>subst h<;>rfl
 rintro⟨(j:Int),(a:Blk),u1,u2,u3,u4,u5,u6,(O:List Bool),(N:List Bool),⟨⟩⟩ hI;dsimp only at hI ⊢;obtain⟨S,m,rfl,rfl,D,n⟩:=hI;by_cases c:0<=j
 .have o:=ok.op j c m;have I:(j+1).toNat=j.toNat+1:=by omega
  have Q:iH a.ops=iH a.ops:=rfl;have F:(iH a.ops).drop j.toNat=(!(decide ((((a.ops).getD (j).toNat default)).kind=8)&&um (a.ops.drop (j.toNat+1)) (((a.ops).getD (j).toNat default)).k))::(iH a.ops).drop (j.toNat+1):=by
   rw [drop_eq_getElem_cons (show j.toNat< (iH a.ops).length by omega),<-getD_lt (d:=default) (show j.toNat< (iH a.ops).length by omega),WH ah]
  have s:∀r,um (a.ops.drop j.toNat) r=if(((a.ops).getD (j).toNat default)).kind=4\/(((a.ops).getD (j).toNat default)).kind=5\/(((a.ops).getD (j).toNat default)).kind=2/\(((a.ops).getD (j).toNat default)).k=r then false else if(((a.ops).getD (j).toNat default)).kind=8/\(((a.ops).getD (j).toNat default)).k=r then true else um (a.ops.drop (j.toNat+1)) r:=λr=>by
   rw [drop_eq_getElem_cons (show j.toNat<a.ops.length by omega),R9,<-getD_lt (d:=default) (show j.toNat<a.ops.length by omega)]
  rw [I]at n ⊢;have A:=o.k2;have x:∀v:Bool,(replicate j.toNat false++v::(iH a.ops).drop (j.toNat+1)).length=a.ops.length:=λv=>by rw [length_append,length_replicate,length_cons,length_drop];omega
  have w:(replicate (j.toNat+1) false++(iH a.ops).drop (j.toNat+1)).length=a.ops.length:=by rw [length_append,length_replicate,length_drop];omega
  generalize C:((a.ops).getD (j).toNat default)=q at*;simp (disch:=omega) only [RR,RB,w,x,afb,abD,D,C,c,eq_true c,length_set];simp only [Int.sub_add_cancel];have K:∀v,v=(!(decide (q.kind=8)&&um (a.ops.drop (j.toNat+1)) q.k))->replicate j.toNat false++v::(iH a.ops).drop (j.toNat+1)=replicate j.toNat false++(iH a.ops).drop j.toNat:=λv e=>by rw [F,e]
  have E:∀r:Int,0<=r->r<=3->(((replicate 4 false)).getD (r).toNat default)=false:=λr i k=>by
   rcases(by omega:r=0\/r=1\/r=2\/r=3)with h | h | h | h<;>subst h<;>rfl
  have f:=λg=>A g
  refine⟨m,m,m,λl=> ?_,λl=>⟨λB=> ?_,λB=> ?_⟩⟩
  .have f:=A (Or.inr l);refine⟨f.1,ah,f.1,ah,m,m,f.1,ah,f.1,ah,⟨ah,ah,K _ ?_,λr i k=> ?_⟩,ah⟩
   .rw [n _ f.1 f.2,decide_eq_true l,Bool.true_and]
   .rw [s,abx i f.1 ah];by_cases g:r=q.k
    .rw [if_pos g,if_neg ah,if_pos ⟨l,g.symm⟩]
    .rw [if_neg g,n r i k,if_neg ah,if_neg (λq=>g q.2.symm)]
  .have f:=A (Or.inl B);refine⟨f.1,ah,f.1,ah,⟨ah,ah,K _ ?_,λr i k=> ?_⟩,ah⟩
   .rw [decide_eq_false l,Bool.false_and];rfl
   .rw [s,abx i f.1 ah];by_cases g:r=q.k
    .rw [if_pos g,if_pos ah]
    .rw [if_neg g,n r i k,if_neg ah,if_neg (λq=>l q.1)]
  .have kv:=K true (by rw [decide_eq_false l,Bool.false_and];rfl);have p:q.kind=4\/q.kind=5->∀r:Int,0<=r->r<=3->(((replicate 4 false)).getD (r).toNat default)=um (a.ops.drop j.toNat) r:=λg r i k=>by rw [E r i k,s,if_pos ah]
   have H:¬q.kind=4->¬q.kind=5->∀r:Int,0<=r->r<=3->((N).getD (r).toNat default)=um (a.ops.drop j.toNat) r:=λT U r i k=>by rw [n r i k,s,if_neg ah,if_neg (λq=>l q.1)]
   refine⟨λt=>⟨λ_=>⟨⟨ah,ah,kv,rfl,p (Or.inl t)⟩,ah⟩,λg=>absurd t g⟩,λt=>⟨λu=>⟨⟨ah,ah,kv,rfl,p (Or.inr u)⟩,ah⟩,λu=>⟨⟨ah,ah,kv,H t u⟩,ah⟩⟩⟩
 .have z:(j+1).toNat=0:=by omega
  rw [z];have R:replicate 0 false++(iH a.ops).drop 0=iH a.ops:=rfl;rw [R];simp (disch:=omega) only [RR,RB,c,eq_false c,J _ _ ok L];rfl
abbrev aqf(c:kr->Bool)(a:kr->ard):Prop:=∀b,dK b->c (b,())=true/\a (b,())=(us b b.ops.length,())
def an8{p1 f1 p2 f2 p3 f3}(c:Y80 p1 f1)(d:aqf p2 f2)(e:Y60 p3 f3)(b:Blk)(f:b.ops.length<1000000):aaL.F (p1,f1,p2,f2,p3,f3,()) (b,()) (λy=>y=(mO b,())):=by
 dsimp only [aaL,gm];simp (disch:=omega) only [RR,RB,e b ah];refine⟨λh=>by unfold mO;rw [h,if_neg (by decide)];rfl,λh=> ?_⟩;have ok:=aX.1 h;have a:=R8 b b.ops.length;rw [M4 ok,(d b ok).2,(c _ _ ok a).2];exact⟨(d b ok).1,(c _ _ ok a).1,rfl⟩
abbrev aqg(c:kr->Bool)(a:kr->kr):Prop:=∀b,b.ops.length<1000000->c (b,())=true/\a (b,())=(jT b,())
abbrev aqh(c:kr->Bool)(a:kr->kr):Prop:=∀b,b.ops.length<1000000->c (b,())=true/\a (b,())=(mO b,())
abbrev aqi(c:kr->Bool)(a:kr->kr):Prop:=∀b,b.ops.length<1000000->c (b,())=true/\a (b,())=(qg b,())
def an9{p1 f1 p2 f2 p3 f3 p4 f4}(h:Y73 p1 f1)(i:aqg p2 f2)(a:aqh p3 f3)(g:aqi p4 f4)(b:Blk)(f:b.ops.length<1000000):aaQ.F (p1,f1,p2,f2,p3,f3,p4,f4,()) (b,()) (λy=>y=(Kr b,())):=by
 have e:(jT b).ops.length<1000000:=Nat.lt_of_le_of_lt (FI b) f;have c:=Nat.lt_of_le_of_lt (CG (jT b)) e;have d:=Nat.lt_of_le_of_lt (zo (jM (jT b))) c;have j:=Nat.lt_of_le_of_lt (FH (mO (jM (jT b)))) d;dsimp only [aaQ,gm];simp (disch:=omega) only [RR,i b f,h _ e,a _ c,g _ d,a _ j];rfl
def aj5(a b:Blk)(m:a.ops.length<1000000000):RG.F () (a,b,()) (λy=>y=(bp (a=b),())):=by
 dsimp only [RG,gm];simp (disch:=omega) only [RR,RB];refine⟨λh=> ?_,λh=> ?_⟩
 .rw [bJ];rintro rfl;simp at h
 have f:a.ops.length=b.ops.length:=by omega
 refine ay (λ(y:Int×aro)=>y.2.1=a/\y.2.2.1=b/\0<=y.1/\y.1<=a.ops.length/\All y.1 (λi=>a.ops.getD i.toNat default=b.ops.getD i.toNat default)) (λy=>(a.ops.length-y.1).toNat) ⟨rfl,rfl,by simp,by simp,All.zero⟩ ?_;rintro⟨(i:Int),(j:Blk),(k:Blk),⟨⟩⟩ hI;dsimp only at hI ⊢;obtain⟨rfl,rfl,n,l,d⟩:=hI;simp (disch:=omega) only [RR,RB,agK];refine⟨λg=>⟨ah,ah,ah,ah,λc=> ?_,λc=>⟨⟨ah,ah,d.snoc c⟩,ah⟩⟩,λg=> ?_⟩
 .rw [bJ];rintro rfl;exact c rfl
 .have e:=qc f (d.le ah);rw [aR];cases j;cases k;simp_all
abbrev aqj(c:kr->Bool)(a:kr->kr):Prop:=∀b,b.ops.length<1000000->c (b,())=true/\a (b,())=(Kr b,())
variable{l:List Cer}
def ShC(l:List Cer):Prop:=l.length<1000/\∀q∈l,q.base.ops.length<1000000/\q.made.ops.length<1000000
def Ku(l:List Cer)(b c:Blk):Prop:=∃q∈l,q.base=b/\q.made=c
def rJ(l:List Cer):Prop:=l.length<=3/\∀q∈l,chk q.base q.made=true
def ShC.at(h:ShC l)(i:Nat):(l.getD i default).base.ops.length<1000000/\(l.getD i default).made.ops.length<1000000:=by
 by_cases c:i<l.length
 .rw [getD_lt c];exact h.2 _ (getElem_mem _)
 .rw [getD_eq_getElem?_getD,getElem?_eq_none ah];exact⟨by decide,by decide⟩
def ShD(l:List Cer):Prop:=l.length<1000000000/\∀q∈l,q.base.ops.length<1000000000/\q.made.ops.length<1000000000
def ShC.d(h:ShC l):ShD l:=⟨by have:=h.1;omega,λq g=>by have:=h.2 q g;omega⟩
def ShD.at(h:ShD l)(i:Nat):(l.getD i default).base.ops.length<1000000000/\(l.getD i default).made.ops.length<1000000000:=by
 by_cases c:i<l.length
 .rw [getD_lt c];exact h.2 _ (getElem_mem _)
 .rw [getD_eq_getElem?_getD,getElem?_eq_none ah];exact⟨by decide,by decide⟩
def CRB:(∀q:Cer,bR .cer 0 q=q.base.pc)/\(∀q:Cer,bR .cer 1 q=q.base.len)/\(∀q:Cer,iW .cer 2 .iop q=q.base.ops)/\(∀q:Cer,bR .cer 3 q=q.base.fin)/\(∀q:Cer,bR .cer 4 q=q.base.x)/\(∀q:Cer,bR .cer 5 q=q.base.y)/\(∀q:Cer,bR .cer 6 q=q.base.k)/\
  (∀q:Cer,bR .cer 7 q=q.made.pc)/\(∀q:Cer,bR .cer 8 q=q.made.len)/\(∀q:Cer,iW .cer 9 .iop q=q.made.ops)/\(∀q:Cer,bR .cer 10 q=q.made.fin)/\(∀q:Cer,bR .cer 11 q=q.made.x)/\(∀q:Cer,bR .cer 12 q=q.made.y)/\(∀q:Cer,bR .cer 13 q=q.made.k)/\
  (∀x,Co.mk .blk x=⟨x.1,x.2.1,x.2.2.1,x.2.2.2.1,x.2.2.2.2.1,x.2.2.2.2.2.1,x.2.2.2.2.2.2.1⟩):=
 ⟨λ_=>rfl,λ_=>rfl,λ_=>rfl,λ_=>rfl,λ_=>rfl,λ_=>rfl,λ_=>rfl,λ_=>rfl,λ_=>rfl,λ_=>rfl,λ_=>rfl,λ_=>rfl,λ_=>rfl,λ_=>rfl,λ_=>rfl⟩
def UA{α:Type}{d:α}{l:List α}{i:Nat}{G:α->Prop}(h:i<l.length):(∃q∈l.take (i+1),G q)↔(∃q∈l.take i,G q)\/G (l.getD i d):=by
 rw [take_succ_eq_append_getElem h,getD_lt h];constructor
 .rintro⟨q,a,h2⟩;rw [mem_append,mem_singleton]at a;rcases a with a | rfl
  .exact Or.inl ⟨q,a,h2⟩
  .exact Or.inr h2
 .rintro(⟨q,a,h2⟩ | h)
  .exact⟨q,mem_append_left _ a,h2⟩
  .exact⟨_,mem_append_right _ (mem_singleton.2 rfl),h⟩
theorem aoa{p1 f1}(a:Y94 p1 f1)(q:Cer)(b c:Blk)(e:q.base.ops.length<1000000000)(d:q.made.ops.length<1000000000):aar.F (p1,f1,()) (q,b,c,()) (λy=>y=(bp (q.base=b/\q.made=c),b,c,())):=by
 have mE:∀c:Blk,Co.mk .blk (c.pc,c.len,c.ops,c.fin,c.x,c.y,c.k,())=c:=λ_=>rfl
 dsimp only [aar,gm,vF];simp (disch:=omega) only [RR,CRB,mE,a _ b e,a _ c d,fT]
theorem aob{p1 f1}(a:Y96 p1 f1)(q:Cer)(d:q.base.ops.length<1000000000)(b:q.made.ops.length<1000000000):aaq.F (p1,f1,()) (q,()) (λy=>y=(!chk q.base q.made,())):=by
 have mE:∀c:Blk,Co.mk .blk (c.pc,c.len,c.ops,c.fin,c.x,c.y,c.k,())=c:=λ_=>rfl
 dsimp only [aaq,gm,vF];simp (disch:=omega) only [RR,CRB,mE,a _ _ d b]
def aj6{o:Cer×aro->Bool}{m:Cer×aro->Bool×aro}(r:∀q b c,q.base.ops.length<1000000000->q.made.ops.length<1000000000->o (q,b,c,())=true/\m (q,b,c,())=(bp (q.base=b/\q.made=c),b,c,()))(l:List Cer)(b c:Blk)(h:ShC l):Rk.F (o,m,()) (l,b,c,()) (λy=>y.2=(b,c,())/\(0<=y.1↔Ku l b c)):=by
 have t:=h.1;dsimp only [Rk,gm];simp (disch:=omega) only [RR];refine ay (λ(y:List Cer×Int×Int×aro)=>y.1=l/\y.2.1=l.length/\0<=y.2.2.1/\y.2.2.1<=l.length/\y.2.2.2.1=b/\y.2.2.2.2.1=c/\¬Ku (l.take y.2.2.1.toNat) b c) (λy=>(l.length-y.2.2.1).toNat) ⟨rfl,rfl,by simp,by simp,rfl,rfl,by rintro⟨q,h,_⟩;cases h⟩ ?_;rintro⟨(p:List Cer),(n:Int),(i:Int),(k:Blk),(j:Blk),⟨⟩⟩ hI;dsimp only at hI ⊢;obtain⟨rfl,rfl,d,s,rfl,rfl,f⟩:=hI;have a:=h.at i.toNat;simp (disch:=omega) only [RR,r _ k j (show(((p).getD (i).toNat default)).base.ops.length<1000000000 by omega) (show(((p).getD (i).toNat default)).made.ops.length<1000000000 by omega),aX,lS];refine⟨λg=>⟨d,g,λe=> ?_,λe=>⟨⟨ah,ah,?_⟩,ah⟩⟩,λg=> ?_⟩
 .exact⟨λ_=>⟨_,gu d g,e⟩,λ_=>d⟩
 .rw [show(i+1).toNat=i.toNat+1 by omega];exact λx=>((UA (G:=λq:Cer=>q.base=k/\q.made=j) ah).1 x).elim f e
 .rw [take_of_length_le ah]at f;exact⟨λx=>absurd x (by decide),λx=>absurd x f⟩
def aj7{f:Cer×Unit->Bool}{d:Cer×Unit->fA}(k:∀q,q.base.ops.length<1000000000->q.made.ops.length<1000000000->f (q,())=true/\d (q,())=(!chk q.base q.made,()))(l:List Cer)(h:ShD l):Rl.F (f,d,()) (l,()) (λy=>0<=y.1↔∃q∈l,chk q.base q.made=false):=by
 have o:=h.1;dsimp only [Rl,gm];simp (disch:=omega) only [RR];refine ay (λ(y:List Cer×oz)=>y.1=l/\y.2.1=l.length/\0<=y.2.2.1/\y.2.2.1<=l.length/\¬∃q∈l.take y.2.2.1.toNat,chk q.base q.made=false) (λy=>(l.length-y.2.2.1).toNat) ⟨rfl,rfl,by simp,by simp,by rintro⟨q,h,_⟩;cases h⟩ ?_;rintro⟨(j:List Cer),(n:Int),(i:Int),⟨⟩⟩ hI;dsimp only at hI ⊢;obtain⟨rfl,rfl,b,m,c⟩:=hI;have a:=h.at i.toNat;simp (disch:=omega) only [RR,k _ (show(((j).getD (i).toNat default)).base.ops.length<1000000000 by omega) (show(((j).getD (i).toNat default)).made.ops.length<1000000000 by omega)];refine⟨λg=>⟨b,g,λe=> ?_,λe=>⟨⟨ah,ah,?_⟩,ah⟩⟩,λg=> ?_⟩
 .exact⟨λ_=>⟨_,gu b g,e⟩,λ_=>b⟩
 .rw [show(i+1).toNat=i.toNat+1 by omega];exact λx=>((UA (G:=λq:Cer=>chk q.base q.made=false) ah).1 x).elim c (λz=>by rw [e]at z;cases z)
 .rw [take_of_length_le ah]at c;exact⟨λx=>absurd x (by decide),λx=>absurd x c⟩
def aj8{d:I4->Bool}{a:I4->Int×aro}(e:∀l b c,ShC l->d (l,b,c,())=true/\((a (l,b,c,())).2=(b,c,())/\(0<=(a (l,b,c,())).1↔Ku l b c)))(l:List Cer)(b c:Blk)(h:ShC l):Rm.F (d,a,()) (l,b,c,()) (λy=>y=(bp (Ku l b c),b,c,())):=by
 obtain⟨f,i⟩:=(e l b c h).2;have g:(a (l,b,c,())).2.1=b:=congrArg Prod.fst f;have j:(a (l,b,c,())).2.2.1=c:=congrArg (λz=>z.2.1) f;dsimp only [Rm,gm];simp (disch:=omega) only [RR,(e l b c h).1,g,j,mD,iF i]
def aj9{a:r9->Bool}{b:r9->eB}(c:∀l,ShD l->a (l,())=true/\((0<=(b (l,())).1↔∃q∈l,chk q.base q.made=false)))(l:List Cer)(h:ShD l):Rn.F (a,b,()) (l,()) (λy=>y=(bp (∃q∈l,chk q.base q.made=false),())):=by
 dsimp only [Rn,gm];simp (disch:=omega) only [RR,(c l h).1,mD,iF ((c l h).2)]
def aoc{a:I4->Bool}{d:I4->Bool×aro}(e:∀l b c,ShC l->a (l,b,c,())=true/\d (l,b,c,())=(bp (Ku l b c),b,c,()))(l:List Cer)(b c:Blk)(h:ShC l):aaS.F (a,d,()) (l,b,c,()) (λy=>y=(bp (Ku l b c),())):=by
 dsimp only [aaS,gm];simp (disch:=omega) only [RR,e l b c h]
def aod{b:r9->Bool}{f:r9->fA}(k:∀l,ShD l->b (l,())=true/\(f (l,())=(bp (∃q∈l,chk q.base q.made=false),())))(l:List Cer)(h:ShD l):aas.F (b,f,()) (l,()) (λy=>y=(bp (rJ l),())):=by
 dsimp only [aas,gm];simp (disch:=omega) only [RR,k l h];have e:(!bp (∃q∈l,chk q.base q.made=false))=bp (∀q∈l,chk q.base q.made=true):=by
  by_cases c:∃q∈l,chk q.base q.made=false
  .rw [aR c,bJ]; · rfl
   intro g;obtain⟨q,a,i⟩:=c;rw [g q a]at i;cases i
  .rw [bJ c,aR]; · rfl
   intro q a;by_cases d:chk q.base q.made=true
   .exact d
   .exact absurd ⟨q,a,by simpa using d⟩ c
 rw [e,mD,<-fT];exact Prod.ext (iF (by unfold rJ;constructor<;>rintro⟨m,j⟩<;>exact⟨ah,j⟩)) rfl
abbrev aqk(d:I4->Bool)(a:I4->fA):Prop:=∀l b c,ShC l->d (l,b,c,())=true/\a (l,b,c,())=(bp (Ku l b c),())
abbrev aql(b:r9->Bool)(a:r9->fA):Prop:=∀l,ShD l->b (l,())=true/\a (l,())=(bp (rJ l),())
end Go.TX.F
namespace Go.TX.F
open Go Go.AE Go.TX List
structure Ren(s:Int->Int)(t:Int->Int)(n:Int):Prop where
 rng:∀k,0<=k->k<n->0<=s k/\s k<=199
 back:∀k,0<=k->k<n->t (s k)=k
def mapM(s:Int->Int)(m:au):au:=⟨m.dI,wh (m.atoms.map s)⟩
def abE(b:Blk):chk b b=bp (dK b):=by
 by_cases h:dK b
 .rw [aR h];exact(Lk.refl h).chk
 .rw [bJ h];unfold chk;exact bJ λg=>h g.1
def xO(q:Cer):F5:=(q.base.pc,q.base.len,q.base.fin,q.base.x,q.base.y,q.base.k,q.made.pc,q.made.len,q.made.fin,q.made.x,q.made.y,q.made.k,q.base.ops,q.made.ops,())
def GL(l:List Cer)(q:Cer):List Cer:=(l++ [q]).drop (l.length+1-3)
theorem aoe{p1 f1}(a:Y99 p1 f1)(q:Cer)(d:q.base.ops.length<1000000)(b:q.made.ops.length<1000000):aaw.F (p1,f1,()) (q,()) (λy=>y=xO q):=by
 have mE:∀c:Blk,Co.mk .blk (c.pc,c.len,c.ops,c.fin,c.x,c.y,c.k,())=c:=λ_=>rfl
 dsimp only [aaw,gm,vF];simp (disch:=omega) only [RR,CRB,mE,a _ (show q.base.ops.length<1000000000 by omega),a _ (show q.made.ops.length<1000000000 by omega)];rfl
theorem aof(q:Cer):Co.mk .cer ((xO q).1,(xO q).2.1,(xO q).2.2.2.2.2.2.2.2.2.2.2.2.1,(xO q).2.2.1,(xO q).2.2.2.1,(xO q).2.2.2.2.1,(xO q).2.2.2.2.2.1,(xO q).2.2.2.2.2.2.1,(xO q).2.2.2.2.2.2.2.1,(xO q).2.2.2.2.2.2.2.2.2.2.2.2.2.1,(xO q).2.2.2.2.2.2.2.2.1,(xO q).2.2.2.2.2.2.2.2.2.1,(xO q).2.2.2.2.2.2.2.2.2.2.1,(xO q).2.2.2.2.2.2.2.2.2.2.2.1,())=q:=rfl
abbrev aqm(b:Cer×Unit->Bool)(a:Cer×Unit->F5):Prop:=∀q,q.base.ops.length<1000000->q.made.ops.length<1000000->b (q,())=true/\a (q,())=xO q
def akb{p1 f1}(d:aqm p1 f1)(l:List Cer)(h:ShC l):Rp.F (p1,f1,()) (l,()) (λy=>y=(l,())):=by
 have c:=h.1;dsimp only [Rp,gm,vF];refine ay (λ(y:List Cer×Int×Int×r9)=>y.1=l/\y.2.1=l.length/\y.2.2.2.1=l.take y.2.2.1.toNat/\0<=y.2.2.1/\y.2.2.1<=l.length) (λy=>(l.length-y.2.2.1).toNat) ⟨rfl,rfl,by simp,by simp,by simp⟩ ?_;rintro⟨(l:List Cer),(m:Int),(i:Int),(o:List Cer),⟨⟩⟩ hI;dsimp only at hI ⊢;obtain⟨rfl,rfl,rfl,e,f⟩:=hI;have a:=h.at i.toNat;simp (disch:=omega) only [RR,d _ a.1 a.2,aof];refine⟨λb=>⟨ah,ah,?_,⟨dO e b rfl,ah,ah⟩,ah⟩,λb=>by rw [take_of_length_le ah]⟩;have:=length_take_le' i.toNat l;simp only [length_cons,length_nil];omega
def akc(l:List Cer)(n:Int)(a:l.length<1000000)(c:0<=n)(b:n<1000000):Rt.F () (l,n,()) (λy=>y=(l.drop (l.length-n.toNat),())):=by
 dsimp only [Rt,gm];simp (disch:=omega) only [RR];rw [show((l.length:Int)).toNat=l.length by omega,take_of_length_le (Nat.le_refl _)];split
 .rw [show((l.length:Int)-n).toNat=l.length-n.toNat by omega];exact⟨ah,ah,ah,rfl⟩
 .rw [show l.length-n.toNat=0 by omega];exact⟨ah,ah,ah,rfl⟩
abbrev aog(b:r9->Bool)(a:r9->r9):Prop:=∀l,ShC l->b (l,())=true/\a (l,())=(l,())
def aoh{p1 f1}{f:List Cer×eB->Bool}{a:List Cer×eB->r9}(b:aog p1 f1)(d:∀l n,l.length<1000000->0<=n->n<1000000->f (l,n,())=true/\a (l,n,())=(l.drop (l.length-n.toNat),()))(l:List Cer)(q:Cer)(h:ShC l)(j:q.base.ops.length<1000000)(i:q.made.ops.length<1000000):aaT.F (p1,f1,f,a,()) (l,q,()) (λy=>y=(GL l q,())):=by
 have L:=h.1;have e:(l++ [q]).length=l.length+1:=by rw [length_append,length_singleton]
 have sh:ShC (GL l q):=by
  unfold GL;refine⟨by rw [length_drop];omega,λc hc=> ?_⟩;have:=mem_of_mem_drop hc;rw [mem_append,mem_singleton]at this;rcases this with g | rfl
  .exact h.2 c g
  .exact⟨j,i⟩
 have F:=(d (l++ [q]) 3 ah ah ah).2;rw [e]at F;have F:a (l++ [q],3,())=(GL l q,()):=F;dsimp only [aaT,gm];simp (disch:=omega) only [RR,b l h,(d (l++ [q]) 3 ah ah ah).1,F,b _ sh,length_cons,length_nil];omega
theorem akd{p1 f1}(l:Y94 p1 f1)(a b:List Cer)(n:ShC a):RL.F (p1,f1,()) (a,b,()) (λy=>y=(bp (a=b),())):=by
 have mE:∀c:Blk,Co.mk .blk (c.pc,c.len,c.ops,c.fin,c.x,c.y,c.k,())=c:=λ_=>rfl
 have j:=n.1;dsimp only [RL,gm,vF];simp (disch:=omega) only [RR,CRB,mE];refine⟨λh=> ?_,λh=> ?_⟩
 .rw [bJ (λe=>h (by rw [e]))]
 have p:a.length=b.length:=by omega
 refine ay (λ(y:List Cer×List Cer×eB)=>y.1=a/\y.2.1=b/\0<=y.2.2.1/\y.2.2.1<=a.length/\All y.2.2.1 (λi=>a.getD i.toNat default=b.getD i.toNat default)) (λy=>(a.length-y.2.2.1).toNat) ⟨rfl,rfl,by simp,by simp,All.zero⟩ ?_;rintro⟨(m:List Cer),(o:List Cer),(i:Int),⟨⟩⟩ hI;dsimp only at hI ⊢;obtain⟨rfl,rfl,f,q,k⟩:=hI;have A:=n.at i.toNat;simp (disch:=omega) only [RR,CRB,mE,l (((m).getD (i).toNat default)).base (((o).getD (i).toNat default)).base ah,l (((m).getD (i).toNat default)).made (((o).getD (i).toNat default)).made ah,aX,lS];refine⟨λg=>⟨f,g,f,ah,Or.inr f,Or.inr g,Or.inr f,Or.inr ah,λd=> ?_,λd=>⟨⟨ah,ah,k.snoc (Cer.ext d.1 d.2)⟩,ah⟩⟩,λg=> ?_⟩
 .rw [bJ];intro e;rw [e]at d;rcases d with d | d<;>exact d rfl
 .rw [aR (qc p (k.le ah))]
abbrev aqn(b:List Cer×Cer×Unit->Bool)(a:List Cer×Cer×Unit->r9):Prop:=∀l q,ShC l->q.base.ops.length<1000000->q.made.ops.length<1000000->b (l,q,())=true/\a (l,q,())=(GL l q,())
abbrev aqo(d:List Cer×r9->Bool)(c:List Cer×r9->fA):Prop:=∀a b,ShC a->d (a,b,())=true/\c (a,b,())=(bp (a=b),())
def u8w{n:Int}:IntKind.u8.wrap n=n%256:=by
 simp [IntKind.wrap,IntKind.signed,IntKind.bits]
def opB(o:IOp):List Int:=[o.kind%256,o.x%256,o.y%256,o.k/256%256,o.k%256,o.at_%256]
def aoi(b:Blk):List Int:=[b.pc%256,b.len%256,b.fin%256,b.x%256,b.y%256,b.k/256%256,b.k%256]++b.ops.flatMap opB
noncomputable def irB (b:Blk):List Int:=if bp (dK b)=true then aoi b else []
def rdO(l:List Int)(p:Nat):IOp:=⟨l.getD p default,l.getD (p+1) default,l.getD (p+2) default,l.getD (p+3) default*256+l.getD (p+4) default,l.getD (p+5) default⟩
def FJ(l:List Int)(n:Nat):List IOp:=(range n).map λi=>rdO l (7+6*i)
def rdB(l:List Int):Blk:=⟨l.getD 0 default,l.getD 1 default,FJ l ((l.length-7)/6),l.getD 2 default,l.getD 3 default,l.getD 4 default,l.getD 5 default*256+l.getD 6 default⟩
def ake(l:List Int):Prop:=(7<=l.length/\(l.length-7)%6=0/\l.length<=295)/\irB (rdB l)=l
noncomputable def rdF (l:List Int):Int×Int×Int×Int×Int×Int×Bool×Yo:=if bp (ake l)=true then((rdB l).pc,(rdB l).len,(rdB l).fin,(rdB l).x,(rdB l).y,(rdB l).k,true,(rdB l).ops,())else(0,0,0,0,0,0,false,[],())
def abF(n:Int):0<=n%256/\n%256<=255:=by omega
def akf(o:IOp):By (opB o):=by
 intro z a;simp only [opB,mem_cons,not_mem_nil,or_false]at a;rcases a with h | h | h | h | h | h<;>subst h<;>exact abF _
def akg(b:Blk):By (irB b):=by
 unfold irB;split
 .intro z hz;unfold aoi at hz;rcases mem_append.1 hz with h | h
  .simp only [mem_cons,not_mem_nil,or_false]at h;rcases h with h | h | h | h | h | h | h<;>subst h<;>exact abF _
  .obtain⟨o,_,ho⟩:=mem_flatMap.1 h;exact akf o z ho
 .intro z hz;cases hz
def M9:∀a:List IOp,(a.flatMap opB).length=6*a.length
 | []=>rfl
 | o::r=>by rw [flatMap_cons,length_append,M9 r,length_cons];show 6+_=_;omega
def afc{a b:Int}(g:0<=a)(f:a<=255)(h:0<=b)(c:b<=255):dR .or .i64 (a*256) b=a*256+b:=by
 have d:((2^IntKind.i64.bits:Nat):Int)=18446744073709551616:=by decide
 have e:(a*256).toNat ||| b.toNat=a.toNat*256+b.toNat:=by
  rw [show(a*256).toNat=a.toNat*256 by omega,show a.toNat*256=a.toNat<<<8 by rw [Nat.shiftLeft_eq],<-Nat.shiftLeft_add_eq_or_of_lt (show b.toNat<2^8 by omega),Nat.shiftLeft_eq]
 unfold dR;dsimp only;rw [BitVec.toNat_or,BitVec.toNat_ofInt,BitVec.toNat_ofInt,d,show a*256%18446744073709551616=a*256 by omega,show b%18446744073709551616=b by omega,e,w64 ah ah];omega
theorem aoj(k:IntKind)(x y:Int):eX .or k x y=dR .or k x y:=rfl
theorem afd(x:Int):eX .shl .i64 x 8=IntKind.i64.wrap (x*256):=rfl
theorem UC(x:Int):eX .shr .i64 x 8=x.fdiv 256:=rfl
def aol(a b:Int)(e:0<=a)(d:a<=255)(c:0<=b)(f:b<=255):aaF.F () (a,b,()) (λy=>y=(a*256+b,())):=by
 dsimp only [aaF,gm];simp (disch:=omega) only [RR,aoj,afd,afc]
 decide
def bytes_inj:∀ {a b:List Int},By a->By b->Go.Lib.bytesOf a=Go.Lib.bytesOf b->a=b
 | [],[],_,_,_=>rfl
 | [],_::_,_,_,e=>by cases e
 | _::_,[],_,_,e=>by cases e
 | x::a,y::b,ha,hb,e=>by
  unfold Go.Lib.bytesOf at e;rw [map_cons,map_cons]at e;injection e with e1 e2;have g:=ha x mem_cons_self;have f:=hb y mem_cons_self;have d:=congrArg UInt8.toNat e1;rw [UInt8.toNat_ofNat',UInt8.toNat_ofNat']at d;have:x=y:=by omega
  rw [this,bytes_inj (λz c=>ha z (mem_cons_of_mem _ c)) (λz c=>hb z (mem_cons_of_mem _ c)) e2]
def aqp(a b:List Int)(c:By a)(d:By b):aiJ.F () (a,b,()) (λy=>y=(bp (a=b),())):=by
 dsimp only [aiJ,gm];show((((strOfNums a).toList==(strOfNums b).toList),()):fA)=_;rw [Go.Lib.strOfNums_toList,Go.Lib.strOfNums_toList];refine Prod.ext (Bool.eq_iff_iff.2 ?_) rfl;rw [aX];constructor
 .intro h;exact bytes_inj c d (by simpa using h)
 .rintro rfl;simp
theorem aom{p1 f1}(l:Y60 p1 f1)(b:Blk)(f:b.ops.length<1000000000):aaG.F (p1,f1,()) (b,()) (λy=>y=(irB b,())):=by
 have e:∀x:Int,Co.mk .u8 (x,())=x:=λ_=>rfl
 have d:∀x:Int,x.fdiv 256=x/256:=λx=>Int.fdiv_eq_ediv_of_nonneg x (by decide)
 dsimp only [aaG,gm];simp (disch:=omega) only [RR,RB,l b f,e,u8w,UC,d];refine⟨λh=>by unfold irB;rw [h];rfl,λh=>⟨by decide,?_⟩⟩;have ok:=aX.1 h;have o:=ok.sz;refine ay (λ(y:List IOp×H6)=>y.1=b.ops/\y.2.1=b.ops.length/\0<=y.2.2.1/\y.2.2.1<=b.ops.length/\y.2.2.2.1=[b.pc%256,b.len%256,b.fin%256,b.x%256,b.y%256,b.k/256%256,b.k%256]++(b.ops.take y.2.2.1.toNat).flatMap opB) (λy=>(b.ops.length-y.2.2.1).toNat) ⟨rfl,rfl,by simp,by simp,by simp⟩ ?_;rintro⟨(k:List IOp),(n:Int),(i:Int),(a:List Int),⟨⟩⟩ hI;dsimp only at hI ⊢;obtain⟨rfl,rfl,j,m,c⟩:=hI;have al:a.length<=1000:=by
  rw [c,length_append,M9];have:=length_take_le' i.toNat b.ops;simp only [length_cons,length_nil];omega
 simp (disch:=omega) only [RR,RB,e,u8w,UC,d,length_cons,length_nil];refine⟨λg=>⟨j,g,by decide,ah,⟨ah,ah,?_⟩,ah⟩,λg=> ?_⟩
 .rw [c,show(i+1).toNat=i.toNat+1 by omega,take_succ_eq_append_getElem ah,flatMap_append,append_assoc,getD_lt (show i.toNat<b.ops.length by omega)];rfl
 .rw [c,take_of_length_le ah];unfold irB;rw [if_pos h];rfl
abbrev aqr(c:kr->Bool)(a:kr->eu):Prop:=∀b,b.ops.length<1000000000->c (b,())=true/\a (b,())=(irB b,())
theorem aon{p2 f2}{B:ql->Bool}{s:ql->fA}{d:oz->Bool}{i:oz->eB}(R:∀a b,By a->By b->B (a,b,())=true/\s (a,b,())=(bp (a=b),()))(P:aqr p2 f2)(C:∀a b,0<=a->a<=255->0<=b->b<=255->d (a,b,())=true/\i (a,b,())=(a*256+b,()))(l:List Int)(c:By l)(v:l.length<1000000000):aaH.F (B,s,p2,f2,d,i,()) (l,()) (λy=>y=rdF l):=by
 have q:∀x:Int,bR .u8 0 x=x:=λ_=>rfl
 have p:∀n:Nat,IntKind.i64.wrap (l.getD n default)=l.getD n default:=λn=>w64 (by have:=c.at n;omega) (by have:=c.at n;omega)
 have r:∀n m:Nat,d (l.getD n default,l.getD m default,())=true:=λn m=>(C _ _ (c.at n).1 (c.at n).2 (c.at m).1 (c.at m).2).1
 have I:∀n m:Nat,i (l.getD n default,l.getD m default,())=(l.getD n default*256+l.getD m default,()):=λn m=>(C _ _ (c.at n).1 (c.at n).2 (c.at m).1 (c.at m).2).2
 dsimp only [aaH,gm];simp (disch:=omega) only [RR,RB,q,p,r,I];have no:¬ake l->rdF l=(0,0,0,0,0,0,false,[],()):=λh=>by unfold rdF;rw [if_neg (by rw [bJ h];decide)]
 have F:7<=l.length->((l.length:Int)-7).tmod 6=((l.length-7)%6:Nat):=λh=>by
  rw [Int.tmod_eq_emod_of_nonneg ah];omega
 refine⟨Or.inr (by decide),λh=> ?_,λh=> ?_⟩
 .rw [no];rintro⟨⟨O,V,g3⟩,_⟩;rw [F O]at h;omega
 have D:7<=l.length:=by omega
 have S:(l.length-7)%6=0:=by
  have:=h.1.2;rw [F D]at this;omega
 have aqs:l.length<=295:=by omega
 refine⟨ah,ah,ah,ah,ah,ah,ah,ah,ah,ah,ah,ah,ah,ah,?_⟩;refine ay (λ(y:List Int×Int×Int×U0)=>y.1=l/\(∃j:Nat,y.2.1=7+6*j/\7+6*j<=l.length/\y.2.2.2.2.2.2.2.2.2.2.2.2.2.2.1=FJ l j)/\y.2.2.2.2.2.2.2.2.1=l.getD 0 default/\y.2.2.2.2.2.2.2.2.2.1=l.getD 1 default/\y.2.2.2.2.2.2.2.2.2.2.1=l.getD 2 default/\y.2.2.2.2.2.2.2.2.2.2.2.1=l.getD 3 default/\y.2.2.2.2.2.2.2.2.2.2.2.2.1=l.getD 4 default/\y.2.2.2.2.2.2.2.2.2.2.2.2.2.1=l.getD 5 default*256+l.getD 6 default) (λy=>(l.length-y.2.1).toNat) ⟨rfl,⟨0,rfl,ah,rfl⟩,rfl,rfl,rfl,rfl,rfl,rfl⟩ ?_;rintro⟨(l:List Int),(J:Int),(z1:Int),(z2:Int),(z3:Int),(z4:Int),(U:Int),(Z:Int),(pc:Int),(len:Int),(fin:Int),(x:Int),(y:Int),(k:Int),(N:List IOp),⟨⟩⟩ hI;dsimp only at hI ⊢;obtain⟨rfl,⟨j,rfl,T,rfl⟩,rfl,rfl,rfl,rfl,rfl,rfl⟩:=hI;have W:(FJ l j).length=j:=by unfold FJ;rw [length_map,length_range]
 by_cases g:7+6*(j:Int)<l.length
 .have w:IntKind.i64.wrap (7+6*(j:Int)+6)=7+6*(j:Int)+6:=w64 ah ah;have L:((l.take (7+6*(j:Int)+6).toNat).drop (7+6*(j:Int)).toNat).length=6:=by
   rw [length_drop,length_take];omega
  have K:∀t:Int,0<=t->t<6->((l.take (7+6*(j:Int)+6).toNat).drop (7+6*(j:Int)).toNat).getD t.toNat default=l.getD (7+6*j+t.toNat) default:=λt X Y=>by
   rw [getD_eq_getElem?_getD,getElem?_drop,getElem?_take_of_lt ah,<-getD_eq_getElem?_getD,show(7+6*(j:Int)).toNat+t.toNat=7+6*j+t.toNat by omega]
  simp (disch:=omega) only [RR,RB,g,w,L,K,q,p,r,I,length_cons,length_nil];have Q:FJ l (j+1)=FJ l j++ [rdO l (7+6*j)]:=by unfold FJ;rw [range_succ,map_append];rfl
  repeat' apply And.intro
  all_goals first | omega | exact⟨j+1,ah,ah,by rw [Q];rfl⟩
 .have e:7+6*j=l.length:=by omega
  have f:(⟨l.getD 0 default,l.getD 1 default,FJ l j,l.getD 2 default,l.getD 3 default,l.getD 4 default,l.getD 5 default*256+l.getD 6 default⟩:Blk)=rdB l:=by
   unfold rdB;rw [show(l.length-7)/6=j by omega]
  have mE:∀(G H:Int) (u:List IOp) (A z E o:Int),Co.mk .blk (G,H,u,A,z,E,o,())=⟨G,H,u,A,z,E,o⟩:=λ_ _ _ _ _ _ _=>rfl
  have M:(rdB l).ops.length<1000000000:=by
   rw [<-f];show(FJ l j).length<_;omega
  simp (disch:=omega) only [RR,RB,g,mE,f,P _ M,R _ _ (akg (rdB l)) c];refine⟨λh=> ?_,λh=> ?_⟩
  .rw [no];rintro⟨_,g⟩;rw [aR g]at h;cases h
  .unfold rdF;rw [if_pos (aR ⟨⟨D,S,aqs⟩,aX.1 h⟩),<-f]
abbrev aqt(b:eu->Bool)(a:eu->Int×Int×Int×Int×Int×Int×Bool×Yo):Prop:=∀l,By l->l.length<1000000000->b (l,())=true/\a (l,())=rdF l
def o5(o:IOp):Int×Int×ari:=(o.kind,o.x,o.y,o.k,o.at_,())
def Wo(n:Int):Prop:=0<=n/\n<=65535
def Wos(l:List Int):Prop:=∀n∈l,Wo n
structure MOK(m:aC):Prop where
 r4:m.regs.length=4
 rw:Wos m.regs
 m64:m.mem.length=64
 mw:Wos m.mem
 pc:Wo m.pc
 sv:Wo m.save
 iw:Wos m.ins
 ow:Wos m.outs
 ha:0<=m.halt/\m.halt<=4
 ct:0<=m.count/\m.count<=1000000
def wE(r a b:Int):Bool:=inB a 0 65535&&inB b 0 65535&&decide (r=1/\a=b\/r=2/\a<b)
structure MS where
 m:aC
 vals:List Int
 left:Bool
def vx(s:MS)(o:IOp):Int:=if hX o then((s.vals).getD (o.x).toNat default)else 0
def vy(s:MS)(o:IOp):Int:=if hY o then((s.vals).getD (o.y).toNat default)else 0
def mV(s:MS)(o:IOp):Int:=if o.kind=1 then o.k else if o.kind=2 then((s.m.regs).getD (o.k).toNat default)else if o.kind=3 then wdo o.k (vx s o) (vy s o)else if o.kind=4 then((s.m.mem).getD (vx s o).toNat default)else if o.kind=6 then s.m.ins.getD 0 default else 0
def mM(s:MS)(o:IOp):aC:=if o.kind=5 then {s.m with mem:=s.m.mem.set (vx s o).toNat (vy s o)}else if o.kind=6 then {s.m with ins:=s.m.ins.drop 1}else if o.kind=7 then {s.m with outs:=s.m.outs++ [vx s o]}else if o.kind=8 then {s.m with regs:=s.m.regs.set o.k.toNat (vx s o)}else s.m
def leave(m:aC)(n:Int)(h:Int):aC:={m with halt:=h,pc:=m.pc+n,count:=m.count+n}
def aJ(b:Blk)(s:MS)(o:IOp):MS:=
 if s.left=true then s
 else if(o.kind=4\/o.kind=5)/\64<=vx s o then⟨leave s.m o.at_ 3,s.vals,true⟩
 else if o.kind=5/\b.pc+o.at_+1<=vx s o/\vx s o<=b.pc+b.len-1 then⟨leave (mM s o) (o.at_+1) (mM s o).halt,s.vals,true⟩
 else⟨mM s o,s.vals++ [mV s o],false⟩
def oV(b:Blk)(s:MS):aC:=if s.left=true then s.m else {s.m with count:=s.m.count+b.len,pc:=if b.fin=1 then b.k else if b.fin=2 then((s.vals).getD (b.x).toNat default)else if wE (b.fin-2) ((s.vals).getD (b.x).toNat default) ((s.vals).getD (b.y).toNat default)=true then b.k else b.pc+b.len}
def Kv:aC:=⟨[],0,[],0,false,false,0,[],[],0⟩
noncomputable def fC (b:Blk) (m:aC):aC×Bool:=if bp (dK b/\MOK m)=true then(if m.halt≠0\/m.pc≠b.pc\/1000000-b.len<m.count then(m,false)else(oV b (b.ops.foldl (aJ b) ⟨m,[],false⟩),true))else(Kv,false)
def bf(i:Ins):Prop:=(0<=i.op/\i.op<=15)/\(0<=i.d/\i.d<=3)/\(0<=i.a/\i.a<=3)/\0<=i.k/\
 (i.op=0->i.d=0/\i.a=0/\i.k<=3)/\(i.op=1->i.a=0/\i.k<=255)/\(i.op=2->i.k=0)/\(3<=i.op/\i.op<=7->i.k<=3)/\(i.op=8->i.k<=15)/\(9<=i.op/\i.op<=12->i.k<=255)/\(i.op=13->i.d=0/\i.k=0)/\(14<=i.op->i.a=0/\i.k=0)
def BQ(i:Ins):Int:=i.op*4096+i.d*1024+i.a*256+i.k
def bS(w:Int):Ins:=⟨w/4096,w/1024%4,w/256%4,w%256⟩
structure nK(pc:Int)(l:List Ins):Prop where
 ln:1<=l.length/\l.length<=8
 pc:0<=pc/\pc<=64-l.length
 ok:∀i:Nat,i<l.length->bf (l.getD i default)/\(l.getD i default).op≠0/\(11<=(l.getD i default).op/\(l.getD i default).op<=13->i+1=l.length)
def bX(n b:Int)(i:Ins):List IOp:=
 if i.op=1 then [⟨1,0,0,i.k,0⟩,⟨8,b,0,i.d,0⟩]
 else if i.op=2 then [⟨2,0,0,i.a,0⟩,⟨8,b,0,i.d,0⟩]
 else if i.op=8 then [⟨2,0,0,i.a,0⟩,⟨1,0,0,2^i.k.toNat,0⟩,⟨3,b,b+1,3,0⟩,⟨8,b+2,0,i.d,0⟩]
 else if i.op=9 then [⟨2,0,0,i.a,0⟩,⟨1,0,0,i.k,0⟩,⟨3,b,b+1,1,0⟩,⟨4,b+2,0,0,n⟩,⟨8,b+3,0,i.d,0⟩]
 else if i.op=10 then [⟨2,0,0,i.a,0⟩,⟨1,0,0,i.k,0⟩,⟨3,b,b+1,1,0⟩,⟨2,0,0,i.d,0⟩,⟨5,b+2,b+3,0,n⟩]
 else if i.op=14 then [⟨2,0,0,i.d,0⟩,⟨7,b,0,0,n⟩]
 else if i.op=15 then [⟨6,0,0,0,n⟩,⟨8,b,0,i.d,0⟩]
 else if i.op=11\/i.op=12 then [⟨2,0,0,i.d,0⟩,⟨2,0,0,i.a,0⟩]
 else if i.op=13 then [⟨2,0,0,i.a,0⟩]
 else [⟨2,0,0,i.a,0⟩,⟨2,0,0,i.k,0⟩,⟨3,b,b+1,i.op-2,0⟩,⟨8,b+2,0,i.d,0⟩]
def dH(n:Int)(b:Blk)(i:Ins):Blk:=
 if i.op=11\/i.op=12 then {b with ops:=b.ops++bX n b.ops.length i,fin:=i.op-8,x:=b.ops.length,y:=b.ops.length+1,k:=i.k}
 else if i.op=13 then {b with ops:=b.ops++bX n b.ops.length i,fin:=2,x:=b.ops.length,k:=0}
 else {b with ops:=b.ops++bX n b.ops.length i}
def jA:Int->Blk->List Ins->Blk
 | _,b,[]=>b
 | n,b,i::r=>jA (n+1) (dH n b i) r
def qG(pc:Int)(l:List Ins):Blk:=⟨pc,l.length,[],1,0,0,pc+l.length⟩
noncomputable def lower (pc:Int) (l:List Ins):Blk:=if bp (nK pc l)=true then jA 0 (qG pc l) l else R6
def adr(m:aC)(i:Ins):Int:=(((m.regs).getD (i.a).toNat default)+i.k)%65536
def eff(m:aC)(i:Ins):aC:=
 if i.op=1 then {m with regs:=m.regs.set i.d.toNat i.k}
 else if i.op=2 then {m with regs:=m.regs.set i.d.toNat ((m.regs).getD (i.a).toNat default)}
 else if i.op=8 then {m with regs:=m.regs.set i.d.toNat (((m.regs).getD (i.a).toNat default)*2^i.k.toNat%65536)}
 else if i.op=9 then {m with regs:=m.regs.set i.d.toNat ((m.mem).getD (adr m i).toNat default)}
 else if i.op=10 then {m with mem:=m.mem.set (adr m i).toNat ((m.regs).getD (i.d).toNat default)}
 else if i.op=14 then {m with outs:=m.outs++ [((m.regs).getD (i.d).toNat default)]}
 else if i.op=15 then {m with regs:=m.regs.set i.d.toNat (m.ins.getD 0 default),ins:=m.ins.drop 1}
 else if i.op=0 then(if i.k=0 then {m with halt:=1}else if i.k=1 then {m with aO:=true}else {m with aO:=decide (i.k=2)})
 else if 11<=i.op then m
 else {m with regs:=m.regs.set i.d.toNat (wdo (i.op-2) ((m.regs).getD (i.a).toNat default) ((m.regs).getD (i.k).toNat default))}
def nxt(m:aC)(i:Ins):Int:=
 if i.op=0/\i.k=1 then m.save
 else if(i.op=11\/i.op=12)/\wE (i.op-10) ((m.regs).getD (i.d).toNat default) ((m.regs).getD (i.a).toNat default)=true then i.k
 else if i.op=13 then((m.regs).getD (i.a).toNat default)
 else(m.pc+1)%65536
def exec(m:aC)(i:Ins):aC:=if(i.op=9\/i.op=10)/\64<=adr m i then {m with halt:=3}else {eff m i with pc:=nxt m i,count:=m.count+1}
noncomputable def stepM (m:aC) (b:Bool):aC:=
 let w:=m.waits || b
 let a:aC:=if w=true/\m.aO=true then {m with waits:=false,aO:=false,save:=m.pc,pc:=48}else {m with waits:=w}
 if 64<=a.pc then {a with halt:=4}
 else if bp (bf (bS ((a.mem).getD (a.pc).toNat default)))=false then {a with halt:=2}
 else exec a (bS ((a.mem).getD (a.pc).toNat default))
theorem va(v l:List Int)(j:Nat):((v++l).getD ((v.length:Int)+j).toNat default)=l.getD j default:=by
 rw [getD_eq_getElem?_getD,getElem?_append_right ah,<-getD_eq_getElem?_getD,show((v.length:Int)+j).toNat-v.length=j by omega]
theorem va0(v l:List Int):((v++l).getD ((v.length:Int)).toNat default)=l.getD 0 default:=by
 have:=va v l 0
 rwa [Int.natCast_zero,Int.add_zero]at this
theorem va1(v l:List Int):((v++l).getD ((v.length:Int)+1).toNat default)=l.getD 1 default:=va v l 1
theorem va2(v l:List Int):((v++l).getD ((v.length:Int)+2).toNat default)=l.getD 2 default:=va v l 2
theorem va3(v l:List Int):((v++l).getD ((v.length:Int)+3).toNat default)=l.getD 3 default:=va v l 3
theorem gd0(a b:Int): [a,b].getD 0 default=a:=rfl
theorem gd1(a b:Int): [a,b].getD 1 default=b:=rfl
def rch(m:aC)(i:Ins):Prop:=(i.op=9\/i.op=10)/\64<=adr m i
def ovr(B:Blk)(n:Int)(m:aC)(i:Ins):Prop:=i.op=10/\B.pc+n+1<=adr m i/\adr m i<=B.pc+B.len-1
theorem Wos.at{l:List Int}(h:Wos l)(i:Int):Wo ((l).getD (i).toNat default):=by
 by_cases c:i.toNat<l.length
 .rw [getD_lt c];exact h _ (getElem_mem _)
 .rw [getD_eq_getElem?_getD,getElem?_eq_none ah];exact⟨by decide,by decide⟩
theorem UD{a k:Int}(b:Wo a)(hk:Wo k):wdo 1 a k=(a+k)%65536:=by
 unfold wdo;rw [if_pos ⟨b,hk⟩,if_pos rfl]
theorem afe{a k:Int}(b:Wo a)(hk:Wo k):wdo 3 a k=a*k%65536:=by
 unfold wdo;rw [if_pos ⟨b,hk⟩,if_neg (by decide),if_neg (by decide),if_pos rfl]
theorem Kw{k:Int}(c:0<=k)(b:k<=15):Wo (2^k.toNat):=by
 obtain⟨j,rfl⟩:∃j:Nat,k=j:=⟨k.toNat,ah⟩;have:j<=15:=by omega
 rw [show((j:Int)).toNat=j from rfl];have h:(2:Nat)^j<=2^15:=Nat.pow_le_pow_right (by decide) this;have e:((2:Int)^j)=((2^j:Nat):Int):=by simp
 rw [e];have a:(2:Nat)^15=32768:=by decide
 rw [a]at h;generalize (2:Nat)^j=z at h;exact⟨ah,ah⟩
section
variable (B:Blk) (m:aC) (v:List Int)
theorem st1(k:Int):aJ B ⟨m,v,false⟩ ⟨1,0,0,k,0⟩=⟨m,v++ [k],false⟩:=by simp [aJ,mM,mV]
theorem st2(k:Int):aJ B ⟨m,v,false⟩ ⟨2,0,0,k,0⟩=⟨m,v++ [((m.regs).getD (k).toNat default)],false⟩:=by simp [aJ,mM,mV]
theorem st3(k x y:Int):aJ B ⟨m,v,false⟩ ⟨3,x,y,k,0⟩=⟨m,v++ [wdo k ((v).getD (x).toNat default) ((v).getD (y).toNat default)],false⟩:=by simp [aJ,mM,mV,vx,vy,hX,hY]
theorem st4(x n:Int)(h:¬64<=((v).getD (x).toNat default)):aJ B ⟨m,v,false⟩ ⟨4,x,0,0,n⟩=⟨m,v++ [((m.mem).getD (((v).getD (x).toNat default)).toNat default)],false⟩:=by
 unfold aJ;rw [if_neg (by simp),if_neg (by simp [vx,hX];simpa using h),if_neg (by simp)];simp [mM,mV,vx,hX]
theorem aqu(x n:Int)(h:64<=((v).getD (x).toNat default)):aJ B ⟨m,v,false⟩ ⟨4,x,0,0,n⟩=⟨leave m n 3,v,true⟩:=by
 unfold aJ;rw [if_neg (by simp),if_pos (by simp [vx,hX];simpa using h)]
theorem aqv(x y n:Int)(h:64<=((v).getD (x).toNat default)):aJ B ⟨m,v,false⟩ ⟨5,x,y,0,n⟩=⟨leave m n 3,v,true⟩:=by
 unfold aJ;rw [if_neg (by simp),if_pos (by simp [vx,hX];simpa using h)]
theorem aqw(x y n:Int)(h:¬64<=((v).getD (x).toNat default))(o:B.pc+n+1<=((v).getD (x).toNat default)/\((v).getD (x).toNat default)<=B.pc+B.len-1):aJ B ⟨m,v,false⟩ ⟨5,x,y,0,n⟩=⟨leave {m with mem:=m.mem.set (((v).getD (x).toNat default)).toNat ((v).getD (y).toNat default)} (n+1) m.halt,v,true⟩:=by
 unfold aJ;rw [if_neg (by simp),if_neg (by simp [vx,hX];simpa using h),if_pos (by simp [vx,hX];simpa using o)];simp [mM,vx,vy,hX,hY]
theorem st5(x y n:Int)(h:¬64<=((v).getD (x).toNat default))(o:¬(B.pc+n+1<=((v).getD (x).toNat default)/\((v).getD (x).toNat default)<=B.pc+B.len-1)):aJ B ⟨m,v,false⟩ ⟨5,x,y,0,n⟩=⟨{m with mem:=m.mem.set (((v).getD (x).toNat default)).toNat ((v).getD (y).toNat default)},v++ [0],false⟩:=by
 unfold aJ;rw [if_neg (by simp),if_neg (by simp [vx,hX];simpa using h),if_neg (by simp [vx,hX];simpa using o)];simp [mM,mV,vx,vy,hX,hY]
theorem st6(n:Int):aJ B ⟨m,v,false⟩ ⟨6,0,0,0,n⟩=⟨{m with ins:=m.ins.drop 1},v++ [m.ins.getD 0 default],false⟩:=by simp [aJ,mM,mV]
theorem st7(x n:Int):aJ B ⟨m,v,false⟩ ⟨7,x,0,0,n⟩=⟨{m with outs:=m.outs++ [((v).getD (x).toNat default)]},v++ [0],false⟩:=by simp [aJ,mM,mV,vx,hX]
theorem st8(x k:Int):aJ B ⟨m,v,false⟩ ⟨8,x,0,k,0⟩=⟨{m with regs:=m.regs.set k.toNat ((v).getD (x).toNat default)},v++ [0],false⟩:=by simp [aJ,mM,mV,vx,hX]
end
theorem aqx(B:Blk)(m:aC)(v:List Int)(o:IOp):aJ B ⟨m,v,true⟩ o=⟨m,v,true⟩:=by simp [aJ]
theorem Ky(B:Blk)(m:aC)(v:List Int):∀l:List IOp,l.foldl (aJ B) ⟨m,v,true⟩=⟨m,v,true⟩
 | []=>rfl
 | o::r=>by rw [foldl_cons,show aJ B ⟨m,v,true⟩ o=⟨m,v,true⟩ by simp [aJ]];exact Ky B m v r
theorem aoo(B:Blk)(n:Int){m:aC}(hm:MOK m)(v:List Int){i:Ins}(r:bf i)(A:i.op≠0):
  (rch m i->((bX n v.length i).foldl (aJ B) ⟨m,v,false⟩).left=true/\((bX n v.length i).foldl (aJ B) ⟨m,v,false⟩).m=leave m n 3)/\
  (¬rch m i->ovr B n m i->((bX n v.length i).foldl (aJ B) ⟨m,v,false⟩).left=true/\((bX n v.length i).foldl (aJ B) ⟨m,v,false⟩).m=leave (eff m i) (n+1) m.halt)/\
  (¬rch m i->¬ovr B n m i->∃w,(bX n v.length i).foldl (aJ B) ⟨m,v,false⟩=⟨eff m i,v++w,false⟩/\w.length=(bX n v.length i).length/\(i.op=11\/i.op=12->w=[((m.regs).getD (i.d).toNat default),((m.regs).getD (i.a).toNat default)])/\(i.op=13->w=[((m.regs).getD (i.a).toNat default)])):=by
 obtain⟨⟨H,D⟩,⟨E,C⟩,⟨G,I⟩,f,_,z,F,y,u,l,q,s⟩:=r;have k:=hm.rw.at i.a;have a:i.op≠9->i.op≠10->¬rch m i:=λh g x=>x.1.elim h g
 have no:i.op≠10->¬ovr B n m i:=λh x=>h x.1
 rcases(by omega:i.op=1\/i.op=2\/(3<=i.op/\i.op<=7)\/i.op=8\/i.op=9\/i.op=10\/(i.op=11\/i.op=12)\/i.op=13\/i.op=14\/i.op=15)with c | c | c | c | c | c | c | c | c | c
 .refine⟨λh=>absurd h (a ah ah),λ_ h=>absurd h (no ah),λ_ _=>⟨[i.k,0],?_,?_,λg=>by omega,λg=>by omega⟩⟩
  .unfold bX eff;rw [if_pos c,if_pos c];simp only [foldl_cons,foldl_nil,st1,st8,append_assoc,cons_append,nil_append,va0];rfl
  .unfold bX;rw [if_pos c];rfl
 .refine⟨λh=>absurd h (a ah ah),λ_ h=>absurd h (no ah),λ_ _=>⟨[((m.regs).getD (i.a).toNat default),0],?_,?_,λg=>by omega,λg=>by omega⟩⟩
  .unfold bX eff;rw [if_neg ah,if_pos c,if_neg ah,if_pos c];simp only [foldl_cons,foldl_nil,st2,st8,append_assoc,cons_append,nil_append,va0];rfl
  .unfold bX;rw [if_neg ah,if_pos c];rfl
 .refine⟨λh=>absurd h (a ah ah),λ_ h=>absurd h (no ah),λ_ _=>⟨[((m.regs).getD (i.a).toNat default),((m.regs).getD (i.k).toNat default),wdo (i.op-2) ((m.regs).getD (i.a).toNat default) ((m.regs).getD (i.k).toNat default),0],?_,?_,λg=>by omega,λg=>by omega⟩⟩
  .unfold bX eff
   iterate 9 rw [if_neg ah]
   iterate 9 rw [if_neg ah]
   simp only [foldl_cons,foldl_nil,st2,st3,st8,append_assoc,cons_append,nil_append,va0,va1,va2];rfl
  .unfold bX
   iterate 9 rw [if_neg ah]
   rfl
 .have wk:=Kw f (u c);refine⟨λh=>absurd h (a ah ah),λ_ h=>absurd h (no ah),λ_ _=>⟨[((m.regs).getD (i.a).toNat default),2^i.k.toNat,wdo 3 ((m.regs).getD (i.a).toNat default) (2^i.k.toNat),0],?_,?_,λg=>by omega,λg=>by omega⟩⟩
  .unfold bX eff;rw [if_neg ah,if_neg ah,if_pos c,if_neg ah,if_neg ah,if_pos c,<-afe k wk];simp only [foldl_cons,foldl_nil,st1,st2,st3,st8,append_assoc,cons_append,nil_append,va0,va1,va2];rfl
  .unfold bX;rw [if_neg ah,if_neg ah,if_pos c];rfl
 .have wk:Wo i.k:=⟨f,by have:=l ah;omega⟩;have e:wdo 1 ((m.regs).getD (i.a).toNat default) i.k=adr m i:=UD k wk;have j:bX n v.length i=[⟨2,0,0,i.a,0⟩,⟨1,0,0,i.k,0⟩,⟨3,v.length,v.length+1,1,0⟩,⟨4,v.length+2,0,0,n⟩,⟨8,v.length+3,0,i.d,0⟩]:=by
   unfold bX;rw [if_neg ah,if_neg ah,if_neg ah,if_pos c]
  have d:((v++ [((m.regs).getD (i.a).toNat default),i.k,adr m i]).getD ((v.length:Int)+2).toNat default)=adr m i:=va2 _ _;rw [j];refine⟨λh=> ?_,λ_ h=>absurd h (no ah),λh _=>⟨[((m.regs).getD (i.a).toNat default),i.k,adr m i,((m.mem).getD (adr m i).toNat default),0],?_,rfl,λg=>by omega,λg=>by omega⟩⟩
  .simp only [foldl_cons,st1,st2,st3,append_assoc,cons_append,nil_append,va0,va1];simp only [gd0,gd1];rw [e,aqu _ _ _ _ _ (by rw [d];exact h.2),aqx,foldl_nil];exact⟨rfl,rfl⟩
  .have h2:¬64<=adr m i:=λg=>h ⟨Or.inl c,g⟩
   simp only [foldl_cons,foldl_nil,st1,st2,st3,append_assoc,cons_append,nil_append,va0,va1];simp only [gd0,gd1];rw [e,st4 _ _ _ _ _ (by rw [d];exact h2),d,st8];unfold eff;rw [if_neg ah,if_neg ah,if_neg ah,if_pos c];simp only [append_assoc,cons_append,nil_append,va3];rfl
 .have wk:Wo i.k:=⟨f,by have:=l ah;omega⟩;have e:wdo 1 ((m.regs).getD (i.a).toNat default) i.k=adr m i:=UD k wk;have j:bX n v.length i=[⟨2,0,0,i.a,0⟩,⟨1,0,0,i.k,0⟩,⟨3,v.length,v.length+1,1,0⟩,⟨2,0,0,i.d,0⟩,⟨5,v.length+2,v.length+3,0,n⟩]:=by
   unfold bX;rw [if_neg ah,if_neg ah,if_neg ah,if_neg ah,if_pos c]
  have b:((v++ [((m.regs).getD (i.a).toNat default),i.k,adr m i,((m.regs).getD (i.d).toNat default)]).getD ((v.length:Int)+2).toNat default)=adr m i:=va2 _ _;have d:((v++ [((m.regs).getD (i.a).toNat default),i.k,adr m i,((m.regs).getD (i.d).toNat default)]).getD ((v.length:Int)+3).toNat default)=((m.regs).getD (i.d).toNat default):=va3 _ _;have p:eff m i={m with mem:=m.mem.set (adr m i).toNat ((m.regs).getD (i.d).toNat default)}:=by
   unfold eff;rw [if_neg ah,if_neg ah,if_neg ah,if_neg ah,if_pos c]
  have t: [⟨2,0,0,i.a,0⟩,⟨1,0,0,i.k,0⟩,⟨3,(v.length:Int),v.length+1,1,0⟩,⟨2,0,0,i.d,0⟩,⟨5,(v.length:Int)+2,v.length+3,0,n⟩].foldl (aJ B) ⟨m,v,false⟩=aJ B ⟨m,v++ [((m.regs).getD (i.a).toNat default),i.k,adr m i,((m.regs).getD (i.d).toNat default)],false⟩ ⟨5,(v.length:Int)+2,v.length+3,0,n⟩:=by
   simp only [foldl_cons,foldl_nil,st1,st2,st3,append_assoc,cons_append,nil_append,va0,va1];simp only [gd0,gd1];rw [e]
  rw [j,t,p];refine⟨λh=> ?_,λh o=> ?_,λh o=>⟨[((m.regs).getD (i.a).toNat default),i.k,adr m i,((m.regs).getD (i.d).toNat default),0],?_,rfl,λg=>by omega,λg=>by omega⟩⟩
  .rw [aqv _ _ _ _ _ _ (by rw [b];exact h.2)];exact⟨rfl,rfl⟩
  .have h2:¬64<=adr m i:=λg=>h ⟨Or.inr c,g⟩
   rw [aqw _ _ _ _ _ _ (by rw [b];exact h2) (by rw [b];exact o.2),b,d];exact⟨rfl,rfl⟩
  .have h2:¬64<=adr m i:=λg=>h ⟨Or.inr c,g⟩
   rw [st5 _ _ _ _ _ _ (by rw [b];exact h2) (by rw [b];exact λg=>o ⟨c,g⟩),b,d,append_assoc];rfl
 .refine⟨λh=>absurd h (a ah ah),λ_ h=>absurd h (no ah),λ_ _=>⟨[((m.regs).getD (i.d).toNat default),((m.regs).getD (i.a).toNat default)],?_,?_,λg=>rfl,λg=>by omega⟩⟩
  .unfold bX eff
   iterate 7 rw [if_neg ah]
   rw [if_pos c]
   iterate 8 rw [if_neg ah]
   rw [if_pos ah];simp only [foldl_cons,foldl_nil,st2,append_assoc,cons_append,nil_append]
  .unfold bX
   iterate 7 rw [if_neg ah]
   rw [if_pos c];rfl
 .refine⟨λh=>absurd h (a ah ah),λ_ h=>absurd h (no ah),λ_ _=>⟨[((m.regs).getD (i.a).toNat default)],?_,?_,λg=>by omega,λg=>rfl⟩⟩
  .unfold bX eff
   iterate 8 rw [if_neg ah]
   rw [if_pos c]
   iterate 8 rw [if_neg ah]
   rw [if_pos ah];simp only [foldl_cons,foldl_nil,st2]
  .unfold bX
   iterate 8 rw [if_neg ah]
   rw [if_pos c];rfl
 .refine⟨λh=>absurd h (a ah ah),λ_ h=>absurd h (no ah),λ_ _=>⟨[((m.regs).getD (i.d).toNat default),0],?_,?_,λg=>by omega,λg=>by omega⟩⟩
  .unfold bX eff
   iterate 5 rw [if_neg ah]
   rw [if_pos c]
   iterate 5 rw [if_neg ah]
   rw [if_pos c];simp only [foldl_cons,foldl_nil,st2,st7,append_assoc,cons_append,nil_append,va0];rfl
  .unfold bX
   iterate 5 rw [if_neg ah]
   rw [if_pos c];rfl
 .refine⟨λh=>absurd h (a ah ah),λ_ h=>absurd h (no ah),λ_ _=>⟨[m.ins.getD 0 default,0],?_,?_,λg=>by omega,λg=>by omega⟩⟩
  .unfold bX eff
   iterate 6 rw [if_neg ah]
   rw [if_pos c]
   iterate 6 rw [if_neg ah]
   rw [if_pos c];simp only [foldl_cons,foldl_nil,st6,st8,append_assoc,cons_append,nil_append,va0];rfl
  .unfold bX
   iterate 6 rw [if_neg ah]
   rw [if_pos c];rfl
end Go.TX.F
namespace Go.TX.F
open Go Go.AE Go.TX List
def MSh(m:aC):Prop:=m.regs.length<1000000000/\m.mem.length<1000000000/\m.ins.length<1000000000/\m.outs.length<1000000000
abbrev m10(m:aC):Bp:=(m.pc,m.save,m.aO,m.waits,m.halt,m.count,m.regs,m.mem,m.ins,m.outs,())
abbrev mB(m:aC):bn:=(m.pc,m.save,m.aO,m.waits,m.halt,m.ins,m.count,m.regs,m.mem,m.outs,())
def MRB:(∀m:aC,iW .aj 0 .i64 m=m.regs)/\(∀m:aC,bR .aj 1 m=m.pc)/\(∀m:aC,iW .aj 2 .i64 m=m.mem)/\(∀m:aC,bR .aj 3 m=m.save)/\(∀m:aC,JG .aj 4 m=m.aO)/\(∀m:aC,JG .aj 5 m=m.waits)/\(∀m:aC,bR .aj 6 m=m.halt)/\(∀m:aC,iW .aj 7 .i64 m=m.ins)/\(∀m:aC,iW .aj 8 .i64 m=m.outs)/\(∀m:aC,bR .aj 9 m=m.count):=
 ⟨λ_=>rfl,λ_=>rfl,λ_=>rfl,λ_=>rfl,λ_=>rfl,λ_=>rfl,λ_=>rfl,λ_=>rfl,λ_=>rfl,λ_=>rfl⟩
def wF{a b c:Int}:inB a b c=bp (b<=a/\a<=c):=by rw [fT];simp only [inB,mD]
abbrev akh(b:eu->Bool)(a:eu->fA):Prop:=∀l,l.length<1000000000->b (l,())=true/\a (l,())=(bp (Wos l),())
def aop{p1 f1 p2 f2 p3 f3}(c:Y9 p1 f1)(f:Y1 p2 f2)(a:akh p3 f3)(m:aC)(h:MSh m):Zv.F (p1,f1,p2,f2,p3,f3,()) (m,()) (λy=>y=(bp (MOK m),())):=by
 obtain⟨d,e,g,b⟩:=h;dsimp only [Zv,gm];simp (disch:=omega) only [RR,MRB,c,f,a _ d,a _ e,a _ g,a _ b,wF,mD];simp only [<-fT];refine Prod.ext (iF ⟨λh=> ?_,λh=> ?_⟩) rfl
 .obtain⟨⟨⟨⟨⟨⟨⟨⟨⟨h1,h2⟩,h3⟩,h4⟩,h5⟩,h6⟩,h7⟩,h8⟩,h9⟩,h10⟩:=h;exact⟨ah,h3,ah,h4,h5,h6,h7,h8,h9,h10⟩
 .exact⟨⟨⟨⟨⟨⟨⟨⟨⟨by have:=h.r4;omega,by have:=h.m64;omega⟩,h.rw⟩,h.mw⟩,h.pc⟩,h.sv⟩,h.iw⟩,h.ow⟩,h.ha⟩,h.ct⟩
abbrev aoq(b:eu->Bool)(a:eu->eu):Prop:=∀l,l.length<=1073741824->b (l,())=true/\a (l,())=(l,())
def aor{p1 f1}(a:aoq p1 f1)(m:aC)(h:MSh m):aau.F (p1,f1,()) (m,()) (λy=>y=m10 m):=by
 obtain⟨c,d,e,b⟩:=h;dsimp only [aau,gm];simp (disch:=omega) only [RR,MRB,a m.regs ah,a m.mem ah,a m.ins ah,a m.outs ah]
def aos(f c:Int)(lt g:Bool)(b:Int)(ins:List Int)(d:Int)(regs mem a:List Int)(h:ins.length<1000000000):aaz.F () (f,c,lt,g,b,ins,d,regs,mem,a,()) (λy=>y=(ins.getD 0 default,f,c,lt,g,b,ins.drop 1,d,regs,mem,a,())):=by
 dsimp only [aaz,gm];simp (disch:=omega) only [RR];refine⟨λe=> ?_,λe=> ?_⟩
 .have:ins=[]:=eq_nil_of_length_eq_zero ah;subst this;rfl
 .exact⟨ah,ah,ah,ah,ah,by rw [take_of_length_le ah];rfl⟩
def aki{p1 f1}(c:Y32 p1 f1)(a b:aC)(h:MSh a):RA.F (p1,f1,()) (a,b,()) (λy=>y=(bp (a=b),())):=by
 obtain⟨e,f,g,d⟩:=h;dsimp only [RA,gm];simp (disch:=omega) only [RR,MRB,c _ b.regs e,c _ b.mem f,c _ b.ins g,c _ b.outs d,mD];refine Prod.ext ?_ rfl;have i:∀x y:Bool,(x==y)=bp (x=y):=λx y=>by cases x<;>cases y<;>simp [bp]
 simp only [i,<-fT];refine iF ?_;cases a;cases b;simp only [aC.mk.injEq];constructor<;>(intro h;simp only [h,and_self])
variable{l:List Int}{s:MS}{b:Blk}{a:aC}{i:Nat}
def Wos.set(h:Wos l){n:Int}(w:Wo n)(i:Nat):Wos (l.set i n):=λx a=>(mem_or_eq_of_mem_set a).elim (h x) (λe=>e▸w)
def Wos.drop(h:Wos l)(i:Nat):Wos (l.drop i):=λx a=>h x (mem_of_mem_drop a)
def Wos.snoc(h:Wos l){n:Int}(w:Wo n):Wos (l++ [n]):=λx a=>by
 rw [mem_append,mem_singleton]at a;exact a.elim (h x) (λe=>e▸w)
def wo0:Wo 0:=⟨by decide,by decide⟩
def abG(h:Wos s.vals)(o:IOp):Wo (vx s o):=by
 unfold vx;split
 .exact h.at _
 .exact wo0
def agL(h:Wos s.vals)(o:IOp):Wo (vy s o):=by
 unfold vy;split
 .exact h.at _
 .exact wo0
def Wos.hd(h:Wos l):Wo (l.getD 0 default):=h.at 0
def abH{o:IOp}(h:Wos s.vals)(k:MOK s.m)(a:o.kind=1->0<=o.k/\o.k<=65535):Wo (mV s o):=by
 unfold mV;split
 .exact a ‹_›
 split
 .exact k.rw.at _
 split
 .exact Am _ _ _
 split
 .exact k.mw.at _
 split
 .exact k.iw.hd
 .exact wo0
def abI(h:Wos s.vals)(k:MOK s.m)(o:IOp):MOK (mM s o):=by
 unfold mM;split
 .exact {k with m64:=by rw [length_set];exact k.m64,mw:=k.mw.set (agL h o) _}
 split
 .exact {k with iw:=k.iw.drop 1}
 split
 .exact {k with ow:=k.ow.snoc (abG h o)}
 split
 .exact {k with r4:=by rw [length_set];exact k.r4,rw:=k.rw.set (abG h o) _}
 .exact k
def abJ(s:MS)(o:IOp):(mM s o).ins.length<=s.m.ins.length/\(mM s o).outs.length<=s.m.outs.length+1/\(mM s o).regs.length=s.m.regs.length/\(mM s o).mem.length=s.m.mem.length:=by
 unfold mM;split
 .exact⟨Nat.le_refl _,Nat.le_succ _,rfl,length_set⟩
 split
 .exact⟨by rw [length_drop];omega,Nat.le_succ _,rfl,rfl⟩
 split
 .exact⟨Nat.le_refl _,by rw [length_append];exact Nat.le_refl _,rfl,rfl⟩
 split
 .exact⟨Nat.le_refl _,Nat.le_succ _,length_set,rfl⟩
 .exact⟨Nat.le_refl _,Nat.le_succ _,rfl,rfl⟩
def aot(b:Blk)(s:MS)(o:IOp):(aJ b s o).m.ins.length<=s.m.ins.length/\(aJ b s o).m.outs.length<=s.m.outs.length+1/\(aJ b s o).m.regs.length=s.m.regs.length/\(aJ b s o).m.mem.length=s.m.mem.length:=by
 unfold aJ;split
 .exact⟨Nat.le_refl _,Nat.le_succ _,rfl,rfl⟩
 split
 .exact⟨Nat.le_refl _,Nat.le_succ _,rfl,rfl⟩
 split
 .exact abJ s o
 .exact abJ s o
def Kz(b:Blk):∀(l:List IOp) (s:MS),(l.foldl (aJ b) s).m.ins.length<=s.m.ins.length/\(l.foldl (aJ b) s).m.outs.length<=s.m.outs.length+l.length/\(l.foldl (aJ b) s).m.regs.length=s.m.regs.length/\(l.foldl (aJ b) s).m.mem.length=s.m.mem.length
 | [],s=>⟨Nat.le_refl _,Nat.le_refl _,rfl,rfl⟩
 | o::l,s=>by
  rw [foldl_cons];have h:=Kz b l (aJ b s o);have k:=aot b s o;simp only [length_cons];exact⟨ah,ah,ah,ah⟩
theorem UE{m:aC}(a:dK b)(c:MSh m)(e:m.outs.length<900000000):MSh (oV b (b.ops.foldl (aJ b) ⟨m,[],false⟩)):=by
 have h:=Kz b b.ops ⟨m,[],false⟩;have d:=a.sz;obtain⟨j,i,f,g⟩:=c;dsimp only at h;unfold oV;split<;>refine⟨?_,?_,?_,?_⟩<;>(try dsimp only)<;>omega
def SM(b:Blk)(a:aC)(i:Nat):MS:=(b.ops.take i).foldl (aJ b) ⟨a,[],false⟩
structure RJ(b:Blk)(m0:aC)(i:Nat)(S:MS):Prop where
 e:S=SM b m0 i
 lf:S.left=false
 ln:S.vals.length=i
 wv:Wos S.vals
 ok:MOK S.m
 li:S.m.ins.length<1000000000
 lo:S.m.outs.length<=m0.outs.length+i
def UF(c:i<b.ops.length):SM b a (i+1)=aJ b (SM b a i) (b.ops.getD i default):=by
 unfold SM;rw [take_succ_eq_append_getElem c,foldl_append,getD_lt c];rfl
def aff{m:aC}{v:List Int}(h:SM b a i=⟨m,v,true⟩):b.ops.foldl (aJ b) ⟨a,[],false⟩=⟨m,v,true⟩:=by
 conv=>lhs;rw [<-take_append_drop i b.ops]
 rw [foldl_append,show(b.ops.take i).foldl (aJ b) ⟨a,[],false⟩=_ from h];exact Ky b m v _
def RJ.next{S:MS}{o:IOp}(h:RJ b a i S)(f:i<b.ops.length)(e:b.ops.getD i default=o)(c:o.kind=1->0<=o.k/\o.k<=65535)
  (g:¬((o.kind=4\/o.kind=5)/\64<=vx S o)) (d:¬(o.kind=5/\b.pc+o.at_+1<=vx S o/\vx S o<=b.pc+b.len-1)):RJ b a (i+1) ⟨mM S o,S.vals++ [mV S o],false⟩:=by
 have l:=abJ S o;refine⟨?_,rfl,by rw [length_append,h.ln];rfl,h.wv.snoc (abH h.wv h.ok c),abI h.wv h.ok o,by have:=h.li;dsimp only;omega,by have:=h.lo;dsimp only;omega⟩;rw [UF f,<-h.e,e];unfold aJ;rw [if_neg (by rw [h.lf];decide),if_neg g,if_neg d]
def akj{i n:Nat}(a:l.length=i)(b:i<n)(v:Int):(l++replicate (n-i) 0).set i v=(l++ [v])++replicate (n- (i+1)) 0:=by
 rw [set_append_right _ _ ah,a,Nat.sub_self,show n-i=(n- (i+1))+1 by omega,replicate_succ,set_cons_zero,append_assoc];rfl
def afg{i n:Nat}(a:i<n):l++replicate (n-i) 0=(l++ [0])++replicate (n- (i+1)) 0:=by
 rw [show n-i=(n- (i+1))+1 by omega,replicate_succ,append_assoc];rfl
def aou{i n:Nat}{x:Int}(a:l.length=i)(b:0<=x)(h:x<i):((l++replicate (n-i) 0).getD (x).toNat default)=((l).getD (x).toNat default):=by
 rw [getD_eq_getElem?_getD,getElem?_append_left ah,<-getD_eq_getElem?_getD]
def akk{i n:Nat}(a:l.length=i)(h:i<=n):(l++replicate (n-i) 0).length=n:=by
 rw [length_append,length_replicate];omega
end Go.TX.F
namespace Go.TX.F
open Go Go.AE Go.TX List
def Sb(a b:Int):wE 1 a b=(inB a 0 65535&&inB b 0 65535&&decide (a=b)):=by unfold wE;simp
def Sc(a b:Int):wE 2 a b=(inB a 0 65535&&inB b 0 65535&&decide (a<b)):=by unfold wE;simp
def RT(b:Blk)(a:aC)(y:List IOp×Int×Int×Int×Int×Bool×Bool×Int×List Int×Int×List Int×List Int×Blk×ql):Prop:=
 ∃(i:Nat) (S:MS),i<=b.ops.length/\RJ b a i S/\y=(b.ops,(b.ops.length:Int),(i:Int),S.m.pc,S.m.save,S.m.aO,S.m.waits,S.m.halt,S.m.ins,S.m.count,S.m.regs,S.m.mem,b,S.vals++replicate (b.ops.length-i) 0,S.m.outs,())
abbrev aqy(h:bn->Bool)(g:bn->Int×bn):Prop:=∀(d c:Int) (lt e:Bool) (b:Int) (ins:List Int) (f:Int) (regs mem a:List Int),ins.length<1000000000->h (d,c,lt,e,b,ins,f,regs,mem,a,())=true/\g (d,c,lt,e,b,ins,f,regs,mem,a,())=(ins.getD 0 default,d,c,lt,e,b,ins.drop 1,f,regs,mem,a,())
abbrev WK(b:He->Bool)(a:He->Bp):Prop:=∀m,MSh m->b (m,())=true/\a (m,())=m10 m
abbrev KA(b:He->Bool)(a:He->fA):Prop:=∀m,MSh m->b (m,())=true/\a (m,())=(bp (MOK m),())
def aov{n:Int}(b:0<=n)(a:n<=15):(sJ.getD n.toNat default).d=decide (n≠0/\n≠13)/\(sJ.getD n.toNat default).a=decide (n≠0/\n≠1/\n≠14/\n≠15)/\
  (sJ.getD n.toNat default).most=(if n=0 then 3 else if n=1 then 255 else if n=2 then 0 else if n<=7 then 3 else if n=8 then 15 else if n<=12 then 255 else 0):=by
 rcases(by omega:n=0\/n=1\/n=2\/n=3\/n=4\/n=5\/n=6\/n=7\/n=8\/n=9\/n=10\/n=11\/n=12\/n=13\/n=14\/n=15)with h | h | h | h | h | h | h | h | h | h | h | h | h | h | h | h<;>subst h<;>exact⟨rfl,rfl,rfl⟩
theorem akl:(sJ.length:Int)=16:=rfl
theorem aow{p1 f1 p2 f2}(n:Y1 p1 f1)(m:Y17 p2 f2)(i:Ins):ZE.F (p1,f1,p2,f2,()) (i,()) (λy=>y=(bp (bf i),())):=by
 have a:(∀i:Ins,bR .ins 0 i=i.op)/\(∀i:Ins,bR .ins 1 i=i.d)/\(∀i:Ins,bR .ins 2 i=i.a)/\(∀i:Ins,bR .ins 3 i=i.k)/\(∀f:Form,JG .form 0 f=f.d)/\(∀f:Form,JG .form 1 f=f.a)/\(∀f:Form,bR .form 2 f=f.most):=⟨λ_=>rfl,λ_=>rfl,λ_=>rfl,λ_=>rfl,λ_=>rfl,λ_=>rfl,λ_=>rfl⟩;have e:TN .form=sJ:=rfl;dsimp only [ZE,gm];simp (disch:=omega) only [RR,a,n,m,e,akl,dU,oP];refine⟨λh=>by rw [bJ (λg=>h ⟨g.1.1,g.1.2⟩)],λh=> ?_⟩;obtain⟨b,c,d⟩:=aov h.1 h.2;rw [b,c,d];refine⟨h.1,ah,Prod.ext ?_ rfl⟩;simp only [wF,mD];have l:∀P Q:Prop,(bp P || bp Q)=bp (P\/Q):=λP Q=>by by_cases k:P<;>by_cases j:Q<;>simp [bp,k,j]
 simp only [l,<-fT];refine iF ?_;unfold bf;obtain⟨o,p⟩:=h;rcases(by omega:i.op=0\/i.op=1\/i.op=2\/(3<=i.op/\i.op<=7)\/i.op=8\/(9<=i.op/\i.op<=12)\/i.op=13\/i.op=14\/i.op=15)with h | h | h | h | h | h | h | h | h
 all_goals (constructor<;>intro g<;>(repeat' split at g)<;>(repeat' split)<;>omega)
def aox{p1 f1}(b:Y1 p1 f1)(a:Int):ZB.F (p1,f1,()) (a,()) (λy=>y=(inB a 11 13,())):=by
 dsimp only [ZB,gm];simp (disch:=omega) only [RR,b]
abbrev akm(c:eB->Bool)(b:eB->fA):Prop:=∀a,c (a,())=true/\b (a,())=(inB a 11 13,())
abbrev WL(b:ark->Bool)(a:ark->fA):Prop:=∀i,b (i,())=true/\a (i,())=(bp (bf i),())
theorem aqz{p1 f1 p2 f2 p3 f3}(o:akm p1 f1)(d:WL p2 f2)(t:Y1 p3 f3)(k:Int)(l:List Ins)(x:l.length<1000000000):aiB.F (p1,f1,p2,f2,p3,f3,()) (k,l,()) (λy=>y=(bp (nK k l),())):=by
 have p:∀i:Ins,bR .ins 0 i=i.op:=λ_=>rfl
 dsimp only [aiB,gm];simp (disch:=omega) only [RR,p,o,d,t,dU,oP];refine⟨λh=> ?_,λh=> ?_⟩
 .rw [bJ];intro g;have a:=g.ln;have c:=g.pc;omega
 refine ay (λ(y:List Ins×List Ins×oz)=>y.1=l/\y.2.1=l/\y.2.2.1=l.length/\0<=y.2.2.2.1/\y.2.2.2.1<=l.length/\∀j:Nat,j<y.2.2.2.1->bf (l.getD j default)/\(l.getD j default).op≠0/\(11<=(l.getD j default).op/\(l.getD j default).op<=13->j+1=l.length)) (λy=>(l.length-y.2.2.2.1).toNat) ⟨rfl,rfl,rfl,by simp,by simp,λj b=>absurd b (by dsimp only;omega)⟩ ?_;rintro⟨(z:List Ins),(A:List Ins),(n:Int),(i:Int),⟨⟩⟩ hI;dsimp only at hI ⊢;obtain⟨rfl,rfl,rfl,r,w,f⟩:=hI;simp (disch:=omega) only [RR,p,o,d,dU,oP,aX,lS];refine⟨λg=>⟨r,g,λe=> ?_,λe=>⟨⟨ah,ah,λj b=> ?_⟩,ah⟩⟩,λg=> ?_⟩
 .rw [bJ];intro v;have:=v.ok i.toNat ah;rcases e with(e | e) | e
  .exact e this.1
  .exact this.2.1 e
  .have:=this.2.2 e.1;omega
 .by_cases c:j<i
  .exact f j c
  .have ej:j=i.toNat:=by omega
   subst ej;obtain⟨⟨u,s⟩,m⟩:=e;refine⟨u,s,λq=> ?_⟩;rw [dU.2 q,Bool.true_and]at m;have:=of_decide_eq_false m;omega
 .rw [aR];exact⟨ah,ah,λj b=>f j ah⟩
theorem akn{p1 f1}(q:Y61 p1 f1)(g x y k n o i l j m a:Int)(f:List IOp)(h:f.length<1000000):Qp.F (p1,f1,()) (g,x,y,k,n,o,i,l,j,m,a,f,()) (λp=>p=((f.length:Int),n,o,i,l,j,m,a,f++ [⟨g,x,y,k,if 4<=g/\g<=7 then a else 0⟩],())):=by
 have mk:∀a b c d e:Int,Co.mk .iop (a,b,c,d,e,())=⟨a,b,c,d,e⟩:=λ_ _ _ _ _=>rfl
 dsimp only [Qp,gm];simp (disch:=omega) only [RR,mk,q,evO,length_cons,length_nil,length_append];refine⟨λc=>⟨ah,?_⟩,λc=>⟨ah,?_⟩⟩
 .rw [if_pos c,show((f.length+(0+1):Nat):Int)-1=f.length by omega]
 .rw [if_neg c,show((f.length+(0+1):Nat):Int)-1=f.length by omega]
abbrev abK(l:U0->Bool)(j:U0->sw):Prop:=∀(c x y k e f g d h i a:Int) (b:List IOp),b.length<1000000->l (c,x,y,k,e,f,g,d,h,i,a,b,())=true/\j (c,x,y,k,e,f,g,d,h,i,a,b,())=((b.length:Int),e,f,g,d,h,i,a,b++ [⟨c,x,y,k,if 4<=c/\c<=7 then a else 0⟩],())
def ako{p1 f1}(j:abK p1 f1)(k d e f c g i a:Int)(b:List IOp)(h:b.length<1000000):Qr.F (p1,f1,()) (k,d,e,f,c,g,i,a,b,()) (λy=>y=((b.length:Int),d,e,f,c,g,i,a,b++ [⟨1,0,0,k,0⟩],())):=by
 dsimp only [Qr,gm];simp (disch:=omega) only [RR,j 1 0 0 k d e f c g i a b h];rfl
def akp{p1 f1}(j:abK p1 f1)(k d e f c g i a:Int)(b:List IOp)(h:b.length<1000000):Qs.F (p1,f1,()) (k,d,e,f,c,g,i,a,b,()) (λy=>y=((b.length:Int),d,e,f,c,g,i,a,b++ [⟨2,0,0,k,0⟩],())):=by
 dsimp only [Qs,gm];simp (disch:=omega) only [RR,j 2 0 0 k d e f c g i a b h];rfl
def akq{p1 f1}(k:abK p1 f1)(d x y e f g c i j a:Int)(b:List IOp)(h:b.length<1000000):Qt.F (p1,f1,()) (d,x,y,e,f,g,c,i,j,a,b,()) (λz=>z=((b.length:Int),e,f,g,c,i,j,a,b++ [⟨3,x,y,d,0⟩],())):=by
 dsimp only [Qt,gm];simp (disch:=omega) only [RR,k 3 x y d e f g c i j a b h];rfl
theorem akr{p1 f1}(k:abK p1 f1)(v:Int)(i:Ins)(d e f c g j a:Int)(b:List IOp)(h:b.length<1000000):Qq.F (p1,f1,()) (v,i,d,e,f,c,g,j,a,b,()) (λy=>y=(i,d,e,f,c,g,j,a,b++ [⟨8,v,0,i.d,0⟩],())):=by
 have l:bR .ins 1 i=i.d:=rfl;dsimp only [Qq,gm];simp (disch:=omega) only [RR,l,k 8 v 0 i.d d e f c g j a b h];rfl
def afh{k:Int}(a:0<=k)(b:k<=15):eX .shl .i64 1 k=2^k.toNat:=by
 have p:=Kw a b;unfold Wo at p;show IntKind.i64.wrap (1*2^ (min k.toNat 64))=_;rw [Nat.min_eq_left ah,Int.one_mul,w64 ah ah]
set_option maxHeartbeats 1000000 in
def aks{p4 f4}{S:Int×Int×sw->Bool}{Q:Int×Int×sw->sw}{O:sw->Bool}{V:sw->sw}{M:Int×Ins×Int×dY->Bool}{X:Int×Ins×Int×dY->Ins×Int×dY}{N:sw->Bool}{T:sw->sw}(w:∀(L x y j d c e f g a:Int) (b:List IOp),b.length<1000000->S (L,x,y,j,d,c,e,f,g,a,b,())=true/\Q (L,x,y,j,d,c,e,f,g,a,b,())=((b.length:Int),j,d,c,e,f,g,a,b++ [⟨3,x,y,L,0⟩],()))(s:∀(k j d c e f g a:Int) (b:List IOp),b.length<1000000->O (k,j,d,c,e,f,g,a,b,())=true/\V (k,j,d,c,e,f,g,a,b,())=((b.length:Int),j,d,c,e,f,g,a,b++ [⟨2,0,0,k,0⟩],()))(r:∀(v:Int) (i:Ins) (j d c e f g a:Int) (b:List IOp),b.length<1000000->M (v,i,j,d,c,e,f,g,a,b,())=true/\X (v,i,j,d,c,e,f,g,a,b,())=(i,j,d,c,e,f,g,a,b++ [⟨8,v,0,i.d,0⟩],()))(u:abK p4 f4)(q:∀(k j d c e f g a:Int) (b:List IOp),b.length<1000000->N (k,j,d,c,e,f,g,a,b,())=true/\T (k,j,d,c,e,f,g,a,b,())=((b.length:Int),j,d,c,e,f,g,a,b++ [⟨1,0,0,k,0⟩],()))(i:Ins)(B:Blk)(a:Int)(h:B.ops.length<900000)(K:i.op=8->0<=i.k/\i.k<=15)(Y:0<=i.op/\i.op<=15):Qu.F (S,Q,O,V,M,X,p4,f4,N,T,()) (i,B.pc,B.len,B.fin,B.x,B.y,B.k,a,B.ops,()) (λy=>y=((dH a B i).pc,(dH a B i).len,(dH a B i).fin,(dH a B i).x,(dH a B i).y,(dH a B i).k,a,(dH a B i).ops,())):=by
 have C:(∀i:Ins,bR .ins 0 i=i.op)/\(∀i:Ins,bR .ins 1 i=i.d)/\(∀i:Ins,bR .ins 2 i=i.a)/\(∀i:Ins,bR .ins 3 i=i.k):=⟨λ_=>rfl,λ_=>rfl,λ_=>rfl,λ_=>rfl⟩;have d:∀n:Int,n+1+1=n+2:=λn=>by omega
 have c:∀n:Int,n+2+1=n+3:=λn=>by omega
 have e:∀n:Int,n-3+1=n-2:=λn=>by omega
 obtain⟨Z,a0⟩:=Y;have z:∀(l:List IOp) (o:IOp),((l++ [o]).length:Int)=l.length+1:=λl o=>by rw [length_append];rfl
 have t:∀(l:List IOp) (o:IOp),l.length<990000->(l++ [o]).length<1000000:=λl o h=>by rw [length_append];simp only [length_cons,length_nil];omega
 have m:∀(l:List IOp) (o D:IOp),l.length<990000->((l++ [o])++ [D]).length<1000000:=λl o D h=>by simp only [length_append,length_cons,length_nil];omega
 have p:∀(l:List IOp) (o D I:IOp),l.length<990000->(((l++ [o])++ [D])++ [I]).length<1000000:=λl o D I h=>by simp only [length_append,length_cons,length_nil];omega
 have A:∀(l:List IOp) (o D I U:IOp),l.length<990000->((((l++ [o])++ [D])++ [I])++ [U]).length<1000000:=λl o D I U h=>by simp only [length_append,length_cons,length_nil];omega
 dsimp only [Qu,gm];unfold dH bX;by_cases W:i.op=1
 .simp (disch:=first | omega | (apply t;omega) | (apply m;omega) | (apply p;omega) | (apply A;omega)) only [RR,C,W,w,s,r,u,q,z,Int.reduceEq,Int.reduceAdd,Int.reduceSub,Int.reduceLE,or_self,true_and,and_true,and_self,false_and,and_false]
  try simp [d,c]
 by_cases R:i.op=2
 .simp (disch:=first | omega | (apply t;omega) | (apply m;omega) | (apply p;omega) | (apply A;omega)) only [RR,C,R,w,s,r,u,q,z,Int.reduceEq,Int.reduceAdd,Int.reduceSub,Int.reduceLE,or_self,true_and,and_true,and_self,false_and,and_false]
  try simp [d,c]
 by_cases J:i.op=8
 .simp (disch:=first | omega | (apply t;omega) | (apply m;omega) | (apply p;omega) | (apply A;omega)) only [RR,C,J,w,s,r,u,q,z,Int.reduceEq,Int.reduceAdd,Int.reduceSub,Int.reduceLE,or_self,true_and,and_true,and_self,false_and,and_false,afh (K J).1 (K J).2,(K J).1]
  try simp [d,c]
 by_cases P:i.op=9
 .simp (disch:=first | omega | (apply t;omega) | (apply m;omega) | (apply p;omega) | (apply A;omega)) only [RR,C,P,w,s,r,u,q,z,Int.reduceEq,Int.reduceAdd,Int.reduceSub,Int.reduceLE,or_self,true_and,and_true,and_self,false_and,and_false]
  try simp [d,c]
 by_cases H:i.op=10
 .simp (disch:=first | omega | (apply t;omega) | (apply m;omega) | (apply p;omega) | (apply A;omega)) only [RR,C,H,w,s,r,u,q,z,Int.reduceEq,Int.reduceAdd,Int.reduceSub,Int.reduceLE,or_self,true_and,and_true,and_self,false_and,and_false]
  try simp [d,c]
 by_cases F:i.op=14
 .simp (disch:=first | omega | (apply t;omega) | (apply m;omega) | (apply p;omega) | (apply A;omega)) only [RR,C,F,w,s,r,u,q,z,Int.reduceEq,Int.reduceAdd,Int.reduceSub,Int.reduceLE,or_self,true_and,and_true,and_self,false_and,and_false]
  try simp [d,c]
 by_cases G:i.op=15
 .simp (disch:=first | omega | (apply t;omega) | (apply m;omega) | (apply p;omega) | (apply A;omega)) only [RR,C,G,w,s,r,u,q,z,Int.reduceEq,Int.reduceAdd,Int.reduceSub,Int.reduceLE,or_self,true_and,and_true,and_self,false_and,and_false]
  try simp [d,c]
 by_cases E:i.op=11
 .simp (disch:=first | omega | (apply t;omega) | (apply m;omega) | (apply p;omega) | (apply A;omega)) only [RR,C,E,w,s,r,u,q,z,Int.reduceEq,Int.reduceAdd,Int.reduceSub,Int.reduceLE,or_self,true_and,and_true,and_self,false_and,and_false]
  try simp [d,c]
 by_cases e12:i.op=12
 .simp (disch:=first | omega | (apply t;omega) | (apply m;omega) | (apply p;omega) | (apply A;omega)) only [RR,C,e12,w,s,r,u,q,z,Int.reduceEq,Int.reduceAdd,Int.reduceSub,Int.reduceLE,or_self,true_and,and_true,and_self,false_and,and_false]
  try simp [d,c]
 by_cases e13:i.op=13
 .simp (disch:=first | omega | (apply t;omega) | (apply m;omega) | (apply p;omega) | (apply A;omega)) only [RR,C,e13,w,s,r,u,q,z,Int.reduceEq,Int.reduceAdd,Int.reduceSub,Int.reduceLE,or_self,true_and,and_true,and_self,false_and,and_false]
  try simp [d,c]
 simp (disch:=first | omega | (apply t;omega) | (apply m;omega) | (apply p;omega) | (apply A;omega)) only [RR,C,W,R,J,P,H,F,G,E,e12,e13,w,s,r,u,q,z,Int.reduceEq,Int.reduceAdd,Int.reduceSub,Int.reduceLE,or_self,true_and,and_true,and_self,false_and,and_false]
 try simp [d,c,e]
def abL(n b:Int)(i:Ins):(bX n b i).length<=5:=by
 unfold bX;repeat' split
 all_goals simp only [length_cons,length_nil]
 all_goals omega
def abM(n:Int)(b:Blk)(i:Ins):(dH n b i).ops.length<=b.ops.length+5:=by
 have:=abL n b.ops.length i;unfold dH;repeat' split
 all_goals (dsimp only;rw [length_append];omega)
def xI:∀(l:List Ins) (n:Int) (b:Blk) (i:Ins),jA n b (l++ [i])=dH (n+l.length) (jA n b l) i
 | [],n,b,i=>by simp [jA]
 | j::l,n,b,i=>by
  show jA (n+1) (dH n b j) (l++ [i])=dH _ (jA (n+1) (dH n b j) l) i;rw [xI l (n+1) (dH n b j) i,length_cons,show n+1+(l.length:Int)=n+((l.length+1:Nat):Int) by omega]
def FK:∀(l:List Ins) (n:Int) (b:Blk),(jA n b l).ops.length<=b.ops.length+5*l.length
 | [],_,_=>Nat.le_refl _
 | i::l,n,b=>by
  show(jA (n+1) (dH n b i) l).ops.length<=_;have:=FK l (n+1) (dH n b i);have:=abM n b i;rw [length_cons];omega
abbrev aoy(c:Int×ny->Bool)(b:Int×ny->fA):Prop:=∀a l,l.length<1000000000->c (a,l,())=true/\b (a,l,())=(bp (nK a l),())
theorem aqA{p1 f1 p2 f2}{j:Ins×Int×dY->Bool}{m:Ins×Int×dY->Int×dY}(u:aoy p1 f1)(s:Y99 p2 f2)(q:∀(i:Ins) (B:Blk) (a:Int),B.ops.length<900000->(i.op=8->0<=i.k/\i.k<=15)->(0<=i.op/\i.op<=15)->j (i,B.pc,B.len,B.fin,B.x,B.y,B.k,a,B.ops,())=true/\m (i,B.pc,B.len,B.fin,B.x,B.y,B.k,a,B.ops,())=((dH a B i).pc,(dH a B i).len,(dH a B i).fin,(dH a B i).x,(dH a B i).y,(dH a B i).k,a,(dH a B i).ops,()))(f:Int)(l:List Ins)(r:l.length<1000000000):aiC.F (p1,f1,p2,f2,j,m,()) (f,l,()) (λy=>y=bk7 (lower f l)):=by
 have mE:∀c:Blk,Co.mk .blk (c.pc,c.len,c.ops,c.fin,c.x,c.y,c.k,())=c:=λ_=>rfl
 dsimp only [aiC,gm,vF];simp (disch:=omega) only [RR,u f l r,aX,lS];unfold lower;refine⟨λh=>by rw [bJ h,if_neg (by decide)];rfl,λh=> ?_⟩;rw [aR h,if_pos rfl];have x:=h.ln;have z:=h.pc;refine ay (λ(y:List Ins×Int×Int×Int×Int×U0)=>y.1=l/\y.2.1=l.length/\0<=y.2.2.1/\y.2.2.1<=l.length/\∃B:Blk,B=jA 0 (qG f l) (l.take y.2.2.1.toNat)/\y.2.2.2.2.2.2.2.2.2.1=B.pc/\y.2.2.2.2.2.2.2.2.2.2.1=B.len/\y.2.2.2.2.2.2.2.2.2.2.2.1=B.fin/\y.2.2.2.2.2.2.2.2.2.2.2.2.1=B.x/\y.2.2.2.2.2.2.2.2.2.2.2.2.2.1=B.y/\y.2.2.2.2.2.2.2.2.2.2.2.2.2.2.1=B.k/\y.2.2.2.2.2.2.2.2.2.2.2.2.2.2.2.2.1=B.ops) (λy=>(l.length-y.2.2.1).toNat) ⟨rfl,rfl,by simp,by simp,_,rfl,rfl,rfl,rfl,rfl,rfl,w64 ah ah,rfl⟩ ?_;rintro⟨(b:List Ins),(n:Int),(i:Int),z1,z2,z3,z4,z5,z6,q1,q2,q3,q4,q5,q6,q7,q8,⟨⟩⟩ hI;dsimp only at hI ⊢;obtain⟨rfl,rfl,k,v,B,g,rfl,rfl,rfl,rfl,rfl,rfl,rfl⟩:=hI;have w:B.ops.length<=40:=by
  have:=FK (b.take i.toNat) 0 (qG f b);rw [<-g]at this;have t:=length_take_le i.toNat b;have:(qG f b).ops.length=0:=rfl;omega
 by_cases c:i<b.length
 .obtain⟨o1,o2,o3⟩:=h.ok i.toNat ah;have p:(((b).getD (i).toNat default)).op=8->0<=(((b).getD (i).toNat default)).k/\(((b).getD (i).toNat default)).k<=15:=λe=>⟨o1.2.2.2.1,o1.2.2.2.2.2.2.2.2.1 e⟩
  have o:=o1.1;simp (disch:=omega) only [RR,c,q (((b).getD (i).toNat default)) B i ah p o];refine⟨k,⟨ah,ah,dH i B (((b).getD (i).toNat default)),?_,rfl,rfl,rfl,rfl,rfl,rfl,rfl⟩,ah⟩;rw [<-dO (d:=default) k c rfl,xI,<-g,length_take,show(0:Int)+((min i.toNat b.length:Nat):Int)=i by omega]
 .rw [take_of_length_le ah]at g;simp (disch:=omega) only [RR,c,mE,s B ah,<-g]
def OKS(ops:List IOp)(len:Int):Prop:=∀j:Int,0<=j->j<ops.length->uI ops len j ((ops).getD (j).toNat default)
theorem aoz{a w:List IOp}{x:Int}(b:0<=x)(h:x<a.length):((a++w).getD (x).toNat default)=((a).getD (x).toNat default):=by
 rw [getD_eq_getElem?_getD,getElem?_append_left ah,<-getD_eq_getElem?_getD]
theorem aoA{a w:List IOp}{t:Nat}:((a++w).getD ((a.length:Int)+t).toNat default)=w.getD t default:=by
 rw [getD_eq_getElem?_getD,getElem?_append_right ah,<-getD_eq_getElem?_getD,show((a.length:Int)+t).toNat-a.length=t by omega]
theorem Vl.mono{d w:List IOp}{x n e:Int}(h:Vl d x n)(f:n<=d.length)(h2:n<=e):Vl (d++w) x e:=by
 obtain⟨a,b,c⟩:=h;exact⟨a,ah,by rw [aoz a ah];exact c⟩
theorem uI.mono{a w:List IOp}{len i:Int}{o:IOp}(h:uI a len i o)(b:i<=a.length):uI (a++w) len i o:=
 {h with x1:=λg=>(h.x1 g).mono b (Int.le_refl _),y1:=λg=>(h.y1 g).mono b (Int.le_refl _)}
theorem OKS.app{a w:List IOp}{len:Int}(h:OKS a len)(d:∀t:Nat,t<w.length->uI (a++w) len ((a.length:Int)+t) (w.getD t default)):OKS (a++w) len:=λj b e=>by
 rw [length_append]at e;by_cases c:j<a.length
 .rw [aoz b c];exact(h j b c).mono ah
 .obtain⟨t,rfl⟩:∃t:Nat,j=(a.length:Int)+t:=⟨(j-a.length).toNat,ah⟩;rw [aoA];exact d t ah
theorem UG(a w:List IOp)(s t:Nat)(h:s<t)(m:mkV (w.getD s default)):Vl (a++w) ((a.length:Int)+s) ((a.length:Int)+t):=⟨ah,ah,by rw [aoA];exact m⟩
section
variable {ops:List IOp} {len i x y k n:Int}
theorem ok1(h:0<=k/\k<=65535):uI ops len i ⟨1,0,0,k,0⟩:=by constructor<;>simp [hX,hY,evO]<;>omega
theorem ok2(h:0<=k/\k<=3):uI ops len i ⟨2,0,0,k,0⟩:=by constructor<;>simp [hX,hY,evO]<;>omega
theorem ok3(h:1<=k/\k<=5)(b:Vl ops x i)(a:Vl ops y i):uI ops len i ⟨3,x,y,k,0⟩:=by constructor<;>simp [hX,hY,evO,b,a]<;>omega
theorem ok4(h:0<=n/\n<len)(a:Vl ops x i):uI ops len i ⟨4,x,0,0,n⟩:=by constructor<;>simp [hX,hY,evO,a]<;>omega
theorem ok5(h:0<=n/\n<len)(b:Vl ops x i)(a:Vl ops y i):uI ops len i ⟨5,x,y,0,n⟩:=by constructor<;>simp [hX,hY,evO,b,a]<;>omega
theorem ok6(h:0<=n/\n<len):uI ops len i ⟨6,0,0,0,n⟩:=by constructor<;>simp [hX,hY,evO]<;>omega
theorem ok7(h:0<=n/\n<len)(a:Vl ops x i):uI ops len i ⟨7,x,0,0,n⟩:=by constructor<;>simp [hX,hY,evO,a]<;>omega
theorem ok8(h:0<=k/\k<=3)(a:Vl ops x i):uI ops len i ⟨8,x,0,k,0⟩:=by constructor<;>simp [hX,hY,evO,a]<;>omega
end
theorem UH{ops:List IOp}{len n:Int}{i:Ins}(h:OKS ops len)(G:bf i)(K:i.op≠0)(hn:0<=n/\n<len):OKS (ops++bX n ops.length i) len/\
  (i.op=11\/i.op=12->Vl (ops++bX n ops.length i) ops.length ((ops++bX n ops.length i).length)/\Vl (ops++bX n ops.length i) (ops.length+1) ((ops++bX n ops.length i).length))/\
  (i.op=13->Vl (ops++bX n ops.length i) ops.length ((ops++bX n ops.length i).length)):=by
 obtain⟨⟨N,L⟩,⟨o,l⟩,⟨p,q⟩,A,_,E,M,D,J,B,F,H⟩:=G;have k:=λ(w:List IOp) (t:Nat) (h:0<t) (m:mkV (w.getD 0 default))=>show Vl (ops++w) (ops.length:Int) ((ops.length:Int)+t)from by have:=UG ops w 0 t h m;rwa [Int.natCast_zero,Int.add_zero]at this
 have s:=λ(w:List IOp) (t:Nat) (h:1<t) (m:mkV (w.getD 1 default))=>UG ops w 1 t h m
 have v:=λ(w:List IOp) (t:Nat) (h:2<t) (m:mkV (w.getD 2 default))=>UG ops w 2 t h m
 have z:=λ(w:List IOp) (t:Nat) (h:3<t) (m:mkV (w.getD 3 default))=>UG ops w 3 t h m
 have x:∀a b c d:Int,mkV ⟨1,a,b,c,d⟩:=λ_ _ _ _=>by unfold mkV;dsimp only;omega
 have j:∀a b c d:Int,mkV ⟨2,a,b,c,d⟩:=λ_ _ _ _=>by unfold mkV;dsimp only;omega
 have u:∀a b c d:Int,mkV ⟨3,a,b,c,d⟩:=λ_ _ _ _=>by unfold mkV;dsimp only;omega
 have I:∀a b c d:Int,mkV ⟨4,a,b,c,d⟩:=λ_ _ _ _=>by unfold mkV;dsimp only;omega
 have C:∀a b c d:Int,mkV ⟨6,a,b,c,d⟩:=λ_ _ _ _=>Or.inr rfl
 rcases(by omega:i.op=1\/i.op=2\/(3<=i.op/\i.op<=7)\/i.op=8\/i.op=9\/i.op=10\/(i.op=11\/i.op=12)\/i.op=13\/i.op=14\/i.op=15)with c | c | c | c | c | c | c | c | c | c
 .have e:bX n ops.length i=[⟨1,0,0,i.k,0⟩,⟨8,ops.length,0,i.d,0⟩]:=by unfold bX;rw [if_pos c]
  rw [e];refine⟨h.app λt f=> ?_,λg=>by omega,λg=>by omega⟩;rcases t with _ | _ | t
  .exact ok1 (by have:=E c;omega)
  .exact ok8 ⟨o,l⟩ (k _ 1 (by decide) (x _ _ _ _))
  .simp only [length_cons,length_nil]at f;omega
 .have e:bX n ops.length i=[⟨2,0,0,i.a,0⟩,⟨8,ops.length,0,i.d,0⟩]:=by unfold bX;rw [if_neg ah,if_pos c]
  rw [e];refine⟨h.app λt f=> ?_,λg=>by omega,λg=>by omega⟩;rcases t with _ | _ | t
  .exact ok2 ⟨p,q⟩
  .exact ok8 ⟨o,l⟩ (k _ 1 (by decide) (j _ _ _ _))
  .simp only [length_cons,length_nil]at f;omega
 .have e:bX n ops.length i=[⟨2,0,0,i.a,0⟩,⟨2,0,0,i.k,0⟩,⟨3,ops.length,ops.length+1,i.op-2,0⟩,⟨8,ops.length+2,0,i.d,0⟩]:=by
   unfold bX
   iterate 9 rw [if_neg ah]
  rw [e];refine⟨h.app λt f=> ?_,λg=>by omega,λg=>by omega⟩;rcases t with _ | _ | _ | _ | t
  .exact ok2 ⟨p,q⟩
  .exact ok2 ⟨A,D c⟩
  .exact ok3 ah (k _ 2 (by decide) (j _ _ _ _)) (s _ 2 (by decide) (j _ _ _ _))
  .exact ok8 ⟨o,l⟩ (v _ 3 (by decide) (u _ _ _ _))
  .simp only [length_cons,length_nil]at f;omega
 .have e:bX n ops.length i=[⟨2,0,0,i.a,0⟩,⟨1,0,0,2^i.k.toNat,0⟩,⟨3,ops.length,ops.length+1,3,0⟩,⟨8,ops.length+2,0,i.d,0⟩]:=by
   unfold bX;rw [if_neg ah,if_neg ah,if_pos c]
  rw [e];refine⟨h.app λt f=> ?_,λg=>by omega,λg=>by omega⟩;rcases t with _ | _ | _ | _ | t
  .exact ok2 ⟨p,q⟩
  .exact ok1 (Kw A (J c))
  .exact ok3 (by decide) (k _ 2 (by decide) (j _ _ _ _)) (s _ 2 (by decide) (x _ _ _ _))
  .exact ok8 ⟨o,l⟩ (v _ 3 (by decide) (u _ _ _ _))
  .simp only [length_cons,length_nil]at f;omega
 .have e:bX n ops.length i=[⟨2,0,0,i.a,0⟩,⟨1,0,0,i.k,0⟩,⟨3,ops.length,ops.length+1,1,0⟩,⟨4,ops.length+2,0,0,n⟩,⟨8,ops.length+3,0,i.d,0⟩]:=by
   unfold bX;rw [if_neg ah,if_neg ah,if_neg ah,if_pos c]
  have r:=B ah;rw [e];refine⟨h.app λt f=> ?_,λg=>by omega,λg=>by omega⟩;rcases t with _ | _ | _ | _ | _ | t
  .exact ok2 ⟨p,q⟩
  .exact ok1 ah
  .exact ok3 (by decide) (k _ 2 (by decide) (j _ _ _ _)) (s _ 2 (by decide) (x _ _ _ _))
  .exact ok4 hn (v _ 3 (by decide) (u _ _ _ _))
  .exact ok8 ⟨o,l⟩ (z _ 4 (by decide) (I _ _ _ _))
  .simp only [length_cons,length_nil]at f;omega
 .have e:bX n ops.length i=[⟨2,0,0,i.a,0⟩,⟨1,0,0,i.k,0⟩,⟨3,ops.length,ops.length+1,1,0⟩,⟨2,0,0,i.d,0⟩,⟨5,ops.length+2,ops.length+3,0,n⟩]:=by
   unfold bX;rw [if_neg ah,if_neg ah,if_neg ah,if_neg ah,if_pos c]
  have r:=B ah;rw [e];refine⟨h.app λt f=> ?_,λg=>by omega,λg=>by omega⟩;rcases t with _ | _ | _ | _ | _ | t
  .exact ok2 ⟨p,q⟩
  .exact ok1 ah
  .exact ok3 (by decide) (k _ 2 (by decide) (j _ _ _ _)) (s _ 2 (by decide) (x _ _ _ _))
  .exact ok2 ⟨o,l⟩
  .exact ok5 hn (v _ 4 (by decide) (u _ _ _ _)) (z _ 4 (by decide) (j _ _ _ _))
  .simp only [length_cons,length_nil]at f;omega
 .have e:bX n ops.length i=[⟨2,0,0,i.d,0⟩,⟨2,0,0,i.a,0⟩]:=by
   unfold bX
   iterate 7 rw [if_neg ah]
   rw [if_pos c]
  have y:∀a b:IOp,(((ops++ [a,b]).length:Nat):Int)=(ops.length:Int)+((2:Nat):Int):=λa b=>by rw [length_append];rfl
  rw [e];refine⟨h.app λt f=> ?_,λg=> ?_,λg=>by omega⟩
  .rcases t with _ | _ | t
   .exact ok2 ⟨o,l⟩
   .exact ok2 ⟨p,q⟩
   .simp only [length_cons,length_nil]at f;omega
  .rw [y];exact⟨k _ 2 (by decide) (j _ _ _ _),s _ 2 (by decide) (j _ _ _ _)⟩
 .have e:bX n ops.length i=[⟨2,0,0,i.a,0⟩]:=by
   unfold bX
   iterate 8 rw [if_neg ah]
   rw [if_pos c]
  have y:∀a:IOp,(((ops++ [a]).length:Nat):Int)=(ops.length:Int)+((1:Nat):Int):=λa=>by rw [length_append];rfl
  rw [e];refine⟨h.app λt f=> ?_,λg=>by omega,λg=> ?_⟩
  .rcases t with _ | t
   .exact ok2 ⟨p,q⟩
   .simp only [length_cons,length_nil]at f;omega
  .rw [y];exact k _ 1 (by decide) (j _ _ _ _)
 .have e:bX n ops.length i=[⟨2,0,0,i.d,0⟩,⟨7,ops.length,0,0,n⟩]:=by
   unfold bX
   iterate 5 rw [if_neg ah]
   rw [if_pos c]
  rw [e];refine⟨h.app λt f=> ?_,λg=>by omega,λg=>by omega⟩;rcases t with _ | _ | t
  .exact ok2 ⟨o,l⟩
  .exact ok7 hn (k _ 1 (by decide) (j _ _ _ _))
  .simp only [length_cons,length_nil]at f;omega
 .have e:bX n ops.length i=[⟨6,0,0,0,n⟩,⟨8,ops.length,0,i.d,0⟩]:=by
   unfold bX
   iterate 6 rw [if_neg ah]
   rw [if_pos c]
  rw [e];refine⟨h.app λt f=> ?_,λg=>by omega,λg=>by omega⟩;rcases t with _ | _ | t
  .exact ok6 hn
  .exact ok8 ⟨o,l⟩ (k _ 1 (by decide) (C _ _ _ _))
  .simp only [length_cons,length_nil]at f;omega
end Go.TX.F
namespace Go.TX.F
open Go Go.AE Go.TX List
variable{l:List Ins}
def Mid(i:Ins):Prop:=bf i/\i.op≠0/\¬(11<=i.op/\i.op<=13)
def abN{n:Int}{b:Blk}{i:Ins}(h:Mid i):dH n b i={b with ops:=b.ops++bX n b.ops.length i}:=by
 obtain⟨_,_,a⟩:=h;unfold dH;rw [if_neg ah,if_neg ah]
def FL:∀(r:List Ins) (n:Int) (b:Blk),(∀i∈r,Mid i)->OKS b.ops b.len->0<=n->n+r.length<=b.len->OKS (jA n b r).ops b.len/\jA n b r={b with ops:=(jA n b r).ops}
 | [],n,b,_,h,_,_=>⟨h,rfl⟩
 | i::r,n,b,hr,h,h0,h1=>by
  have a:=hr i (mem_cons_self ..);simp only [length_cons]at h1;have k:=UH (n:=n) h a.1 a.2.1 ⟨h0,ah⟩;have e:=abN (n:=n) (b:=b) a;show OKS (jA (n+1) (dH n b i) r).ops b.len/\jA (n+1) (dH n b i) r={b with ops:=(jA (n+1) (dH n b i) r).ops};have c:=FL r (n+1) (dH n b i) (λj d=>hr j (mem_cons_of_mem _ d)) (by rw [e];exact k.1) ah (by rw [e];dsimp only;omega);rw [e]at c ⊢;exact c
def wG(n:Int)(b:Blk)(i:Ins):(dH n b i).ops=b.ops++bX n b.ops.length i:=by
 unfold dH;split
 .rfl
 split<;>rfl
def Na:∀(r:List Ins) (n:Int) (b:Blk),∃w,(jA n b r).ops=b.ops++w
 | [],n,b=>⟨[],by rw [append_nil];rfl⟩
 | i::r,n,b=>by
  obtain⟨w,e⟩:=Na r (n+1) (dH n b i);exact⟨bX n b.ops.length i++w,by show(jA (n+1) (dH n b i) r).ops=_;rw [e,wG,append_assoc]⟩
def Jc{pc:Int}(h:nK pc l):∃r i,l=r++ [i]/\(∀j∈r,Mid j)/\bf i/\i.op≠0:=by
 have f:=h.ln;rcases eq_nil_or_concat l with e | ⟨r,i,e⟩
 .subst e;simp at f
 rw [concat_eq_append]at e;subst e;refine⟨r,i,rfl,λj d=> ?_,?_,?_⟩
 .obtain⟨t,ht,rfl⟩:=getElem_of_mem d;have:=h.ok t (by rw [length_append];omega);rw [getD_eq_getElem?_getD,getElem?_append_left ht,getElem?_eq_getElem ht]at this;obtain⟨a,b,c⟩:=this;refine⟨a,b,λg=> ?_⟩;have:=c g;rw [length_append,length_singleton]at this;omega
 .have:=h.ok r.length (by rw [length_append,length_singleton];omega);rw [getD_eq_getElem?_getD,getElem?_append_right (Nat.le_refl _),Nat.sub_self]at this;exact this.1
 .have:=h.ok r.length (by rw [length_append,length_singleton];omega);rw [getD_eq_getElem?_getD,getElem?_append_right (Nat.le_refl _),Nat.sub_self]at this;exact this.2.1
theorem oW{pc:Int}(h:nK pc l):dK (lower pc l):=by
 have D:=h.ln;have B:=h.pc;have o:lower pc l=jA 0 (qG pc l) l:=by unfold lower;rw [aR h,if_pos rfl]
 have w:=FK l 0 (qG pc l);obtain⟨r,i,e,y,m,s⟩:=Jc h;have C:l.length=r.length+1:=by rw [e,length_append,length_singleton]
 have v:OKS (qG pc l).ops (qG pc l).len:=λj p k=>absurd k (by show¬j< ((0:Nat):Int);omega)
 obtain⟨A,f⟩:=FL r 0 (qG pc l) y v ah (by show 0+(r.length:Int)<=(l.length:Int);omega);have b:lower pc l=dH r.length (jA 0 (qG pc l) r) i:=by
  rw [o]
  conv=>lhs;rw [e]
  rw [xI,<-e];simp
 obtain⟨q,z,t⟩:=UH (n:=r.length) A m s ⟨ah,by show(r.length:Int)< (l.length:Int);omega⟩;have x:=wG r.length (jA 0 (qG pc l) r) i;rw [<-o]at w;generalize G:(jA 0 (qG pc l) r).ops=a at*;have z0:(qG pc l).ops.length=0:=rfl;have F:(lower pc l).pc=pc/\(lower pc l).len=l.length:=by
  rw [b,f];unfold dH;split
  .exact⟨rfl,rfl⟩
  split<;>exact⟨rfl,rfl⟩
 have O:(lower pc l).ops=a++bX r.length a.length i:=by rw [b];exact x
 refine⟨by rw [F.2];omega,by rw [F.1,F.2];omega,ah,?_,?_⟩
 .rw [O,F.2];exact λj p k=>q j p k
 .by_cases c:i.op=11\/i.op=12
  .obtain⟨v1,v2⟩:=z c;have E:lower pc l=⟨pc,l.length,a++bX r.length a.length i,i.op-8,a.length,a.length+1,i.k⟩:=by rw [b,f];unfold dH;rw [if_pos c];rfl
   have u:=m.2.2.2.2.2.2.2.2.2.1;rw [E];refine⟨by dsimp only;omega,λ_=>v1,λg=>by dsimp only at g;omega,λ_=>v2,λg=>by dsimp only at g;omega,λ_=> ?_,λg=>by dsimp only at g;omega⟩;have:=m.2.2.2.1;have:=u ah;dsimp only;omega
  by_cases d:i.op=13
  .have v1:=t d;have E:lower pc l=⟨pc,l.length,a++bX r.length a.length i,2,a.length,0,0⟩:=by rw [b,f];unfold dH;rw [if_neg c,if_pos d];rfl
   rw [E];exact⟨by dsimp only;omega,λ_=>v1,λg=>by dsimp only at g;omega,λg=>by dsimp only at g;omega,λ_=>rfl,λg=>absurd rfl g,λ_=>rfl⟩
  .have E:lower pc l=⟨pc,l.length,a++bX r.length a.length i,1,0,0,pc+l.length⟩:=by rw [b,f];unfold dH;rw [if_neg c,if_neg d];rfl
   rw [E];exact⟨by dsimp only;omega,λg=>absurd rfl g,λ_=>rfl,λg=>by dsimp only at g;omega,λ_=>rfl,λ_=>by dsimp only;omega,λg=>by dsimp only at g;omega⟩
end Go.TX.F
namespace Go.TX.F
open Go Go.AE Go.TX List
def Sd{m:aC}(h:MOK m){i:Ins}(e:bf i):MOK (eff m i):=by
 obtain⟨⟨s,n⟩,⟨o,l⟩,⟨r,t⟩,c,k,b,q,g,u,p,d,f⟩:=e;have a:∀(j:Nat) (v:Int),Wo v->MOK {m with regs:=m.regs.set j v}:=λj v w=> {h with r4:=by rw [length_set];exact h.r4,rw:=h.rw.set w j}
 unfold eff;split
 .exact a _ _ ⟨c,by have:=b ‹_›;omega⟩
 split
 .exact a _ _ (h.rw.at _)
 split
 .exact a _ _ (by unfold Wo;omega)
 split
 .exact a _ _ (h.mw.at _)
 split
 .exact {h with m64:=by rw [length_set];exact h.m64,mw:=h.mw.set (h.rw.at _) _}
 split
 .exact {h with ow:=h.ow.snoc (h.rw.at _)}
 split
 .exact {a i.d.toNat (m.ins.getD 0 default) h.iw.hd with iw:=h.iw.drop 1}
 split
 .split
  .exact {h with ha:=⟨show(0:Int)<=1 by decide,show(1:Int)<=4 by decide⟩}
  split
  .exact {h with}
  .exact {h with}
 split
 .exact h
 .exact a _ _ (Am _ _ _)
def xr(pc len:Int):Int->aC->List Ins->aC×Bool
 | _,m,[]=>(m,false)
 | n,m,i::r=>if(i.op=9\/i.op=10)/\64<=adr m i then(leave m n 3,true)else if i.op=10/\pc+n+1<=adr m i/\adr m i<=pc+len-1 then(leave (eff m i) (n+1) m.halt,true)else xr pc len (n+1) (eff m i) r
def Dy(B:Blk){S:MS}(h:S.left=true)(w:List IOp):w.foldl (aJ B) S=S:=by
 obtain⟨m,v,l⟩:=S;dsimp only at h;subst h;exact Ky B m v w
def UJ(B:Blk)(s:MS):∀(r:List Ins) (n:Int) (b:Blk) (m:aC) (v:List Int),(∀i∈r,Mid i)->b.ops.foldl (aJ B) s=⟨m,v,false⟩->v.length=b.ops.length->MOK m->
  ((jA n b r).ops.foldl (aJ B) s).left=(xr B.pc B.len n m r).2/\((jA n b r).ops.foldl (aJ B) s).m=(xr B.pc B.len n m r).1/\
  ((xr B.pc B.len n m r).2=false->((jA n b r).ops.foldl (aJ B) s).vals.length=(jA n b r).ops.length/\MOK (xr B.pc B.len n m r).1)
 | [],n,b,m,v,_,h1,h2,h3=>by
  show(b.ops.foldl (aJ B) s).left=false/\(b.ops.foldl (aJ B) s).m=m/\_;rw [h1];exact⟨rfl,rfl,λ_=>⟨by show(b.ops.foldl (aJ B) s).vals.length=b.ops.length;rw [h1];exact h2,h3⟩⟩
 | i::r,n,b,m,v,hr,h1,h2,h3=>by
  have f:=hr i (mem_cons_self ..);obtain⟨o,k,p⟩:=aoo B n h3 v f.1 f.2.1;have e:(dH n b i).ops.foldl (aJ B) s=(bX n v.length i).foldl (aJ B) ⟨m,v,false⟩:=by rw [wG,foldl_append,h1,h2]
  obtain⟨w,l⟩:=Na r (n+1) (dH n b i);have h:(jA n b (i::r)).ops.foldl (aJ B) s=w.foldl (aJ B) ((bX n v.length i).foldl (aJ B) ⟨m,v,false⟩):=by
   show(jA (n+1) (dH n b i) r).ops.foldl (aJ B) s=_;rw [l,foldl_append,e]
  by_cases a:rch m i
  .obtain⟨q1,q2⟩:=o a;have c:xr B.pc B.len n m (i::r)=(leave m n 3,true):=by show(if _ then _ else _)=_;rw [if_pos (show(i.op=9\/i.op=10)/\64<=adr m i from a)]
   rw [h,Dy B q1,c];exact⟨q1,q2,λg=>by cases g⟩
  by_cases d:ovr B n m i
  .obtain⟨q1,q2⟩:=k a d;have c:xr B.pc B.len n m (i::r)=(leave (eff m i) (n+1) m.halt,true):=by show(if _ then _ else if _ then _ else _)=_;rw [if_neg (show¬((i.op=9\/i.op=10)/\64<=adr m i)from a),if_pos (show i.op=10/\B.pc+n+1<=adr m i/\adr m i<=B.pc+B.len-1 from d)]
   rw [h,Dy B q1,c];exact⟨q1,q2,λg=>by cases g⟩
  .obtain⟨w',q1,q2,_,_⟩:=p a d;have c:xr B.pc B.len n m (i::r)=xr B.pc B.len (n+1) (eff m i) r:=by show(if _ then _ else if _ then _ else _)=_;rw [if_neg (show¬((i.op=9\/i.op=10)/\64<=adr m i)from a),if_neg (show¬(i.op=10/\B.pc+n+1<=adr m i/\adr m i<=B.pc+B.len-1)from d)]
   rw [c];exact UJ B s r (n+1) (dH n b i) (eff m i) (v++w') (λj q=>hr j (mem_cons_of_mem _ q)) (by rw [e,q1]) (by rw [wG,length_append,length_append,q2,h2]) (Sd h3 f.1)
def epc(pc len:Int)(m:aC)(i:Ins):Int:=if i.op=11\/i.op=12 then(if wE (i.op-10) ((m.regs).getD (i.d).toNat default) ((m.regs).getD (i.a).toNat default)=true then i.k else pc+len)else if i.op=13 then((m.regs).getD (i.a).toNat default)else pc+len
theorem afi{pc:Int}{r:List Ins}{i:Ins}{m:aC}(h:nK pc (r++ [i]))(E:∀j∈r,Mid j)(W:bf i)(N:i.op≠0)(hm:MOK m)(g0:m.halt=0)(g1:m.pc=pc)(g2:m.count<=1000000- (r.length+1)):
  fC (lower pc (r++ [i])) m=if(xr pc (r.length+1) 0 m r).2=true then((xr pc (r.length+1) 0 m r).1,true)else
   if(xr pc (r.length+1) r.length (xr pc (r.length+1) 0 m r).1 [i]).2=true then((xr pc (r.length+1) r.length (xr pc (r.length+1) 0 m r).1 [i]).1,true)else
   ({eff (xr pc (r.length+1) 0 m r).1 i with count:=(eff (xr pc (r.length+1) 0 m r).1 i).count+(r.length+1),pc:=epc pc (r.length+1) (xr pc (r.length+1) 0 m r).1 i},true):=by
 have ok:=oW h;have H:(((r++ [i]).length:Nat):Int)=(r.length:Int)+1:=by rw [length_append];rfl
 have u:lower pc (r++ [i])=dH r.length (jA 0 (qG pc (r++ [i])) r) i:=by
  unfold lower;rw [aR h,if_pos rfl,xI];simp
 have O:OKS (qG pc (r++ [i])).ops (qG pc (r++ [i])).len:=λj j0 M=>absurd M (by show¬j< ((0:Nat):Int);omega)
 obtain⟨_,a2⟩:=FL r 0 (qG pc (r++ [i])) E O ah (by show 0+(r.length:Int)<=(((r++ [i]).length:Nat):Int);omega);generalize R:jA 0 (qG pc (r++ [i])) r=L at*;have P:L.pc=pc/\L.len=(r.length:Int)+1/\L.fin=1/\L.x=0/\L.y=0/\L.k=pc+(r.length+1):=by
  rw [a2];exact⟨rfl,H,rfl,rfl,rfl,by show pc+(((r++ [i]).length:Nat):Int)=_;rw [H]⟩
 obtain⟨F,G,T,l4,l5,l6⟩:=P;generalize hB:lower pc (r++ [i])=B at*;have U:B.pc=pc/\B.len=(r.length:Int)+1:=by
  rw [u];unfold dH;split
  .exact⟨F,G⟩
  split<;>exact⟨F,G⟩
 obtain⟨k,n⟩:=U;have S:=UJ B ⟨m,[],false⟩ r 0 (qG pc (r++ [i])) m [] E rfl rfl hm;rw [R,k,n]at S;obtain⟨f,o,Y⟩:=S;have run:fC B m=(oV B (B.ops.foldl (aJ B) ⟨m,[],false⟩),true):=by
  unfold fC;rw [aR ⟨ok,hm⟩,if_pos rfl,if_neg (by rw [k,n];omega)]
 have A:B.ops=L.ops++bX r.length L.ops.length i:=by rw [u];exact wG _ _ _
 rw [run,A,foldl_append];by_cases c:(xr pc (r.length+1) 0 m r).2=true
 .rw [if_pos c,Dy B (by rw [f];exact c)];unfold oV;rw [if_pos (by rw [f];exact c),o]
 have D:(xr pc (r.length+1) 0 m r).2=false:=by simpa using c
 rw [if_neg c];obtain⟨l,K⟩:=Y D;generalize hq:(xr pc (r.length+1) 0 m r).1=q at*;obtain⟨S,hS⟩:∃S,S=L.ops.foldl (aJ B) ⟨m,[],false⟩:=⟨_,rfl⟩;rw [<-hS]at f o l ⊢;obtain⟨x,s,sl⟩:=S;dsimp only at f o l;subst o;rw [D]at f;subst f;rw [<-l];obtain⟨u1,u2,u3⟩:=aoo B r.length K s W N;have t:∀d,xr pc (r.length+1) r.length d [i]=if(i.op=9\/i.op=10)/\64<=adr d i then(leave d r.length 3,true)else if i.op=10/\pc+r.length+1<=adr d i/\adr d i<=pc+(r.length+1)-1 then(leave (eff d i) (r.length+1) d.halt,true)else(eff d i,false):=λ_=>rfl
 by_cases p:rch x i
 .obtain⟨z,I⟩:=u1 p;rw [t,if_pos (show _/\_ from p),if_pos rfl];unfold oV;rw [if_pos z,I]
 by_cases e:ovr B r.length x i
 .unfold ovr at e;rw [k,n]at e;omega
 obtain⟨w,z,I,Q,V⟩:=u3 p e;unfold ovr at e;rw [k,n]at e;rw [t,if_neg (show¬(_/\_)from p),if_neg e,if_neg (show¬(false=true) by decide),z];unfold oV;rw [if_neg (show¬(false=true) by decide)];refine Prod.ext ?_ rfl;have J:B.fin=(if i.op=11\/i.op=12 then i.op-8 else if i.op=13 then 2 else 1)/\(i.op=11\/i.op=12->B.x=L.ops.length/\B.y=L.ops.length+1/\B.k=i.k)/\(i.op=13->B.x=L.ops.length)/\(¬(i.op=11\/i.op=12)->¬i.op=13->B.k=pc+(r.length+1)):=by
  rw [u];unfold dH;by_cases a:i.op=11\/i.op=12
  .rw [if_pos a,if_pos a];exact⟨rfl,λ_=>⟨rfl,rfl,rfl⟩,λg=>by omega,λg=>absurd a g⟩
  by_cases b:i.op=13
  .rw [if_neg a,if_pos b,if_neg a,if_pos b];exact⟨rfl,λg=>absurd g a,λ_=>rfl,λ_ g=>absurd b g⟩
  .rw [if_neg a,if_neg b,if_neg a,if_neg b];exact⟨T,λg=>absurd g a,λg=>absurd g b,λ_ _=>l6⟩
 obtain⟨y,X,f3,Z⟩:=J;dsimp only;rw [k,n];have C:(if B.fin=1 then B.k else if B.fin=2 then((s++w).getD (B.x).toNat default)else if wE (B.fin-2) ((s++w).getD (B.x).toNat default) ((s++w).getD (B.y).toNat default)=true then B.k else pc+(r.length+1))=epc pc (r.length+1) x i:=by
  unfold epc;by_cases a:i.op=11\/i.op=12
  .obtain⟨t,x2,x3⟩:=X a;have v:=Q a;subst v;rw [if_pos a,y,if_pos a,if_neg ah,if_neg ah,t,x2,x3,<-l,va0,va1,show i.op-8-2=i.op-10 by omega];rfl
  by_cases b:i.op=13
  .have v:=V b;subst v;rw [if_neg a,if_pos b,y,if_neg a,if_pos b,if_neg (by decide),if_pos rfl,f3 b,<-l,va0];rfl
  .rw [if_neg a,if_neg b,y,if_neg a,if_neg b,if_pos rfl,Z a b]
 rw [C]
abbrev upd(m:aC)(u v:Int):aC:={m with count:=u,pc:=v}
theorem UK(m:aC)(u v:Int)(i:Ins):eff (upd m u v) i=upd (eff m i) u v:=by
 have a:adr (upd m u v) i=adr m i:=rfl;unfold eff;rw [a];by_cases h:i.op=1
 .rw [if_pos h,if_pos h]
 rw [if_neg h,if_neg h];by_cases k:i.op=2
 .rw [if_pos k,if_pos k]
 rw [if_neg k,if_neg k];by_cases l:i.op=8
 .rw [if_pos l,if_pos l]
 rw [if_neg l,if_neg l];by_cases n:i.op=9
 .rw [if_pos n,if_pos n]
 rw [if_neg n,if_neg n];by_cases e:i.op=10
 .rw [if_pos e,if_pos e]
 rw [if_neg e,if_neg e];by_cases d:i.op=14
 .rw [if_pos d,if_pos d]
 rw [if_neg d,if_neg d];by_cases c:i.op=15
 .rw [if_pos c,if_pos c]
 rw [if_neg c,if_neg c];by_cases g:i.op=0
 .rw [if_pos g,if_pos g];by_cases j:i.k=0
  .rw [if_pos j,if_pos j]
  rw [if_neg j,if_neg j];by_cases f:i.k=1
  .rw [if_pos f,if_pos f]
  rw [if_neg f,if_neg f]
 rw [if_neg g,if_neg g];by_cases b:11<=i.op
 .rw [if_pos b,if_pos b]
 rw [if_neg b,if_neg b]
theorem UL(a len n:Int)(m:aC)(i:Ins)(r:List Ins):xr a len n m (i::r)=if(i.op=9\/i.op=10)/\64<=adr m i then(leave m n 3,true)else if i.op=10/\a+n+1<=adr m i/\adr m i<=a+len-1 then(leave (eff m i) (n+1) m.halt,true)else xr a len (n+1) (eff m i) r:=rfl
def FN{m:aC}{i:Ins}(h:i.op≠0):(eff m i).count=m.count/\(eff m i).pc=m.pc/\(eff m i).halt=m.halt:=by
 unfold eff
 repeat' split
 all_goals first | exact⟨rfl,rfl,rfl⟩ | (exfalso;omega)
def UM{pc len:Int}:∀(a:List Ins) (n:Int) (m:aC),(∀i∈a,bf i/\i.op≠0)->MOK m->(xr pc len n m a).2=false->(xr pc len n m a).1.count=m.count/\(xr pc len n m a).1.pc=m.pc/\(xr pc len n m a).1.halt=m.halt/\MOK (xr pc len n m a).1
 | [],n,m,_,hm,h=>⟨rfl,rfl,rfl,hm⟩
 | i::a,n,m,ha,hm,h=>by
  simp only [UL]at h ⊢;split at h
  .cases h
  split at h
  .cases h
  .rename_i c1 c2;rw [if_neg c1,if_neg c2];have b:=ha i (mem_cons_self ..);obtain⟨c,d,k3,k⟩:=UM a (n+1) (eff m i) (λj g=>ha j (mem_cons_of_mem _ g)) (Sd hm b.1) h;obtain⟨e,l,f⟩:=FN (m:=m) b.2;exact⟨c.trans e,d.trans l,k3.trans f,k⟩
theorem akt(pc len n:Int)(m:aC)(i:Ins):xr pc len n m [i]=if(i.op=9\/i.op=10)/\64<=adr m i then(leave m n 3,true)else if i.op=10/\pc+n+1<=adr m i/\adr m i<=pc+len-1 then(leave (eff m i) (n+1) m.halt,true)else(eff m i,false):=rfl
def aku{pc:Int}{l:List Ins}(h:nK pc l):(lower pc l).pc=pc/\(lower pc l).len=l.length:=by
 have k:∀(a:List Ins) (n:Int) (b:Blk),(jA n b a).pc=b.pc/\(jA n b a).len=b.len:=by
  intro a
  induction a with
  | nil=>exact λ_ _=>⟨rfl,rfl⟩
  | cons i r c=>
   intro n b;have e:(dH n b i).pc=b.pc/\(dH n b i).len=b.len:=by
    unfold dH;split
    .exact⟨rfl,rfl⟩
    split<;>exact⟨rfl,rfl⟩
   exact⟨(c (n+1) (dH n b i)).1.trans e.1,(c (n+1) (dH n b i)).2.trans e.2⟩
 unfold lower;rw [aR h,if_pos rfl];exact k l 0 (qG pc l)
abbrev aoB(c:Int×ny->Bool)(b:Int×ny->dY):Prop:=∀a l,l.length<1000000000->c (a,l,())=true/\b (a,l,())=bk7 (lower a l)
abbrev akv(d:aC×He->Bool)(c:aC×He->fA):Prop:=∀a b,MSh a->d (a,b,())=true/\c (a,b,())=(bp (a=b),())
def akw{p1 f1}(c:Y9 p1 f1)(l:List Int)(h:l.length<1000000000):Pb.F (p1,f1,()) (l,()) (λy=>y=(bp (Wos l),())):=by
 dsimp only [Pb,gm];simp (disch:=omega) only [RR];refine ay (λ(y:fE)=>y.1=l/\0<=y.2.1/\y.2.1<=l.length/\Wos (l.take y.2.1.toNat)) (λy=>(l.length-y.2.1).toNat) ⟨rfl,by simp,by simp,by intro n hn;cases hn⟩ ?_;rintro⟨(l:List Int),(i:Int),⟨⟩⟩ hI;dsimp only at hI ⊢;obtain⟨rfl,b,d,a⟩:=hI;simp (disch:=omega) only [RR,c,dU,oP];refine⟨λg=>⟨b,g,λe=> ?_,λe=>⟨⟨ah,ah,?_⟩,ah⟩⟩,λg=> ?_⟩
 .rw [bJ];intro v;exact e (v _ (gu b g))
 .rw [show(i+1).toNat=i.toNat+1 by omega];intro n hn;rw [take_succ_eq_append_getElem ah,mem_append,mem_singleton]at hn;rcases hn with hn | rfl
  .exact a n hn
  .rw [getD_lt ah]at e;exact e
 .rw [take_of_length_le ah]at a;rw [aR a]
def akx{p1 f1 p2 f2 p3 f3}(c:Y9 p1 f1)(f:Y1 p2 f2)(a:akh p3 f3)(m:aC)(h:MSh m):PG.F (p1,f1,p2,f2,p3,f3,()) (m,()) (λy=>y=(bp (MOK m),())):=by
 obtain⟨d,e,g,b⟩:=h;dsimp only [PG,gm];simp (disch:=omega) only [RR,MRB,c,f,a _ d,a _ e,a _ g,a _ b,wF,mD];simp only [<-fT];refine Prod.ext (iF ⟨λh=> ?_,λh=> ?_⟩) rfl
 .obtain⟨⟨⟨⟨⟨⟨⟨⟨⟨h1,h2⟩,h3⟩,h4⟩,h5⟩,h6⟩,h7⟩,h8⟩,h9⟩,h10⟩:=h;exact⟨ah,h2,ah,h5,h3,h6,h8,h9,h7,h10⟩
 .exact⟨⟨⟨⟨⟨⟨⟨⟨⟨by have:=h.r4;omega,h.rw⟩,h.pc⟩,by have:=h.m64;omega⟩,h.mw⟩,h.sv⟩,h.ha⟩,h.iw⟩,h.ow⟩,h.ct⟩
variable{m:aC}{i:Ins}
def aky(m:aC)(h:MSh m):PI.F () (m,()) (λy=>y=m10 m):=by
 obtain⟨b,c,d,a⟩:=h;dsimp only [PI,gm];simp (disch:=omega) only [RR,MRB,nil_append,length_nil];exact⟨ah,ah,ah,ah⟩
def akz(m:aC)(h:Int):PO.F () (m.pc,m.save,m.aO,m.waits,m.halt,m.ins,m.count,h,m.regs,m.mem,m.outs,()) (λy=>y=mB {m with halt:=h}):=by
 dsimp only [PO,gm]
def akA{p1 f1}(a:Y10 p1 f1)(m:aC)(n:Int)(h:0<=m.count/\m.count<=1000000):PX.F (p1,f1,()) (m.pc,m.save,m.aO,m.waits,m.halt,m.ins,m.count,n,m.regs,m.mem,m.outs,()) (λy=>y=mB {m with pc:=n%65536,count:=m.count+1}):=by
 dsimp only [PX,gm];simp (disch:=omega) only [RR,a]
abbrev abO(b:Int×lT->Bool)(a:Int×lT->bn):Prop:=∀(m:aC) (n:Int),(0<=m.count/\m.count<=1000000)->b (m.pc,m.save,m.aO,m.waits,m.halt,m.ins,m.count,n,m.regs,m.mem,m.outs,())=true/\a (m.pc,m.save,m.aO,m.waits,m.halt,m.ins,m.count,n,m.regs,m.mem,m.outs,())=mB {m with pc:=n%65536,count:=m.count+1}
def akB{p1 f1}(e:abO p1 f1)(m:aC)(d v:Int)(h:MOK m)(b:0<=d)(g:d<=3):PZ.F (p1,f1,()) (m.pc,m.save,m.aO,m.waits,m.halt,m.ins,m.count,d,v,m.regs,m.mem,m.outs,()) (λy=>y=mB {m with regs:=m.regs.set d.toNat v,pc:=(m.pc+1)%65536,count:=m.count+1}):=by
 have a:=h.r4;have c:=h.ct;have f:0<=m.pc/\m.pc<=65535:=h.pc;obtain⟨P,H⟩:=e {m with regs:=m.regs.set d.toNat v} (m.pc+1) c;dsimp only at H P;dsimp only [PZ,gm];simp (disch:=omega) only [RR,H,P,a,b];omega
def dbl(v:Int)(j:Nat):(v*2^j%65536+v*2^j%65536)%65536=v*2^ (j+1)%65536:=by
 rw [Int.pow_succ,<-Int.mul_assoc];omega
def akC{p1 f1}(b:Y10 p1 f1)(v k:Int)(h:Wo v)(c:0<=k)(d:k<=15):P8.F (p1,f1,()) (v,k,()) (λy=>y=(v*2^k.toNat%65536,())):=by
 dsimp only [P8,gm];simp (disch:=omega) only [RR];refine ay (λ(y:ari)=>y.1=k/\0<=y.2.2.1/\y.2.2.1<=k/\y.2.1=v*2^y.2.2.1.toNat%65536) (λy=>(k-y.2.2.1).toNat) ⟨rfl,by simp,c,by have:=h.1;have:=h.2;dsimp only;rw [show Int.toNat 0=0 from rfl,Int.pow_zero];omega⟩ ?_;rintro⟨(z:Int),(a:Int),(i:Int),⟨⟩⟩ hI;dsimp only at hI ⊢;obtain⟨rfl,e,f,rfl⟩:=hI;by_cases g:i<z
 .simp (disch:=omega) only [RR,b,g];exact⟨⟨ah,ah,by rw [show(i+1).toNat=i.toNat+1 by omega];exact dbl v i.toNat⟩,ah⟩
 .simp (disch:=omega) only [RR,b,g];rw [show i=z by omega]
def IR:(∀i:Ins,bR .ins 0 i=i.op)/\(∀i:Ins,bR .ins 1 i=i.d)/\(∀i:Ins,bR .ins 2 i=i.a)/\(∀i:Ins,bR .ins 3 i=i.k):=⟨λ_=>rfl,λ_=>rfl,λ_=>rfl,λ_=>rfl⟩
def Dz{u:aC}(h:exec m i=u):mB u=mB (exec m i):=by rw [h]
def bF(h:¬((i.op=9\/i.op=10)/\64<=adr m i)){u:aC}(e:eff m i=u){n:Int}(f:nxt m i=n):mB {u with pc:=n,count:=m.count+1}=mB (exec m i):=by
 refine Dz ?_;unfold exec;rw [if_neg h,e,f]
def ef0(e:i.op=0):eff m i=(if i.k=0 then {m with halt:=1}else if i.k=1 then {m with aO:=true}else {m with aO:=decide (i.k=2)}):=by
 unfold eff;(iterate 7 rw [if_neg ah]);rw [if_pos e]
def ef1(e:i.op=1):eff m i={m with regs:=m.regs.set i.d.toNat i.k}:=by unfold eff;rw [if_pos e]
def ef2(e:i.op=2):eff m i={m with regs:=m.regs.set i.d.toNat ((m.regs).getD (i.a).toNat default)}:=by unfold eff;rw [if_neg ah,if_pos e]
def ef8(e:i.op=8):eff m i={m with regs:=m.regs.set i.d.toNat (((m.regs).getD (i.a).toNat default)*2^i.k.toNat%65536)}:=by unfold eff;(iterate 2 rw [if_neg ah]);rw [if_pos e]
def ef9(e:i.op=9):eff m i={m with regs:=m.regs.set i.d.toNat ((m.mem).getD (adr m i).toNat default)}:=by unfold eff;(iterate 3 rw [if_neg ah]);rw [if_pos e]
def afj(e:i.op=10):eff m i={m with mem:=m.mem.set (adr m i).toNat ((m.regs).getD (i.d).toNat default)}:=by unfold eff;(iterate 4 rw [if_neg ah]);rw [if_pos e]
def akD(e:i.op=14):eff m i={m with outs:=m.outs++ [((m.regs).getD (i.d).toNat default)]}:=by unfold eff;(iterate 5 rw [if_neg ah]);rw [if_pos e]
def afk(e:i.op=15):eff m i={m with regs:=m.regs.set i.d.toNat (m.ins.getD 0 default),ins:=m.ins.drop 1}:=by unfold eff;(iterate 6 rw [if_neg ah]);rw [if_pos e]
def efj(e:11<=i.op/\i.op<=13):eff m i=m:=by unfold eff;(iterate 8 rw [if_neg ah]);rw [if_pos ah]
def efd(e:3<=i.op/\i.op<=7):eff m i={m with regs:=m.regs.set i.d.toNat (wdo (i.op-2) ((m.regs).getD (i.a).toNat default) ((m.regs).getD (i.k).toNat default))}:=by unfold eff;(iterate 9 rw [if_neg ah])
def nxp(h:(i.op=0->i.k≠1)/\¬(11<=i.op/\i.op<=13)):nxt m i=(m.pc+1)%65536:=by unfold nxt;rw [if_neg (λq=>h.1 q.1 q.2),if_neg (λq=>h.2 ah),if_neg ah]
def n9(h:¬(i.op=9\/i.op=10)):¬((i.op=9\/i.op=10)/\64<=adr m i):=λq=>h q.1
abbrev akE(b:Int×lT->Bool)(a:Int×lT->bn):Prop:=∀(m:aC) (h:Int),b (m.pc,m.save,m.aO,m.waits,m.halt,m.ins,m.count,h,m.regs,m.mem,m.outs,())=true/\a (m.pc,m.save,m.aO,m.waits,m.halt,m.ins,m.count,h,m.regs,m.mem,m.outs,())=mB {m with halt:=h}
abbrev akF(b:arb->Bool)(a:arb->bn):Prop:=∀(m:aC) (d v:Int),MOK m->0<=d->d<=3->b (m.pc,m.save,m.aO,m.waits,m.halt,m.ins,m.count,d,v,m.regs,m.mem,m.outs,())=true/\a (m.pc,m.save,m.aO,m.waits,m.halt,m.ins,m.count,d,v,m.regs,m.mem,m.outs,())=mB {m with regs:=m.regs.set d.toNat v,pc:=(m.pc+1)%65536,count:=m.count+1}
theorem akG{p1 f1 p2 f2 p3 f3 p4 f4}(A:Y10 p1 f1)(t:akE p2 f2)(k:abO p3 f3)(l:akF p4 f4)(m:aC)(i:Ins)(h:MOK m)(x:bf i)(j:i.op=9\/i.op=10):P9.F (p1,f1,p2,f2,p3,f3,p4,f4,()) (m.pc,m.save,m.aO,m.waits,m.halt,m.ins,m.count,i,m.regs,m.mem,m.outs,()) (λy=>y=mB (exec m i)):=by
 obtain⟨_,⟨a,f⟩,⟨z,F⟩,D,_,_,_,_,_,w,_⟩:=x;have C:=w ah;have p:=h.r4;have n:=h.m64;have c:=h.ct;have E:0<=m.pc/\m.pc<=65535:=h.pc;have b:=λmem=>(k {m with mem:=mem} (m.pc+1) c).2
 have d:=λmem=>(k {m with mem:=mem} (m.pc+1) c).1
 dsimp only at b d;have r:=λv=>(l m i.d v h a f).2
 have o:=λv=>(l m i.d v h a f).1
 have G:0<=((m.regs).getD (i.a).toNat default)/\((m.regs).getD (i.a).toNat default)<=65535:=h.rw.at i.a;dsimp only [P9,gm];simp (disch:=omega) only [RR,IR,A,t,b,d,r,o,p,n,a,z,fQ];have s:(((m.regs).getD (i.a).toNat default)+i.k)%65536=adr m i:=rfl;rw [s];have B:0<=adr m i:=by unfold adr;omega
 refine⟨ah,ah,λg=>Dz (by unfold exec;rw [if_pos ⟨j,g⟩]),λg=>⟨λe=>⟨ah,ah,ah,ah,?_⟩,λe=>⟨ah,ah,ah,ah,ah,ah,?_⟩⟩⟩
 .exact bF (u:={m with regs:=m.regs.set i.d.toNat ((m.mem).getD (adr m i).toNat default)}) (λq=>by omega) (ef9 e) (nxp ah)
 .exact bF (u:={m with mem:=m.mem.set (adr m i).toNat ((m.regs).getD (i.d).toNat default)}) (λq=>by omega) (afj (j.resolve_left e)) (nxp ah)
def akH{p1 f1 p2 f2}(s:abO p1 f1)(f:akF p2 f2)(m:aC)(i:Ins)(h:MOK m)(C:bf i)(q:i.op=14\/i.op=15)(hn:m.ins.length<1000000000)(F:m.outs.length<900000000):Qa.F (p1,f1,p2,f2,()) (m.pc,m.save,m.aO,m.waits,m.halt,m.ins,m.count,i,m.regs,m.mem,m.outs,()) (λy=>y=mB (exec m i)):=by
 obtain⟨_,⟨b,d⟩,⟨H,I⟩,E,_⟩:=C;have z:=h.r4;have w:=h.m64;have c:=h.ct;have G:0<=m.pc/\m.pc<=65535:=h.pc;have n:=λo=>(s {m with outs:=o} (m.pc+1) c).2
 have p:=λo=>(s {m with outs:=o} (m.pc+1) c).1
 dsimp only at n p;have mk:∀l:List Int,l=m.ins\/l=m.ins.drop 1->MOK {m with ins:=l}:=λl B=> {h with iw:=by rcases B with rfl | rfl;exact h.iw;exact h.iw.drop 1}
 have A:=λv=>(f m i.d v h b d).2
 have x:=λv=>(f m i.d v h b d).1
 have k:=λv=>(f {m with ins:=m.ins.drop 1} i.d v (mk _ (Or.inr rfl)) b d).2
 have t:=λv=>(f {m with ins:=m.ins.drop 1} i.d v (mk _ (Or.inr rfl)) b d).1
 dsimp only at k t;have D:drop (Int.toNat 1) (take (Int.toNat (m.ins.length:Int)) m.ins)=m.ins.drop 1:=by rw [show Int.toNat (m.ins.length:Int)=m.ins.length by omega,take_of_length_le (Nat.le_refl _)];rfl
 dsimp only [Qa,gm];simp (disch:=omega) only [RR,IR,n,p,A,x,k,t,D,z,w,b,length_cons,length_nil,fQ];have n9:¬((i.op=9\/i.op=10)/\64<=adr m i):=n9 ah;have j:nxt m i=(m.pc+1)%65536:=nxp ah;refine⟨λe=>⟨ah,ah,ah,?_⟩,λe=>⟨λg=>⟨ah,g,ah,ah,ah,?_⟩,λg=> ?_⟩⟩
 .exact bF (u:={m with outs:=m.outs++ [((m.regs).getD (i.d).toNat default)]}) n9 (akD e) j
 .exact bF (u:={m with regs:=m.regs.set i.d.toNat (m.ins.getD 0 default),ins:=m.ins.drop 1}) n9 (afk (q.resolve_left e)) j
 .have e0:m.ins=[]:=by
   cases hm:m.ins with
   | nil=>rfl
   | cons a r=>rw [hm]at g;simp only [length_cons]at g;omega
  have:=bF (u:={m with regs:=m.regs.set i.d.toNat (m.ins.getD 0 default),ins:=m.ins.drop 1}) n9 (afk (q.resolve_left e)) j;rw [e0]at this;rw [<-this,e0];rfl
def akI{p1 f1 p2 f2}(t:akE p1 f1)(d:abO p2 f2)(m:aC)(i:Ins)(h:MOK m)(o:i.op=0):PY.F (p1,f1,p2,f2,()) (m.pc,m.save,m.aO,m.waits,m.halt,m.ins,m.count,i.k,m.regs,m.mem,m.outs,()) (λy=>i.k<=3->0<=i.k->y=mB (exec m i)):=by
 have c:=h.ct;have x:0<=m.pc/\m.pc<=65535:=h.pc;have z:0<=m.save/\m.save<=65535:=h.sv;obtain⟨r,s⟩:=t m 1;have p:=λb n=>(d {m with aO:=b} n c).2
 have l:=λb n=>(d {m with aO:=b} n c).1
 have g:=λn=>(d {m with halt:=1} n c).2
 have j:=λn=>(d {m with halt:=1} n c).1
 dsimp only at p l g j;have n9:¬((i.op=9\/i.op=10)/\64<=adr m i):=n9 ah;have a:=ef0 (m:=m) o;have f:i.k≠1->nxt m i=(m.pc+1)%65536:=λe=>nxp ⟨λ_=>e,ah⟩
 dsimp only [PY,gm];simp (disch:=omega) only [RR,s,r,p,l,g,j];refine⟨λe _ _=> ?_,λe=>⟨λk _ _=> ?_,λk=>⟨λq _ _=> ?_,λq v w=> ?_⟩⟩⟩
 .rw [show m.save%65536=m.save by omega];exact bF (u:={m with aO:=true}) n9 (by rw [a,if_neg ah,if_pos e]) (by unfold nxt;rw [if_pos ⟨o,e⟩])
 .exact bF (u:={m with aO:=true}) n9 (by rw [a,if_neg ah,if_neg ah,k];rfl) (f ah)
 .exact bF (u:={m with aO:=false}) n9 (by rw [a,if_neg ah,if_neg ah,q];rfl) (f ah)
 .exact bF (u:={m with halt:=1}) n9 (by rw [a,if_pos ah]) (f ah)
def DC{a b:Int}(c:Wo a)(d:Wo b):(wE 1 a b=true↔a=b)/\(wE 2 a b=true↔a<b):=by
 rw [Sb,Sc,wF,wF,aR (show 0<=a/\a<=65535 from c),aR (show 0<=b/\b<=65535 from d)];simp
def akJ{p1 f1 p2 f2 p5 f5}{s:mF->Bool}{K:mF->bn}{t:mF->Bool}{J:mF->bn}{x:oz->Bool}{H:oz->eB}{A:Int×lT->Bool}{B:Int×lT->bn}(W:Y24 p1 f1)(F:abO p2 f2)(T:∀(m:aC) (i:Ins),MOK m->bf i->(i.op=14\/i.op=15)->m.ins.length<1000000000->m.outs.length<900000000->s (m.pc,m.save,m.aO,m.waits,m.halt,m.ins,m.count,i,m.regs,m.mem,m.outs,())=true/\K (m.pc,m.save,m.aO,m.waits,m.halt,m.ins,m.count,i,m.regs,m.mem,m.outs,())=mB (exec m i))(V:∀(m:aC) (i:Ins),MOK m->bf i->(i.op=9\/i.op=10)->t (m.pc,m.save,m.aO,m.waits,m.halt,m.ins,m.count,i,m.regs,m.mem,m.outs,())=true/\J (m.pc,m.save,m.aO,m.waits,m.halt,m.ins,m.count,i,m.regs,m.mem,m.outs,())=mB (exec m i))(E:akF p5 f5)(Q:∀(v k:Int),Wo v->0<=k->k<=15->x (v,k,())=true/\H (v,k,())=(v*2^k.toNat%65536,()))(w:∀(m:aC) (i:Ins),MOK m->i.op=0->A (m.pc,m.save,m.aO,m.waits,m.halt,m.ins,m.count,i.k,m.regs,m.mem,m.outs,())=true/\(i.k<=3->0<=i.k->B (m.pc,m.save,m.aO,m.waits,m.halt,m.ins,m.count,i.k,m.regs,m.mem,m.outs,())=mB (exec m i)))(m:aC)(i:Ins)(h:MOK m)(I:bf i)(hn:m.ins.length<1000000000)(S:m.outs.length<900000000):Qb.F (p1,f1,p2,f2,s,K,t,J,p5,f5,x,H,A,B,()) (m.pc,m.save,m.aO,m.waits,m.halt,m.ins,m.count,i,m.regs,m.mem,m.outs,()) (λy=>y=mB (exec m i)):=by
 have l:=I;obtain⟨⟨o0,o1⟩,⟨d,C⟩,⟨j,a1⟩,b,P,Z,r2,N,X,G,_⟩:=I;have f:=h.r4;have c:=h.ct;have pw:0<=m.pc/\m.pc<=65535:=h.pc;have r:=h.rw.at i.a;have Y:=h.rw.at i.d;obtain⟨D,L⟩:=DC Y r;have O:0<=((m.regs).getD (i.a).toNat default)/\((m.regs).getD (i.a).toNat default)<=65535:=r;have o:=λv=>(E m i.d v h d C).2
 have p:=λv=>(E m i.d v h d C).1
 have U:=λn=>(F m n c).2
 have R:=λn=>(F m n c).1
 dsimp only [Qb,gm];rcases(by omega:i.op=0\/i.op=1\/i.op=2\/(3<=i.op/\i.op<=7)\/i.op=8\/(i.op=9\/i.op=10)\/i.op=11\/i.op=12\/i.op=13\/(i.op=14\/i.op=15))with e | e | e | e | e | e | e | e | e | e
 case inr.inr.inr.inl=>
  have a:∀z:Int,z<3\/7<z->¬i.op=z:=λz g q=>by omega
  have kk:=N e;simp (disch:=omega) only [RR,IR,a 0 ah,a 1 ah,a 2 ah,a 8 ah,a 9 ah,a 10 ah,a 11 ah,a 12 ah,a 13 ah,a 14 ah,a 15 ah,W,o,p,f,d,j,b];refine⟨ah,ah,ah,ah,?_⟩;rw [show i.op-3+1=i.op-2 by omega];exact bF (u:={m with regs:=m.regs.set i.d.toNat (wdo (i.op-2) ((m.regs).getD (i.a).toNat default) ((m.regs).getD (i.k).toNat default))}) (n9 ah) (efd e) (nxp ah)
 case inr.inr.inr.inr.inr.inl=>
  rcases e with e | e<;>simp (disch:=omega) only [RR,IR,e,Int.reduceEq,V m i h l ah,f,d,j,b]
  all_goals exact⟨ah,ah⟩
 case inr.inr.inr.inr.inr.inr.inr.inr.inr=>
  rcases e with e | e<;>simp (disch:=omega) only [RR,IR,e,Int.reduceEq,T m i h l ah hn S,f,d,j,b]
  all_goals exact⟨ah,ah⟩
 case inl=>
  simp (disch:=omega) only [RR,IR,e,Int.reduceEq,(w m i h e).1,f,d,j,b];exact⟨ah,ah,(w m i h e).2 (P e).2.2 b⟩
 case inr.inr.inr.inr.inl=>
  simp (disch:=omega) only [RR,IR,e,Int.reduceEq,Q _ _ r b (X e),o,p,f,d,j,b];exact⟨ah,ah,bF (u:={m with regs:=m.regs.set i.d.toNat (((m.regs).getD (i.a).toNat default)*2^i.k.toNat%65536)}) (n9 ah) (ef8 e) (nxp ah)⟩
 all_goals simp (disch:=omega) only [RR,IR,e,Int.reduceEq,o,p,U,R,f,d,j,b]
 .exact⟨ah,ah,bF (u:={m with regs:=m.regs.set i.d.toNat i.k}) (n9 ah) (ef1 e) (nxp ah)⟩
 .exact⟨ah,ah,bF (u:={m with regs:=m.regs.set i.d.toNat ((m.regs).getD (i.a).toNat default)}) (n9 ah) (ef2 e) (nxp ah)⟩
 .have ef:eff m i=m:=efj ah;have M:=G ah;refine⟨ah,ah,ah,ah,λg=> ?_,λg=> ?_⟩
  .rw [show i.k%65536=i.k by omega];exact bF (u:=m) (n9 ah) ef (by unfold nxt;rw [if_neg ah,if_pos ⟨Or.inl e,by rw [e];exact D.2 g⟩])
  .exact bF (u:=m) (n9 ah) ef (by unfold nxt;rw [if_neg ah,if_neg (λq=>g (D.1 (by have:=q.2;rw [e]at this;exact this))),if_neg ah])
 .have ef:eff m i=m:=efj ah;have M:=G ah;refine⟨ah,ah,ah,ah,λg=> ?_,λg=> ?_⟩
  .rw [show i.k%65536=i.k by omega];exact bF (u:=m) (n9 ah) ef (by unfold nxt;rw [if_neg ah,if_pos ⟨Or.inr e,by rw [e];exact L.2 g⟩])
  .exact bF (u:=m) (n9 ah) ef (by unfold nxt;rw [if_neg ah,if_neg (λq=>g (L.1 (by have:=q.2;rw [e]at this;exact this))),if_neg ah])
 .have ef:eff m i=m:=efj ah;rw [show((m.regs).getD (i.a).toNat default)%65536=((m.regs).getD (i.a).toNat default) by omega];exact⟨ah,ah,bF (u:=m) (n9 ah) ef (by unfold nxt;rw [if_neg ah,if_neg ah,if_pos e];rfl)⟩
def smp(m:aC)(b:Bool):aC:=if(m.waits || b)=true/\m.aO=true then {m with waits:=false,aO:=false,save:=m.pc,pc:=48}else {m with waits:=m.waits || b}
def akK(m:aC)(b:Bool):PN.F () (m.pc,m.save,m.aO,m.waits,m.halt,m.ins,m.count,b,m.regs,m.mem,m.outs,()) (λy=>y=mB (smp m b)):=by
 dsimp only [PN,gm];unfold smp;cases hw:m.waits<;>cases hb:b<;>cases hl:m.aO<;>simp
def akL(l:List Int)(n:Int)(h:l.length<1000000000):PK.F () (l,n,()) (λy=>y=(bp (n∈l),())):=by
 dsimp only [PK,gm];simp (disch:=omega) only [RR];refine ay (λ(y:List Int×oz)=>y.1=l/\y.2.1=n/\0<=y.2.2.1/\y.2.2.1<=l.length/\n∉l.take y.2.2.1.toNat) (λy=>(l.length-y.2.2.1).toNat) ⟨rfl,rfl,by simp,by simp,by simp⟩ ?_;rintro⟨(l:List Int),(n:Int),(i:Int),⟨⟩⟩ hI;dsimp only at hI ⊢;obtain⟨rfl,rfl,b,c,a⟩:=hI;simp (disch:=omega) only [RR];refine⟨λg=>⟨b,g,λe=> ?_,λe=>⟨⟨ah,ah,λq=> ?_⟩,ah⟩⟩,λg=> ?_⟩
 .rw [aR (by rw [<-e];exact gu b g)]
 .rw [show(i+1).toNat=i.toNat+1 by omega,take_succ_eq_append_getElem ah,mem_append,mem_singleton,<-getD_lt (d:=default) (show i.toNat<l.length by omega)]at q;exact q.elim a (λz=>e z.symm)
 .rw [take_of_length_le ah]at a;rw [bJ a]
end Go.TX.F
namespace Go.TX.F
open Go Go.AE Go.TX List
def fm(i:Ins):Bool:=if i.op=0 then decide (i.d=0)&&decide (i.a=0)&&decide (i.k<=3)else if i.op=1 then decide (i.a=0)else if i.op=2 then decide (i.k=0)else if 3<=i.op/\i.op<=7 then decide (i.k<4)else if i.op=8 then decide (i.k<16)else if i.op=13 then decide (i.d=0)&&decide (i.k=0)else if i.op=14\/i.op=15 then decide (i.a=0)&&decide (i.k=0)else true
def aqB(b:Bool):bp (b=true)=b:=by
 cases b with
 | true=>exact aR rfl
 | false=>exact bJ (by decide)
def akM(i:Ins):(inB i.op 0 15&&inB i.d 0 3&&inB i.a 0 3&&inB i.k 0 255&&fm i)=bp (bf i):=by
 have h:((0<=i.op/\i.op<=15)/\(0<=i.d/\i.d<=3)/\(0<=i.a/\i.a<=3)/\(0<=i.k/\i.k<=255)/\fm i=true)↔bf i:=by
  unfold bf fm;split
  .simp only [Bool.and_eq_true,decide_eq_true_eq];omega
  split
  .simp only [decide_eq_true_eq];omega
  split
  .simp only [decide_eq_true_eq];omega
  split
  .simp only [decide_eq_true_eq];omega
  split
  .simp only [decide_eq_true_eq];omega
  split
  .simp only [Bool.and_eq_true,decide_eq_true_eq];omega
  split
  .simp only [Bool.and_eq_true,decide_eq_true_eq];omega
  .simp only [eq_self,and_true];omega
 rw [<-iF h];simp only [wF,fT,Bool.and_assoc,aqB]
def FQ(i:Ins):Po.F () (i,()) (λy=>y=(fm i,())):=by
 dsimp only [Po,gm];rcases(by omega:(i.op=0\/i.op=1\/i.op=2\/i.op=3\/i.op=4\/i.op=5\/i.op=6\/i.op=7\/i.op=8\/i.op=13\/i.op=14\/i.op=15)\/(¬(0<=i.op/\i.op<=8)/\¬(13<=i.op/\i.op<=15)))with(e | e | e | e | e | e | e | e | e | e | e | e) | ⟨n1,n2⟩
 case inr=>
  have n:∀z:Int,(0<=z/\z<=8)\/(13<=z/\z<=15)->¬i.op=z:=λz g q=>by omega
  have a:¬(3<=i.op/\i.op<=7):=λq=>by omega
  simp (disch:=omega) only [RR,IR,n];unfold fm;simp (disch:=omega) only [n,a,if_false,or_self]
 all_goals simp (disch:=omega) only [RR,IR,e,Int.reduceEq]
 all_goals unfold fm
 all_goals simp [e]
def GN{p1 f1}{b:ark->Bool}{a:ark->fA}(c:Y1 p1 f1)(d:∀i,b (i,())=true/\a (i,())=(fm i,()))(i:Ins):Pp.F (p1,f1,b,a,()) (i,()) (λy=>y=(bp (bf i),())):=by
 dsimp only [Pp,gm];simp (disch:=omega) only [RR,IR,c,d];rw [akM]
noncomputable def tkI (w:Int):Int×Int×Int×Int×fA:=if bp (Wo w/\bf (bS w))=true then((bS w).op,(bS w).d,(bS w).a,(bS w).k,true,())else(0,0,0,0,false,())
theorem akN{p1 f1 p2 f2}(c:WL p1 f1)(b:Y9 p2 f2)(w:Int):PL.F (p1,f1,p2,f2,()) (w,()) (λy=>y=tkI w):=by
 dsimp only [PL,gm];simp (disch:=omega) only [RR,c,b,wF];by_cases h:Wo w
 .obtain⟨w0,w1⟩:=id h;have e:∀x y z u:Int,Co.mk .ins (x,y,z,u,())=⟨x,y,z,u⟩:=λ_ _ _ _=>rfl
  have q:∀n:Int,0<n->0<=w/n/\w/n<=65535:=λn hn=>⟨Int.ediv_nonneg w0 ah,Int.le_trans (Int.ediv_le_self _ w0) w1⟩
  have d:=q 4096 (by decide);have i:=q 1024 (by decide);have f:=q 256 (by decide);rw [aR (show 0<=w/\w<=65535 from h)];simp (disch:=omega) only [RR,e,Int.tdiv_eq_ediv_of_nonneg,Int.tmod_eq_emod_of_nonneg];have a:(⟨w/4096,w/1024%4,w/256%4,w%256⟩:Ins)=bS w:=rfl;unfold tkI;by_cases k:bf (bS w)
  .rw [a,aR k,aR ⟨h,k⟩];simp;rfl
  .rw [a,bJ k,bJ (λg=>k g.2)];simp
 .rw [bJ (show¬(0<=w/\w<=65535)from h)];unfold tkI;rw [bJ (λg=>h g.1)];simp
noncomputable def fF (i:Ins):Int:=if bp (bf i)=true then BQ i else 0
def xJ(i:Ins):Wo (fF i):=by
 unfold fF;split
 .rename_i h;obtain⟨⟨c,g⟩,⟨a,f⟩,⟨b,d⟩,e,h⟩:=aX.1 h;unfold BQ Wo;omega
 .exact wo0
def akO{p1 f1}(a:WL p1 f1)(i:Ins):Py.F (p1,f1,()) (i,()) (λy=>y=(fF i,())):=by
 dsimp only [Py,gm];simp (disch:=omega) only [RR,IR,a];unfold fF BQ;refine⟨λh=>by rw [h];rfl,λh=> ?_⟩;rw [if_pos h];obtain⟨⟨e,k⟩,⟨c,j⟩,⟨d,f⟩,g,h⟩:=aX.1 h;have b:i.k<=255:=by omega
 simp (disch:=omega) only [w64]
abbrev akP(b:ark->Bool)(a:ark->eB):Prop:=∀i,b (i,())=true/\a (i,())=(fF i,())
def akQ{p1 f1}(b:akP p1 f1)(l:List Ins)(e:l.length<1000000):Pz.F (p1,f1,()) (l,()) (λy=>y=(l.map fF,())):=by
 dsimp only [Pz,gm];simp (disch:=omega) only [RR,length_nil];refine ay (λ(y:List Ins×Int×eu)=>y.1=l/\0<=y.2.1/\y.2.1<=l.length/\y.2.2.1=(l.take y.2.1.toNat).map fF) (λy=>(l.length-y.2.1).toNat) ⟨rfl,by simp,by simp,by simp⟩ ?_;rintro⟨(l:List Ins),(i:Int),(o:List Int),⟨⟩⟩ hI;dsimp only at hI ⊢;obtain⟨rfl,c,f,rfl⟩:=hI;simp (disch:=omega) only [RR,b,length_map,length_cons,length_nil];have g:=length_take_le' i.toNat l;refine⟨λa=>⟨ah,ah,ah,⟨ah,ah,?_⟩,ah⟩,λa=>by rw [take_of_length_le ah]⟩;rw [<-dO (d:=default) c a rfl,map_append];rfl
def akR{l:List Int}(h:Wos l){n:Int}(w:Wo n):Wos (n::l):=λx a=>(mem_cons.1 a).elim (λe=>e▸w) (h x)
noncomputable def lg (w i:List Int):aC:=if bp (w.length<=64/\Wos w/\Wos i)=true then⟨[0,0,0,0],0,w++replicate (64-w.length) 0,0,false,false,0,i,[],0⟩else Kv
def afl{w i:List Int}(h:w.length<=64)(b:Wos w)(c:Wos i):MOK (lg w i):=by
 unfold lg;rw [aR ⟨h,b,c⟩,if_pos rfl];have z:∀n:Nat,Wos (replicate n 0):=λn x a=>by rw [eq_of_mem_replicate a];exact wo0
 exact⟨rfl,z 4,by show(w++replicate (64-w.length) 0).length=64;rw [length_append,length_replicate];omega,λx a=>(mem_append.1 a).elim (b x) (z _ x),wo0,wo0,c,λx a=>(by cases a),⟨show(0:Int)<=0 by decide,show(0:Int)<=4 by decide⟩,⟨show(0:Int)<=0 by decide,show(0:Int)<=1000000 by decide⟩⟩
def akS{p1 f1}(f:akh p1 f1)(w i:List Int)(x:w.length<1000000)(z:i.length<1000000):Pf.F (p1,f1,()) (w,i,()) (λy=>y=((lg w i).pc,(lg w i).save,(lg w i).aO,(lg w i).waits,(lg w i).halt,(lg w i).count,(lg w i).regs,(lg w i).mem,(lg w i).ins,())):=by
 obtain⟨P,Q⟩:=f w ah;obtain⟨s,p⟩:=f i ah;dsimp only [Pf,gm];simp (disch:=omega) only [RR,P,s,Q,p,fQ,nil_append,length_nil];by_cases c:w.length<=64/\Wos w/\Wos i
 .have e:lg w i=⟨[0,0,0,0],0,w++replicate (64-w.length) 0,0,false,false,0,i,[],0⟩:=by unfold lg;rw [aR c,if_pos rfl]
  obtain⟨v,n,o⟩:=c;rw [e,aR n,aR o];refine⟨λq=>absurd q (by simp;omega),λ_=>⟨ah,?_⟩⟩;have t:(w++replicate (64-w.length) (0:Int)).length=64:=by rw [length_append,length_replicate];omega
  have a:∀k:Nat,k<64->(w++replicate (64-w.length) (0:Int))[k]? =some (if k<w.length then w.getD k default else 0):=λk hk=>by
   by_cases g:k<w.length
   .rw [if_pos g,getElem?_append_left g,getElem?_eq_getElem g,getD_lt g]
   .rw [if_neg g,getElem?_append_right ah,getElem?_replicate,if_pos ah]
  generalize w++replicate (64-w.length) (0:Int)=M at t a;refine ay (λ(y:List Int×Int×Int×Int×Bool×Bool×Int×Int×Int×Int×Bool×Bool×Int×Int×iK)=>y.1=w/\0<=y.2.1/\y.2.1<=64/\y.2.2.2.2.2.2.2.2=(0,0,false,false,0,0,[0,0,0,0],M.take y.2.1.toNat,i,())) (λy=>(64-y.2.1).toNat) ⟨rfl,by simp,by simp,rfl⟩ ?_;rintro⟨(w:List Int),(k:Int),u1,u2,u3,u4,u5,u6,v1,v2,v3,v4,v5,v6,r,l,j,⟨⟩⟩ hI;dsimp only at hI ⊢;obtain⟨rfl,m,u,d⟩:=hI;simp only [Prod.mk.injEq,and_true]at d;obtain⟨rfl,rfl,rfl,rfl,rfl,rfl,rfl,rfl,rfl⟩:=d;have tl:(M.take k.toNat).length<=64:=by rw [length_take];omega
  have h:k<64->M.take (k+1).toNat=M.take k.toNat++ [if k.toNat<w.length then w.getD k.toNat default else 0]:=λg=>by
   rw [show(k+1).toNat=k.toNat+1 by omega,take_add_one,a _ ah];rfl
  simp (disch:=omega) only [RR,length_cons,length_nil];refine⟨λg=>⟨λb=>⟨m,b,ah,⟨ah,ah,?_⟩,ah⟩,λb=>⟨ah,⟨ah,ah,?_⟩,ah⟩⟩,λg=> ?_⟩
  .rw [h g,if_pos ah]
  .rw [h g,if_neg ah]
  .rw [take_of_length_le ah]
 .have e:lg w i=Kv:=by unfold lg;rw [bJ c,if_neg (by decide)]
  rw [e];refine⟨λ_=>rfl,λg=>absurd ⟨ah,aX.1 g.1.2,aX.1 g.2⟩ c⟩
variable{m:aC}
theorem jN(m:aC)(b:Bool):stepM m b=(if 64<=(smp m b).pc then {smp m b with halt:=4}else if bp (bf (bS (((smp m b).mem).getD ((smp m b).pc).toNat default)))=false then {smp m b with halt:=2}else exec (smp m b) (bS (((smp m b).mem).getD ((smp m b).pc).toNat default))):=rfl
def KC(h:MOK m)(b:Bool):MOK (smp m b):=by
 unfold smp;split
 .exact {h with sv:=h.pc,pc:=⟨show(0:Int)<=48 by decide,show(48:Int)<=65535 by decide⟩}
 .exact {h with}
def zq(m:aC)(b:Bool):(smp m b).ins=m.ins/\(smp m b).outs=m.outs/\(smp m b).count=m.count:=by unfold smp;split<;>exact⟨rfl,rfl,rfl⟩
def akT(h:MOK m){i:Ins}(d:bf i):Wo (nxt m i):=by
 obtain⟨_,_,_,a,_,_,_,_,_,b,_⟩:=d;unfold nxt;split
 .exact h.sv
 split
 .rename_i c;exact⟨a,by have:=b ah;omega⟩
 split
 .exact h.rw.at _
 .unfold Wo;omega
def afm(m:aC)(i:Ins):(eff m i).count=m.count/\(eff m i).ins.length<=m.ins.length/\(eff m i).outs.length<=m.outs.length+1:=by
 unfold eff
 repeat' split
 all_goals refine⟨rfl,?_,?_⟩
 all_goals first | exact Nat.le_refl _ | exact Nat.le_succ _ | (simp only [length_append,length_cons,length_nil];omega) | (simp only [length_drop];omega)
def nW(h:MOK m){i:Ins}(a:bf i)(c:m.count<1000000):MOK (exec m i):=by
 unfold exec;split
 .exact {h with ha:=⟨show(0:Int)<=3 by decide,show(3:Int)<=4 by decide⟩}
 .have:=h.ct;exact {Sd h a with pc:=akT h a,ct:=⟨show 0<=m.count+1 by omega,show m.count+1<=1000000 by omega⟩}
def afn(m:aC)(i:Ins):(exec m i).ins.length<=m.ins.length/\(exec m i).outs.length<=m.outs.length+1:=by
 unfold exec;split
 .exact⟨Nat.le_refl _,Nat.le_succ _⟩
 .exact(afm m i).2
def oZ(h:MOK m)(c:m.count<1000000)(b:Bool):MOK (stepM m b):=by
 have s:=KC h b;rw [jN];split
 .exact {s with ha:=⟨show(0:Int)<=4 by decide,show(4:Int)<=4 by decide⟩}
 split
 .exact {s with ha:=⟨show(0:Int)<=2 by decide,show(2:Int)<=4 by decide⟩}
 .rename_i g;exact nW s (aX.1 (by simpa using g)) (by rw [(zq m b).2.2];exact c)
def Aw(m:aC)(b:Bool):(stepM m b).ins.length<=m.ins.length/\(stepM m b).outs.length<=m.outs.length+1:=by
 obtain⟨a,c,_⟩:=zq m b;rw [jN];split
 .exact⟨by rw [<-a];exact Nat.le_refl _,by rw [<-c];exact Nat.le_succ _⟩
 split
 .exact⟨by rw [<-a];exact Nat.le_refl _,by rw [<-c];exact Nat.le_succ _⟩
 .rw [<-a,<-c];exact afn _ _
noncomputable def stS (m:aC) (b:Bool):aC:=if bp (MOK m)=true then(if m.halt≠0\/m.count=1000000 then m else stepM m b)else Kv
abbrev abP(b:eB->Bool)(a:eB->Int×Int×Int×Int×fA):Prop:=∀w,b (w,())=true/\a (w,())=tkI w
def akU{p1 f1 p2 f2 p3 f3 p5 f5}{a:mF->Bool}{j:mF->bn}{d:arh->Bool}{f:arh->bn}(D:abP p1 f1)(z:KA p2 f2)(x:WK p3 f3)(B:∀(m:aC) (i:Ins),MOK m->bf i->m.ins.length<1000000000->m.outs.length<900000000->a (m.pc,m.save,m.aO,m.waits,m.halt,m.ins,m.count,i,m.regs,m.mem,m.outs,())=true/\j (m.pc,m.save,m.aO,m.waits,m.halt,m.ins,m.count,i,m.regs,m.mem,m.outs,())=mB (exec m i))(e:akE p5 f5)(r:∀(m:aC) (b:Bool),d (m.pc,m.save,m.aO,m.waits,m.halt,m.ins,m.count,b,m.regs,m.mem,m.outs,())=true/\f (m.pc,m.save,m.aO,m.waits,m.halt,m.ins,m.count,b,m.regs,m.mem,m.outs,())=mB (smp m b))(m:aC)(b:Bool)(h:MSh m)(w:m.outs.length<900000000):Qc.F (p1,f1,p2,f2,p3,f3,a,j,p5,f5,d,f,()) (m,b,()) (λy=>y=mB (stS m b)):=by
 obtain⟨A,l⟩:=r m b;dsimp only [Qc,gm];simp (disch:=omega) only [RR,MRB,D,z m h,x m h,A,l];unfold stS;refine⟨λg=>by rw [if_neg (by rw [g];decide)];rfl,λg=> ?_⟩;have ok:=aX.1 g;have s:=KC ok b;obtain⟨C,u,_⟩:=zq m b;have E:=s.m64;have G:0<=(smp m b).pc/\(smp m b).pc<=65535:=s.pc;have F:=(λz1=>(e (smp m b) z1).1);have o:=(λz1=>(e (smp m b) z1).2);rw [if_pos g];refine⟨λq=>by rw [if_pos q],λq=> ?_⟩;rw [if_neg ah,jN];have v:=s.mw.at (smp m b).pc;simp only [F,o];refine⟨λq=>⟨trivial,by rw [if_pos q]⟩,λq=>⟨ah,ah,ah,ah,?_⟩⟩;rw [if_neg ah];by_cases k:bf (bS (((smp m b).mem).getD ((smp m b).pc).toNat default))
 .have t:tkI (((smp m b).mem).getD ((smp m b).pc).toNat default)=((bS (((smp m b).mem).getD ((smp m b).pc).toNat default)).op,(bS (((smp m b).mem).getD ((smp m b).pc).toNat default)).d,(bS (((smp m b).mem).getD ((smp m b).pc).toNat default)).a,(bS (((smp m b).mem).getD ((smp m b).pc).toNat default)).k,true,()):=by unfold tkI;rw [aR ⟨v,k⟩,if_pos rfl]
  rw [t,aR k,if_neg (by decide)];obtain⟨n,p⟩:=B (smp m b) _ s k (by rw [C];exact h.2.2.1) (by rw [u];exact w);exact⟨λc=>(by cases c),λ_=>⟨n,p⟩⟩
 .have t:tkI (((smp m b).mem).getD ((smp m b).pc).toNat default)=(0,0,0,0,false,()):=by unfold tkI;rw [bJ (λq=>k q.2),if_neg (by decide)]
  rw [t,bJ k,if_pos rfl];exact⟨λ_=>⟨trivial,rfl⟩,λc=>(by cases c)⟩
noncomputable def gI (q:List Int):Nat->aC->aC
 | 0,m=>m
 | k+1,m=>if m.halt=0/\m.count<1000000 then gI q k (stepM m (bp (m.count∈q)))else m
def KD(q:List Int):∀(k:Nat) {m:aC},MOK m->MOK (gI q k m)
 | 0,m,h=>h
 | k+1,m,h=>by
  unfold gI;split
  .rename_i c;exact KD q k (oZ h c.2 _)
  .exact h
def UN(q:List Int):∀(k:Nat) (m:aC),(gI q k m).ins.length<=m.ins.length/\(gI q k m).outs.length<=m.outs.length+k
 | 0,m=>⟨Nat.le_refl _,Nat.le_refl _⟩
 | k+1,m=>by
  unfold gI;split
  .have a:=UN q k (stepM m (bp (m.count∈q)));have b:=Aw m (bp (m.count∈q));omega
  .omega
noncomputable def kV (q:List Int) (n:Int) (m:aC):aC:=if bp (MOK m/\n<=400)=true then gI q n.toNat m else Kv
abbrev aqC(c:aC×fA->Bool)(a:aC×fA->bn):Prop:=∀m b,MSh m->m.outs.length<900000000->c (m,b,())=true/\a (m,b,())=mB (stS m b)
abbrev akV(b:fE->Bool)(a:fE->fA):Prop:=∀l n,l.length<1000000000->b (l,n,())=true/\a (l,n,())=(bp (n∈l),())
theorem akW{p1 f1 p2 f2 p3 f3 p4 f4}(s:KA p1 f1)(o:aqC p2 f2)(j:WK p3 f3)(r:akV p4 f4)(m:aC)(q:List Int)(n:Int)(h:MSh m)(f:q.length<1000000000)(A:m.outs.length<800000000):Qd.F (p1,f1,p2,f2,p3,f3,p4,f4,()) (m,q,n,()) (λy=>y=mB (kV q n m)):=by
 dsimp only [Qd,gm];simp (disch:=omega) only [RR,MRB,s m h,j m h];refine⟨λg=> ?_,λg=> ?_⟩
 .unfold kV;rw [fT,if_neg]
  .rfl
  .rcases g with g | g
   .rw [g];simp
   .rw [bJ (show¬n<=400 by omega)];simp
 have ok:=aX.1 g.1;have e:kV q n m=gI q n.toNat m:=by unfold kV;rw [aR ⟨ok,ah⟩,if_pos rfl]
 rw [e];have t:n<=400:=by omega
 refine ay (λ(y:List Int×Int×Int×Int×Int×Bool×Bool×Int×Int×bn)=>∃(x:aC) (k:Nat),y.1=q/\y.2.1=n/\y.2.2.1=k/\k<=n.toNat/\y.2.2.2.2.2.2.2.2.2=mB x/\MOK x/\x.ins.length<=m.ins.length/\x.outs.length<=m.outs.length+k/\gI q (n.toNat-k) x=gI q n.toNat m) (λy=>(n-y.2.2.1).toNat)
  ⟨m,0,rfl,rfl,rfl,ah,rfl,ok,Nat.le_refl _,Nat.le_refl _,rfl⟩ ?_
 rintro⟨(q:List Int),(n:Int),(i:Int),u1,u2,u3,u4,u5,u6,v1,v2,v3,v4,v5,v6,v7,v8,v9,v10,⟨⟩⟩ ⟨x,k,hI⟩;dsimp only at hI ⊢;obtain⟨rfl,rfl,rfl,v,b,a,u,w,d⟩:=hI;simp only [Prod.mk.injEq,and_true]at b;obtain⟨rfl,rfl,rfl,rfl,rfl,rfl,rfl,rfl,rfl,rfl⟩:=b;have p:MSh x:=⟨by rw [a.r4];decide,by rw [a.m64];decide,by have:=h.2.2.1;omega,ah⟩;have mK:Co.mk .aj (x.regs,x.pc,x.mem,x.save,x.aO,x.waits,x.halt,x.ins,x.outs,x.count,())=x:=rfl;simp (disch:=omega) only [RR,mK,r _ _ f,o x _ p ah];refine⟨λg=> ?_,λg=> ?_⟩
 .have e:stS x (bp (x.count∈q))=stepM x (bp (x.count∈q)):=by unfold stS;rw [aR a,if_pos rfl,if_neg ah]
  rw [e];have l:=Aw x (bp (x.count∈q));refine⟨⟨stepM x (bp (x.count∈q)),k+1,rfl,ah,rfl,oZ a ah _,ah,ah,?_⟩,ah⟩;rw [<-d,show n.toNat-k=(n.toNat- (k+1))+1 by omega]
  conv=>rhs;unfold gI
  rw [if_pos ah]
 .rw [<-d];by_cases c:(k:Int)<n
  .rw [show n.toNat-k=(n.toNat- (k+1))+1 by omega];unfold gI;rw [if_neg (λz=>by rw [decide_eq_true c,decide_eq_true z.1,decide_eq_true z.2]at g;cases g)]
  .rw [show n.toNat-k=0 by omega];rfl
end Go.TX.F
namespace Go.TX.F
open Go Go.AE Go.TX List
def akX{p1 f1}(c:Y38 p1 f1)(b:List Int)(p:Int)(a:Bt b)(e:0<=p)(o:p<900000000):O8.F (p1,f1,()) (b,p,()) (λ(y:vw)=>y.1=b/\p<=y.2.1/\y.2.1<=p+10/\y.2.2.1.length<=5):=by
 obtain⟨j,m,f,s⟩:=(c 5 b p a e ah).2;dsimp only [O8,gm];simp (disch:=omega) only [RR,(c 5 b p a e ah).1,j,m,length_nil];refine ay (λ(y:Int×vw)=>0<=y.1/\y.1<=5/\y.2.1=b/\p<=y.2.2.1/\y.2.2.1+y.1<=p+6/\(y.2.2.2.1.length:Int)+y.1<=5) (λy=>y.1.toNat) ⟨f,by dsimp only;omega,rfl,by dsimp only;omega,by dsimp only;omega,by dsimp only [length_nil];omega⟩ ?_;rintro⟨(k:Int),(d:List Int),(q:Int),(l:List Int),⟨⟩⟩ hI;dsimp only at hI ⊢;obtain⟨n,t,rfl,k3,u,r⟩:=hI;obtain⟨h,i,_,_⟩:=(c 50 d q a ah ah).2;simp (disch:=omega) only [RR,(c 50 d q a ah ah).1,h,i,length_cons,length_nil,length_append];exact⟨λg=>⟨ah,⟨ah,ah,ah,ah,ah⟩,ah⟩,λg=>⟨ah,ah,ah⟩⟩
def akY{p1 f1}(a:Y38 p1 f1)(t:Int)(b:List Int)(p:Int)(e:Bt b)(f:0<=t/\t<=1000)(d:0<=p)(c:p<900000000):Px.F (p1,f1,()) (t,b,p,()) (λ(y:z8)=>y.1=b/\p<=y.2.1/\y.2.1<=p+500/\y.2.2.1.length<=10):=by
 have R:=pkS e a;have P:=λn p d c=>(a n b p e d c).1
 dsimp only [Px,gm];simp (disch:=omega) only [RR,R,P,length_cons,length_nil];exact⟨ah,ah,ah⟩
def akZ{p1 f1 p2 f2}(h:Y71 p1 f1)(c:Y38 p2 f2)(t:Int)(b:List Int)(p:Int)(a:Bt b)(r:0<=t/\t<=1000)(f:0<=p)(d:p<700000000):Pw.F (p1,f1,p2,f2,()) (t,b,p,()) (λ(y:z8)=>y.1=b/\p<=y.2.1/\y.2.1<=p+500/\y.2.2.1.length<=10):=by
 have R:=pkS a c;have P:=λn p f d=>(c n b p a f d).1
 obtain⟨_,_,i,s⟩:=(c 4 b (p+1+1) a ah ah).2;dsimp only [Pw,gm];simp (disch:=omega) only [RR,R,P,length_cons,length_nil,length_append];refine ay (λ(y:Int×Int×z8)=>0<=y.2.1/\y.2.1<=4/\y.2.2.1=b/\p<=y.2.2.2.1/\y.2.2.2.1+50*y.2.1<=p+300/\(y.2.2.2.2.1.length:Int)+y.2.1<=7) (λy=>y.2.1.toNat) ⟨i,by dsimp only;omega,rfl,by dsimp only;omega,by dsimp only;omega,by dsimp only [length_cons,length_nil];omega⟩ ?_;rintro⟨(t:Int),(k:Int),(e:List Int),(q:Int),(l:List Ins),⟨⟩⟩ hI;dsimp only at hI ⊢;obtain⟨m,x,rfl,k3,z,o⟩:=hI;obtain⟨j,u,w,v⟩:=(h e q a ah ah).2;simp (disch:=omega) only [RR,(h e q a ah ah).1,j,length_cons,length_nil,length_append];refine⟨λg=>⟨λ_=>⟨ah,⟨ah,ah,ah,ah,ah⟩,ah⟩,λ_=>⟨ah,⟨ah,ah,ah,ah,ah⟩,ah⟩⟩,λg=>⟨ah,ah,ah,ah⟩⟩
structure ImD(b:List Int)(p:Int)(y:vw):Prop where
 b:y.1=b
 lo:p<=y.2.1
 hi:y.2.1<=p+8000
 len:y.2.2.1.length<=64
 w:Wos y.2.2.1
abbrev aoC(b:ny->Bool)(a:ny->eu):Prop:=∀l,l.length<1000000->b (l,())=true/\a (l,())=(l.map fF,())
def ak0{p1 f1 p2 f2 p4 f4 p5 f5 p7 f7 p8 f8 p9 f9}{G:yw->Bool}{w:yw->z8}{O:yw->Bool}{v:yw->z8}(N:aoC p1 f1)(T:akP p2 f2)(S:∀t b p,Bt b->(0<=t/\t<=1000)->0<=p->p<700000000->G (t,b,p,())=true/\(w (t,b,p,())).1=b/\p<=(w (t,b,p,())).2.1/\(w (t,b,p,())).2.1<=p+500/\(w (t,b,p,())).2.2.1.length<=10)(U:Y71 p4 f4)(F:Y70 p5 f5)(H:∀t b p,Bt b->(0<=t/\t<=1000)->0<=p->p<900000000->O (t,b,p,())=true/\(v (t,b,p,())).1=b/\p<=(v (t,b,p,())).2.1/\(v (t,b,p,())).2.1<=p+500/\(v (t,b,p,())).2.2.1.length<=10)(X:Y39 p7 f7)(e:Y38 p8 f8)(A:Y40 p9 f9)(b:List Int)(p:Int)(a:Bt b)(Q:0<=p)(M:p<600000000):PD.F (p1,f1,p2,f2,G,w,p4,f4,p5,f5,O,v,p7,f7,p8,f8,p9,f9,()) (b,p,()) (λy=>ImD b p y):=by
 have R:=pkS a e;have P:=λn p Q M=>(e n b p a Q M).1
 obtain⟨_,_,a3,a4⟩:=(e 5 b (p+1) a ah ah).2;dsimp only [PD,gm];simp (disch:=omega) only [RR,R,P,length_cons,length_nil,length_append];refine⟨λ_=>⟨ah,?_⟩,λ_=> ?_⟩
 all_goals refine ay (λ(y:Int×z8)=>0<=y.1/\y.1<=5/\y.2.1=b/\p<=y.2.2.1/\y.2.2.1+550*y.1<=p+2800/\(y.2.2.2.1.length:Int)<=44) (λy=>y.1.toNat) ⟨by dsimp only;omega,by dsimp only;omega,rfl,by dsimp only;omega,by dsimp only;omega,by simp⟩ ?_
 all_goals
  rintro⟨(k:Int),(d:List Int),(q:Int),(l:List Ins),⟨⟩⟩ hI;dsimp only at hI ⊢;obtain⟨k1,k2,rfl,k3,k4,k5⟩:=hI;obtain⟨_,_,d3,d4⟩:=(e 8 d (q+1) a ah ah).2;simp (disch:=omega) only [RR,R,P,length_cons,length_nil,length_append];refine⟨λg=>⟨λ_=> ?_,λ_=>⟨λ_=> ?_,λ_=> ?_⟩⟩,λg=>⟨ah,(N _ (by simp;omega)).1,?_⟩⟩
  .obtain⟨z1,z2,z3,z4⟩:=(S l.length d (q+1) a ah ah ah).2;exact⟨(S l.length d (q+1) a ah ah ah).1,ah,⟨ah,ah,z1,ah,ah,ah⟩,ah⟩
  .obtain⟨z1,z2,z3,z4⟩:=(H l.length d (q+1) a ah ah ah).2;exact⟨(H l.length d (q+1) a ah ah ah).1,ah,⟨ah,ah,z1,ah,ah,ah⟩,ah⟩
  .refine ay (λ(y:Int×Int×z8)=>y.1=k/\0<=y.2.1/\y.2.1<=8/\y.2.2.1=d/\q<=y.2.2.2.1/\y.2.2.2.1+30*y.2.1<=q+300/\(y.2.2.2.2.1.length:Int)+y.2.1<=42) (λy=>y.2.1.toNat) ⟨rfl,by dsimp only;omega,by dsimp only;omega,rfl,by dsimp only;omega,by dsimp only;omega,by dsimp only;omega⟩ ?_;rintro⟨(k:Int),(j:Int),(c:List Int),(J:Int),(l':List Ins),⟨⟩⟩ hI;dsimp only at hI ⊢;obtain⟨rfl,W,j2,rfl,Y,z,j5⟩:=hI;obtain⟨s,I,L,_⟩:=(F c J a ah ah).2;simp (disch:=omega) only [RR,(F c J a ah ah).1,s,length_cons,length_nil,length_append];exact⟨λ_=>⟨ah,⟨ah,ah,ah,ah,ah⟩,ah⟩,λ_=>⟨⟨ah,ah,ah,ah,ah⟩,ah⟩⟩
  .rw [(N _ (by simp;omega)).2];have ww:∀l:List Ins,Wos (l.map fF):=λl x B=>by obtain⟨i,_,rfl⟩:=mem_map.1 B;exact xJ i
   refine ay (λ(y:vw)=>y.1=d/\q<=y.2.1/\y.2.1<=q+40*y.2.2.1.length/\y.2.2.1.length<=48/\Wos y.2.2.1) (λy=>48-y.2.2.1.length) ⟨rfl,by dsimp only;omega,by dsimp only;omega,by simp;omega,ww _⟩ ?_;rintro⟨(c:List Int),(r:Int),(o:List Int),⟨⟩⟩ hI;dsimp only at hI ⊢;obtain⟨rfl,W,j2,Y,z⟩:=hI;obtain⟨C,e2,e3,E⟩:=(A c r a ah ah).2;obtain⟨D,⟨s,I,L,_⟩⟩:=F c (f9 (c,r,())).2.2.1 a ah ah;obtain⟨_,_,g3,g4⟩:=(e 4 c r a ah ah).2;simp (disch:=omega) only [RR,R,P,(A c r a ah ah).1,C,D,s,T,length_cons,length_nil,length_append,fQ];refine⟨λ_=>⟨ah,⟨ah,ah,ah,z.snoc (Wos.at (akR (akR (akR (λ_ h=>(by cases h)) (xJ _)) E) wo0) _)⟩,ah⟩,λ_=>⟨ah,ah,ah,ah,ah,ah,?_⟩⟩;refine ay (λ(y:Int×vw)=>0<=y.1/\y.1<=4/\y.2.1=c/\r<=y.2.2.1/\y.2.2.1+50*y.1<=r+300/\(y.2.2.2.1.length:Int)+y.1<=52/\Wos y.2.2.2.1) (λy=>y.1.toNat) ⟨g3,by dsimp only;omega,rfl,by dsimp only;omega,by dsimp only;omega,by simp only [length_drop,length_take];omega,λx B=>z x (mem_of_mem_take (mem_of_mem_drop B))⟩ ?_;rintro⟨(m:Int),(f:List Int),(t:Int),(u:List Int),⟨⟩⟩ hI;dsimp only at hI ⊢;obtain⟨m1,m2,rfl,m3,m4,m5,K⟩:=hI;obtain⟨s,I,L,_⟩:=(U f t a ah ah).2;obtain⟨OP,⟨o1,Z⟩⟩:=X 9 f t a ah ah;obtain⟨_,_,n3,n4⟩:=(e (u.length+2) f (t+1) a ah ah).2;obtain⟨W9,⟨C,e2,e3,E⟩⟩:=A f (t+1+1) a ah ah;simp (disch:=omega) only [RR,R,P,(U f t a ah ah).1,s,T,OP,o1,Z,W9,C,length_cons,length_nil,length_append,fQ];have V:Wos (u++ [fF (Co.mk .ins (14,3,0,0,())),fF (Co.mk .ins (0,0,0,1,()))]):=by
    rw [show∀x y:Int,u++ [x,y]=(u++ [x])++ [y] by simp];exact(K.snoc (xJ _)).snoc (xJ _)
   refine⟨λ_=>⟨ah,⟨ah,ah,ah,ah,ah,K.snoc (xJ _)⟩,ah⟩,λ_=>⟨ah,λ_=>⟨rfl,?_,?_,?_,V.set E _⟩,λ_=>⟨rfl,?_,?_,?_,V⟩⟩⟩
   .dsimp only;omega
   .dsimp only;omega
   .dsimp only;rw [length_set,length_append,length_cons,length_cons,length_nil];omega
   .dsimp only;omega
   .dsimp only;omega
   .dsimp only;rw [length_append,length_cons,length_cons,length_nil];omega
abbrev YMc:=Int×Int×Bool×Bool×Int×List Int×Int×List Int×Int×iK
abbrev mE(y:YMc):aC:=⟨y.2.2.2.2.2.2.2.2.2.1,y.1,y.2.2.2.2.2.2.2.2.2.2.1,y.2.1,y.2.2.1,y.2.2.2.1,y.2.2.2.2.1,y.2.2.2.2.2.1,y.2.2.2.2.2.2.2.2.2.2.2.1,y.2.2.2.2.2.2.1⟩
structure McD(b:List Int)(p:Int)(y:YMc):Prop where
 b:y.2.2.2.2.2.2.2.1=b
 lo:p<=y.2.2.2.2.2.2.2.2.1
 hi:y.2.2.2.2.2.2.2.2.1<=p+9500
 ok:MOK (mE y)
 i:(mE y).ins.length<=10
 o:(mE y).outs.length<=100
def aoD{X:aC}(h:MOK X){r:List Int}{pc ha:Int}{l w:Bool}(c:Wo pc)(a:0<=ha/\ha<=4)(d:r.length=4)(b:Wos r):MOK ⟨r,pc,X.mem,X.save,l,w,ha,X.ins,X.outs,X.count⟩:=
 {h with r4:=d,rw:=b,pc:=c,ha:=a}
abbrev aqD(b:ql->Bool)(a:ql->Int×Int×Bool×Bool×Int×Int×iK):Prop:=∀w i,w.length<1000000->i.length<1000000->b (w,i,())=true/\a (w,i,())=((lg w i).pc,(lg w i).save,(lg w i).aO,(lg w i).waits,(lg w i).halt,(lg w i).count,(lg w i).regs,(lg w i).mem,(lg w i).ins,())
abbrev aqE(c:fE->Bool)(a:fE->vw):Prop:=∀b p,Bt b->0<=p->p<600000000->c (b,p,())=true/\ImD b p (a (b,p,()))
abbrev aoE(c:fE->Bool)(a:fE->vw):Prop:=∀b p,Bt b->0<=p->p<900000000->c (b,p,())=true/\(a (b,p,())).1=b/\p<=(a (b,p,())).2.1/\(a (b,p,())).2.1<=p+10/\(a (b,p,())).2.2.1.length<=5
abbrev aqF(c:yw->Bool)(a:yw->vw):Prop:=∀n b p,Bt b->(0<=n/\n<=100)->0<=p->p<800000000->c (n,b,p,())=true/\(a (n,b,p,())).1=b/\p<=(a (n,b,p,())).2.1/\(a (n,b,p,())).2.1<=p+300/\(a (n,b,p,())).2.2.1.length=n/\wOK (a (n,b,p,())).2.2.1
def ak1{p1 f1 p3 f3 p4 f4 p5 f5 p6 f6 p7 f7}{Q:aC×fE->Bool}{T:aC×fE->bn}(U1:aqD p1 f1)(U2:∀m q n,MSh m->q.length<1000000000->m.outs.length<800000000->Q (m,q,n,())=true/\T (m,q,n,())=mB (kV q n m))(U3:aqE p3 f3)(U4:aoE p4 f4)(K:Y39 p5 f5)(l:Y38 p6 f6)(N:aqF p7 f7)(b:List Int)(p:Int)(a:Bt b)(c:0<=p)(d:p<500000000):Qe.F (p1,f1,Q,T,p3,f3,p4,f4,p5,f5,p6,f6,p7,f7,()) (b,p,()) (λy=>McD b p y):=by
 obtain⟨P3,⟨G,i2,Z,C,D⟩⟩:=U3 b p a c ah;generalize hy:f3 (b,p,())=y at G i2 Z C D;obtain⟨i,s,w,⟨⟩⟩:=y;dsimp only at G i2 Z C D;subst G;have R:=pkS a l;have P:=λn p c d=>(l n i p a c d).1
 obtain⟨_,_,a3,a4⟩:=(l 5 i s a ah ah).2;obtain⟨P7,⟨I,w2,V,w4,L⟩⟩:=N (f6 (5,i,s,())).1 i (s+1) a ah ah ah;generalize hz:f7 ((f6 (5,i,s,())).1,i,s+1,())=z at I w2 V w4 L;obtain⟨b2,q1,A,⟨⟩⟩:=z;dsimp only at I w2 V w4 L;subst I;obtain⟨W,S⟩:=U1 w A ah ah;have ok:=afl C D L;have j:(lg w A).outs=[]:=by unfold lg;split<;>rfl
 have ie:(lg w A).ins.length<=10:=by unfold lg;split;(dsimp only;omega);exact Nat.zero_le _
 generalize lg w A=M at W S ok j ie;have mK:Co.mk .aj (M.regs,M.pc,M.mem,M.save,M.aO,M.waits,M.halt,M.ins,[],M.count,())=M:=by cases M;dsimp only at j;subst j;rfl
 obtain⟨P4,⟨g,x,k,o⟩⟩:=U4 b2 q1 a ah ah;generalize hr:f4 (b2,q1,())=r at g x k o;obtain⟨e,f,h,⟨⟩⟩:=r;dsimp only at g x k o;subst g;have ms:MSh M:=⟨by rw [ok.r4];decide,by rw [ok.m64];decide,ah,by rw [j];decide⟩;obtain⟨_,_,n3,n4⟩:=(l 40 e f a ah ah).2;obtain⟨Y,H2⟩:=U2 M h (f6 (40,e,f,())).1 ms ah (by rw [j];decide);have hX:MOK (kV h (f6 (40,e,f,())).1 M):=by unfold kV;rw [aR ⟨ok,ah⟩,if_pos rfl];exact KD _ _ ok
 have F:(kV h (f6 (40,e,f,())).1 M).ins.length<=10/\(kV h (f6 (40,e,f,())).1 M).outs.length<=100:=by
  unfold kV;rw [aR ⟨ok,ah⟩,if_pos rfl];have:=UN h (f6 (40,e,f,())).1.toNat M;rw [j]at this;simp only [length_nil]at this;omega
 generalize kV h (f6 (40,e,f,())).1 M=X at Y H2 hX F;obtain⟨E,⟨B,v2,U,v4,J⟩⟩:=N 4 e (f+1+1) a ah ah ah;generalize hv:f7 (4,e,f+1+1,())=v at B v2 U v4 J;obtain⟨u,q3,vs,⟨⟩⟩:=v;dsimp only at B v2 U v4 J;subst B;have O:=λn p c d=>((K n u p a c d).2).1
 have O':=λn p c d=>((K n u p a c d).2).2
 have OP:=λn p c d=>(K n u p a c d).1
 dsimp only [Qe,gm];simp (disch:=omega) only [RR,P3,hy,R,P,P7,hz,W,S,mK,P4,hr,Y,H2,E,hv,O,O',OP];have pk:∀t:Int,0<=t->t<1000000000->Wo (f6 (66,u,t,())).1:=λt c d=>by obtain⟨_,_,c3,c4⟩:=(l 66 u t a c d).2;unfold Wo;omega
 have H:vs.length=4:=by omega
 repeat' (first | (refine⟨?_,?_⟩) | intro _)
 all_goals first | omega | (refine⟨rfl,by dsimp only;omega,by dsimp only;omega,aoD hX (by first | exact hX.pc | exact pk _ ah ah) (by first | exact hX.ha | exact⟨show(0:Int)<=0 by decide,show(0:Int)<=4 by decide⟩) (by first | exact hX.r4 | exact H) (by first | exact hX.rw | exact J),F.1,F.2⟩)
abbrev YMo:=Int×List Int×Int×Bool×Bool×Int×List Int×Int×List Int×Int×ql
structure MoD(b:List Int)(p:Int)(y:YMo):Prop where
 b:y.2.2.2.2.2.2.2.2.1=b
 lo:p<=y.2.2.2.2.2.2.2.2.2.1
 hi:y.2.2.2.2.2.2.2.2.2.1<=p+9600
 r:y.2.2.2.2.2.2.2.2.2.2.1.length<=10
 m:y.2.1.length<=64
 i:y.2.2.2.2.2.2.1.length<=10
 o:y.2.2.2.2.2.2.2.2.2.2.2.1.length<=110
abbrev aqG(c:fE->Bool)(a:fE->YMc):Prop:=∀b p,Bt b->0<=p->p<500000000->c (b,p,())=true/\McD b p (a (b,p,()))
def ak2{p1 f1 p2 f2 p3 f3}(x:aqG p1 f1)(v:Y39 p2 f2)(k:Y38 p3 f3)(n:Int)(b:List Int)(p:Int)(a:Bt b)(c:0<=p)(f:p<400000000):Qf.F (p1,f1,p2,f2,p3,f3,()) (n,b,p,()) (λy=>MoD b p y):=by
 obtain⟨t,⟨e,g,l,d,j,m⟩⟩:=x b p a c ah;generalize u:f1 (b,p,())=y at e g l d j m;obtain⟨A,z,lt,D,B,ins,C,h,q,regs,mem,i,⟨⟩⟩:=y;have r:=d.r4;have o:=d.m64;dsimp only at e g l j m r o;subst e;have R:=pkS a k;have P:=λn p c f=>(k n h p a c f).1
 obtain⟨w,⟨O,s⟩⟩:=v n h q a ah ah;dsimp only [Qf,gm];simp (disch:=omega) only [RR,t,u,R,P,O,s,w,length_cons,length_nil];have tl:∀n:Nat,(drop (Int.toNat 1) (take n mem)).length<=64:=λn=>by rw [length_drop,length_take];omega
 repeat' (first | (refine⟨?_,?_⟩) | intro _)
 all_goals first | omega | (refine⟨rfl,by dsimp only;omega,by dsimp only;omega,?_,?_,by dsimp only;omega,?_⟩<;>first | (dsimp only;omega) | exact tl _ | (dsimp only;simp only [length_append,length_set,length_cons,length_nil];omega))
def CZ(a:Int):Pm.F () (a,()) (λy=>y=(inB a 11 13,())):=by
 dsimp only [Pm,gm];refine Prod.ext ?_ rfl;dsimp only;rw [Bool.eq_iff_iff,dU];simp [aa4];omega
def C8{p1 f1 p2 f2}(a:akm p1 f1)(b:WL p2 f2)(i:Ins):Pq.F (p1,f1,p2,f2,()) (i,()) (λy=>y=(bp (bf i)&& !decide (i.op=0)&& !inB i.op 11 13,())):=by
 dsimp only [Pq,gm];simp (disch:=omega) only [RR,IR,a,b]
def abQ(a:Int)(l:List Ins):((lower a l).ops.length:Int)<=5000:=by
 by_cases h:nK a l
 .have:=(oW h).sz;omega
 .have e:lower a l=R6:=by unfold lower;rw [bJ h,if_neg (by decide)]
  rw [e];decide
abbrev aoF(c:yw->Bool)(a:yw->YMo):Prop:=∀n b p,Bt b->0<=p->p<400000000->c (n,b,p,())=true/\MoD b p (a (n,b,p,()))
def agM(x:Int)(n:Nat)(hn:n<=16)(m:Int)(hm:m=2^n-1):dR .and .i64 x m=x%2^n:=by
 have f:((2^IntKind.i64.bits:Nat):Int)=18446744073709551616:=by decide
 have p:2^n<=2^16:=Nat.pow_le_pow_right (by decide) hn;have b:0<2^n:=Nat.pow_pos (by decide);have a:(2:Nat)^16=65536:=by decide
 have c:((2:Int)^n)=((2^n:Nat):Int):=by simp
 have d:18446744073709551616=2^n*2^ (64-n):=by rw [<-Nat.pow_add,show n+(64-n)=64 by omega]
 rw [c]at hm ⊢;unfold dR;dsimp only;rw [BitVec.toNat_and,BitVec.toNat_ofInt,BitVec.toNat_ofInt,f,show(m%18446744073709551616).toNat=2^n-1 by omega,Nat.and_two_pow_sub_one_eq_mod];have l:=Nat.mod_lt (x%18446744073709551616).toNat b;rw [w64 ah ah];have e:(((x%18446744073709551616).toNat%2^n:Nat):Int)=x%18446744073709551616% ((2^n:Nat):Int):=by
  rw [Int.natCast_emod];congr 1;omega
 rw [e,Int.emod_emod_of_dvd];exact⟨((2^ (64-n):Nat):Int),by rw [<-Int.natCast_mul,<-d];rfl⟩
def Sg(x:Int)(n:Nat)(hn:n<=64)(h:0<=x):eX .shr .i64 x (n:Int)=x/2^n:=by
 show x.fdiv (2^ (min (n:Int).toNat 64))=_;rw [show(n:Int).toNat=n from rfl,Nat.min_eq_left hn,Int.fdiv_eq_ediv_of_nonneg];exact Int.le_of_lt (Int.pow_pos (by decide))
def abR{a k:Int}(f:Wo a)(h:0<=k)(g:k<=15):eX .shl .i64 a k=a*2^k.toNat:=by
 have p:=Kw h g;obtain⟨c,e⟩:=f;obtain⟨b,d⟩:=p;have j:0<=a*2^k.toNat:=Int.mul_nonneg c b;have i:a*2^k.toNat<=65535*65535:=Int.mul_le_mul e d b (by decide);show IntKind.i64.wrap (a*2^ (min k.toNat 64))=_;rw [Nat.min_eq_left ah,w64 ah ah]
theorem aoG{p1 f1 p2 f2}(f:WL p1 f1)(j:Y9 p2 f2)(w:Int):aao.F (p1,f1,p2,f2,()) (w,()) (λy=>y=tkI w):=by
 dsimp only [aao,gm];simp (disch:=omega) only [RR,f,j,wF];by_cases h:Wo w
 .obtain⟨w0,w1⟩:=id h;have e:∀x y z u:Int,Co.mk .ins (x,y,z,u,())=⟨x,y,z,u⟩:=λ_ _ _ _=>rfl
  have a:eX .shr .i64 w 12=w/4096:=Sg w 12 (by decide) w0;have b:eX .shr .i64 w 10=w/1024:=Sg w 10 (by decide) w0;have d:eX .shr .i64 w 8=w/256:=Sg w 8 (by decide) w0;have i:∀x,dR .and .i64 x 3=x%4:=λx=>agM x 2 (by decide) 3 (by decide)
  have l:∀x,dR .and .i64 x 255=x%256:=λx=>agM x 8 (by decide) 255 (by decide)
  rw [aR (show 0<=w/\w<=65535 from h)];simp only [Ka,a,b,d,i,l,e];have c:(⟨w/4096,w/1024%4,w/256%4,w%256⟩:Ins)=bS w:=rfl;unfold tkI;by_cases k:bf (bS w)
  .rw [c,aR k,aR ⟨h,k⟩];simp;rfl
  .rw [c,bJ k,bJ (λg=>k g.2)];simp
 .rw [bJ (show¬(0<=w/\w<=65535)from h)];unfold tkI;rw [bJ (λg=>h g.1)];simp
def aoH{p1 f1}(a:WL p1 f1)(i:Ins):aaV.F (p1,f1,()) (i,()) (λy=>y=(fF i,())):=by
 dsimp only [aaV,gm];simp (disch:=omega) only [RR,IR,a];unfold fF BQ;refine⟨λh=>by rw [h];rfl,λh=> ?_⟩;rw [if_pos h];obtain⟨⟨e,k⟩,⟨c,j⟩,⟨d,f⟩,g,h⟩:=aX.1 h;have b:i.k<=255:=by omega
 simp (disch:=omega) only [w64]
def aqH{p1 f1}(b:akP p1 f1)(l:List Ins)(e:l.length<1000000):aiK.F (p1,f1,()) (l,()) (λy=>y=(l.map fF,())):=by
 dsimp only [aiK,gm];simp (disch:=omega) only [RR,length_nil];refine ay (λ(y:List Ins×H6)=>y.1=l/\y.2.1=l.length/\0<=y.2.2.1/\y.2.2.1<=l.length/\y.2.2.2.1=(l.take y.2.2.1.toNat).map fF) (λy=>(l.length-y.2.2.1).toNat) ⟨rfl,rfl,by simp,by simp,by simp⟩ ?_;rintro⟨(l:List Ins),(n:Int),(i:Int),(o:List Int),⟨⟩⟩ hI;dsimp only at hI ⊢;obtain⟨rfl,rfl,c,f,rfl⟩:=hI;have g:=length_take_le' i.toNat l;simp (disch:=omega) only [RR,b,length_map,length_cons,length_nil];refine⟨λa=>⟨ah,ah,ah,⟨ah,ah,?_⟩,ah⟩,λa=>by rw [take_of_length_le ah]⟩;rw [<-dO (d:=default) c a rfl,map_append];rfl
def aoI(m:aC):aay.F () (m,()) (λy=>y=(decide (m.halt=0)&&decide (m.count<1000000),())):=by
 dsimp only [aay,gm];simp (disch:=omega) only [RR,MRB]
def ak3(l:List Int)(n:Int)(h:l.length<1000000000):Rq.F () (l,n,()) (λy=>0<=y.1↔n∈l):=by
 dsimp only [Rq,gm];simp (disch:=omega) only [RR];refine ay (λ(y:List Int×ari)=>y.1=l/\y.2.1=n/\y.2.2.1=l.length/\0<=y.2.2.2.1/\y.2.2.2.1<=l.length/\n∉l.take y.2.2.2.1.toNat) (λy=>(l.length-y.2.2.2.1).toNat) ⟨rfl,rfl,rfl,by simp,by simp,by simp⟩ ?_;rintro⟨(l:List Int),(n:Int),(z:Int),(i:Int),⟨⟩⟩ hI;dsimp only at hI ⊢;obtain⟨rfl,rfl,rfl,a,c,b⟩:=hI;simp (disch:=omega) only [RR];refine⟨λg=>⟨a,g,λe=>⟨λ_=>by rw [e];exact gu a g,λ_=>a⟩,λe=>⟨⟨ah,ah,λq=> ?_⟩,ah⟩⟩,λg=>⟨λq=>absurd q (by decide),λq=> ?_⟩⟩
 .rw [show(i+1).toNat=i.toNat+1 by omega,take_succ_eq_append_getElem ah,mem_append,mem_singleton,<-getD_lt (d:=default) (show i.toNat<l.length by omega)]at q;exact q.elim b e
 .rw [take_of_length_le ah]at b;exact absurd q b
def ak4{a:fE->Bool}{b:fE->eB}(c:∀l n,l.length<1000000000->a (l,n,())=true/\((0<=(b (l,n,())).1↔n∈l)))(l:List Int)(n:Int)(h:l.length<1000000000):Rs.F (a,b,()) (l,n,()) (λy=>y=(bp (n∈l),())):=by
 have H:=(c l n h).2;dsimp only [Rs,gm];simp (disch:=omega) only [RR,(c l n h).1];rw [mD,iF H]
set_option maxHeartbeats 1000000 in
theorem aoJ{p1 f1 p2 f2 p3 f3 p4 f4}(K:aqy p1 f1)(H:Y24 p2 f2)(G:Y59 p3 f3)(v:Y10 p4 f4)(i:Ins)(m:aC)(h:MOK m)(J:bf i)(hn:m.ins.length<1000000000)(S:m.outs.length<900000000):aaB.F (p1,f1,p2,f2,p3,f3,p4,f4,()) (i,m.pc,m.save,m.aO,m.waits,m.halt,m.ins,m.count,m.regs,m.mem,m.outs,()) (λy=>y=mB (exec m i)):=by
 obtain⟨⟨X,R⟩,⟨p,Q⟩,⟨t,Y⟩,j,P,M,V,B,L,U,_⟩:=J;have N:i.k<=255:=by omega
 have l:=h.r4;have A:=h.m64;have c:=h.ct;have T:0<=m.pc/\m.pc<=65535:=h.pc;have f:=h.rw.at i.a;have w:=h.rw.at i.d;obtain⟨n,x⟩:=DC w f;have s:inB ((m.regs).getD (i.d).toNat default) 0 65535=true:=dU.2 w;have k:inB ((m.regs).getD (i.a).toNat default) 0 65535=true:=dU.2 f;have C:0<=((m.regs).getD (i.a).toNat default)/\((m.regs).getD (i.a).toNat default)<=65535:=f;obtain⟨E,F⟩:=K m.pc m.save m.aO m.waits m.halt m.ins m.count m.regs m.mem m.outs hn;have o:(((m.regs).getD (i.a).toNat default)+i.k)%65536=adr m i:=rfl;have I:0<=adr m i:=by unfold adr;omega
 have W:∀r a b:Int,(inB a 0 65535&&inB b 0 65535&&decide (r=1/\a=b\/r=2/\a<b))=wE r a b:=λ_ _ _=>rfl
 dsimp only [aaB,gm];rcases(by omega:i.op=0\/i.op=1\/i.op=2\/(3<=i.op/\i.op<=7)\/i.op=8\/i.op=9\/i.op=10\/i.op=11\/i.op=12\/i.op=13\/i.op=14\/i.op=15)with e | e | e | e | e | e | e | e | e | e | e | e
 case inr.inr.inr.inl=>
  have D:∀z:Int,z<3\/7<z->¬i.op=z:=λz g q=>by omega
  have O:=B e;simp (disch:=omega) only [RR,IR,D,v,o,H,l,p,t,j,fQ,or_self,false_and,and_false];refine⟨ah,ah,ah,λ_=>⟨ah,ah,ah,?_⟩⟩;rw [show i.op-3+1=i.op-2 by omega];exact bF (u:={m with regs:=m.regs.set i.d.toNat (wdo (i.op-2) ((m.regs).getD (i.a).toNat default) ((m.regs).getD (i.k).toNat default))}) (n9 ah) (efd e) (nxp ah)
 all_goals simp (disch:=omega) only [RR,IR,e,Int.reduceEq,Int.reduceSub,Int.reduceAdd,v,o,G,E,F,l,A,p,t,j,fQ,or_self,false_and,and_false,true_or,or_true,true_and,length_cons,length_nil]
 .refine⟨ah,ah,ah,λ_=>⟨λg=> ?_,λg=>⟨λd=> ?_,λd=> ?_⟩⟩⟩
  .exact bF (u:={m with halt:=1}) (n9 ah) (by rw [ef0 e,if_pos g]) (nxp ah)
  .exact bF (u:={m with aO:=true}) (n9 ah) (by rw [ef0 e,if_neg g,if_pos d]) (by unfold nxt;rw [if_pos ⟨e,d⟩])
  .exact bF (u:={m with aO:=decide (i.k=2)}) (n9 ah) (by rw [ef0 e,if_neg g,if_neg d]) (nxp ah)
 .exact⟨ah,ah,ah,λ_=>⟨ah,bF (u:={m with regs:=m.regs.set i.d.toNat i.k}) (n9 ah) (ef1 e) (nxp ah)⟩⟩
 .exact⟨ah,ah,ah,λ_=>⟨ah,bF (u:={m with regs:=m.regs.set i.d.toNat ((m.regs).getD (i.a).toNat default)}) (n9 ah) (ef2 e) (nxp ah)⟩⟩
 .rw [abR f j (L e)];exact⟨ah,ah,ah,λ_=>⟨ah,bF (u:={m with regs:=m.regs.set i.d.toNat (((m.regs).getD (i.a).toNat default)*2^i.k.toNat%65536)}) (n9 ah) (ef8 e) (nxp ah)⟩⟩
 .refine⟨ah,ah,ah,λg=> ?_,λg=> ?_⟩
  .exact Dz (by unfold exec;rw [if_pos ⟨Or.inl e,g⟩])
  .have g':¬64<=adr m i:=λq=>by simp [q]at g
   exact⟨ah,ah,ah,ah,ah,bF (u:={m with regs:=m.regs.set i.d.toNat ((m.mem).getD (adr m i).toNat default)}) (λq=>g' q.2) (ef9 e) (nxp ah)⟩
 .refine⟨ah,ah,ah,λg=> ?_,λg=> ?_⟩
  .exact Dz (by unfold exec;rw [if_pos ⟨Or.inr e,g⟩])
  .have g':¬64<=adr m i:=λq=>by simp [q]at g
   exact⟨ah,ah,ah,ah,ah,bF (u:={m with mem:=m.mem.set (adr m i).toNat ((m.regs).getD (i.d).toNat default)}) (λq=>g' q.2) (afj e) (nxp ah)⟩
 .have ef:eff m i=m:=efj ah;refine⟨ah,ah,ah,λ_=>⟨ah,λg=> ?_,λg=> ?_⟩⟩
  .exact bF (u:=m) (n9 ah) ef (by unfold nxt;rw [if_neg ah,if_pos ⟨Or.inl e,by rw [e];exact n.2 g.2⟩])
  .rw [s,k]at g;exact bF (u:=m) (n9 ah) ef (by unfold nxt;rw [if_neg ah,if_neg (λq=>of_decide_eq_false g (n.1 (by have:=q.2;rw [e]at this;exact this))),if_neg ah])
 .have ef:eff m i=m:=efj ah;refine⟨ah,ah,ah,λ_=>⟨ah,λg=> ?_,λg=> ?_⟩⟩
  .exact bF (u:=m) (n9 ah) ef (by unfold nxt;rw [if_neg ah,if_pos ⟨Or.inr e,by rw [e];exact x.2 g.2⟩])
  .rw [s,k]at g;exact bF (u:=m) (n9 ah) ef (by unfold nxt;rw [if_neg ah,if_neg (λq=>of_decide_eq_false g (x.1 (by have:=q.2;rw [e]at this;exact this))),if_neg ah])
 .exact⟨ah,ah,ah,λ_=>bF (u:=m) (n9 ah) (efj ah) (by unfold nxt;rw [if_neg ah,if_neg ah,if_pos e];rfl)⟩
 .exact⟨ah,ah,ah,λ_=>⟨ah,ah,bF (u:={m with outs:=m.outs++ [((m.regs).getD (i.d).toNat default)]}) (n9 ah) (akD e) (nxp ah)⟩⟩
 .exact⟨ah,ah,ah,λ_=>⟨ah,bF (u:={m with regs:=m.regs.set i.d.toNat (m.ins.getD 0 default),ins:=m.ins.drop 1}) (n9 ah) (afk e) (nxp ah)⟩⟩
set_option maxHeartbeats 1000000 in
theorem aoK{p1 f1}{u:Ins×bn->Bool}{A:Ins×bn->bn}(n:abP p1 f1)(z:∀(i:Ins) (m:aC),MOK m->bf i->m.ins.length<1000000000->m.outs.length<900000000->u (i,m.pc,m.save,m.aO,m.waits,m.halt,m.ins,m.count,m.regs,m.mem,m.outs,())=true/\A (i,m.pc,m.save,m.aO,m.waits,m.halt,m.ins,m.count,m.regs,m.mem,m.outs,())=mB (exec m i))(b:Bool)(m:aC)(h:MOK m)(hn:m.ins.length<1000000000)(w:m.outs.length<900000000):aaD.F (p1,f1,u,A,()) (b,m.pc,m.save,m.aO,m.waits,m.halt,m.ins,m.count,m.regs,m.mem,m.outs,()) (λy=>y=mB (stepM m b)):=by
 have s:=KC h b;obtain⟨B,v,_⟩:=zq m b;have a:=λi r=>(z i (smp m b) s r (by rw [B];exact hn) (by rw [v];exact w)).1
 have d:=λi r=>(z i (smp m b) s r (by rw [B];exact hn) (by rw [v];exact w)).2
 have D:=s.m64;have x:0<=(smp m b).pc/\(smp m b).pc<=65535:=s.pc;have C:=s.mw.at (smp m b).pc;have T:(bf (bS (((smp m b).mem).getD ((smp m b).pc).toNat default))->tkI (((smp m b).mem).getD ((smp m b).pc).toNat default)=((bS (((smp m b).mem).getD ((smp m b).pc).toNat default)).op,(bS (((smp m b).mem).getD ((smp m b).pc).toNat default)).d,(bS (((smp m b).mem).getD ((smp m b).pc).toNat default)).a,(bS (((smp m b).mem).getD ((smp m b).pc).toNat default)).k,true,()))/\(¬bf (bS (((smp m b).mem).getD ((smp m b).pc).toNat default))->tkI (((smp m b).mem).getD ((smp m b).pc).toNat default)=(0,0,0,0,false,())):=
  ⟨λk=>by unfold tkI;rw [aR ⟨C,k⟩,if_pos rfl],λk=>by unfold tkI;rw [bJ (λq=>k q.2),if_neg (by decide)]⟩
 have l:∀i:Ins,Co.mk .ins (i.op,i.d,i.a,i.k,())=i:=λ_=>rfl
 have fin:∀S:aC,S=smp m b->(64<=S.pc->(S.pc,S.save,S.aO,S.waits,(4:Int),S.ins,S.count,S.regs,S.mem,S.outs,())=mB (stepM m b))/\(¬64<=S.pc->(¬bf (bS ((S.mem).getD (S.pc).toNat default))->(S.pc,S.save,S.aO,S.waits,(2:Int),S.ins,S.count,S.regs,S.mem,S.outs,())=mB (stepM m b))/\(bf (bS ((S.mem).getD (S.pc).toNat default))->exec S (bS ((S.mem).getD (S.pc).toNat default))=stepM m b)):=by
  rintro S rfl;rw [jN];refine⟨λq=>by rw [if_pos q],λq=>⟨λk=>by rw [if_neg q,bJ k,if_pos rfl],λk=>by rw [if_neg q,aR k,if_neg (by decide)]⟩⟩
 have F:=fin _ rfl;have f:=h.m64;dsimp only [aaD,gm];have j:((64:Int)<=48)=False:=eq_false (by decide);by_cases c:(m.waits || b)=true/\m.aO=true
 .have e:smp m b={m with waits:=false,aO:=false,save:=m.pc,pc:=48}:=by unfold smp;rw [if_pos c]
  rw [e]at T a d F;dsimp only at T a d F;have F2:=F.2 (by decide);by_cases k:bf (bS ((m.mem).getD ((48:Int)).toNat default))
  .have t:=T.1 k;have E:=F2.2 k;simp (disch:=omega) only [RR,c.1,c.2,j,Bool.and_self,n,t,l,a _ k,d _ k,E,f,fQ];exact⟨ah,ah,ah,ah⟩
  .have t:=T.2 k;have E:=F2.1 k;simp (disch:=omega) only [RR,c.1,c.2,j,Bool.and_self,n,t,l,E,f,fQ];exact⟨ah,ah,ah,ah⟩
 .have e:smp m b={m with waits:=m.waits || b}:=by unfold smp;rw [if_neg c]
  have o:((m.waits || b)&&m.aO)=false:=by
   cases g:((m.waits || b)&&m.aO)with
   | false=>rfl
   | true=>rw [Bool.and_eq_true]at g;exact absurd g c
  rw [e]at T a d F x;dsimp only at T a d F x;by_cases p:64<=m.pc
  .have E:=F.1 p;simp (disch:=omega) only [RR,o,p,E,f,fQ]
  have F2:=F.2 p;by_cases k:bf (bS ((m.mem).getD (m.pc).toNat default))
  .have t:=T.1 k;have E:=F2.2 k;simp (disch:=omega) only [RR,o,p,n,t,l,a _ k,d _ k,E,f,fQ];exact⟨ah,ah,ah,ah⟩
  .have t:=T.2 k;have E:=F2.1 k;simp (disch:=omega) only [RR,o,p,n,t,l,E,f,fQ];exact⟨ah,ah,ah,ah⟩
abbrev aoL(b:He->Bool)(a:He->fA):Prop:=∀m,b (m,())=true/\a (m,())=(decide (m.halt=0)&&decide (m.count<1000000),())
set_option maxHeartbeats 1000000 in
theorem aoM{p1 f1 p2 f2 p4 f4 p5 f5}{d:Bool×bn->Bool}{r:Bool×bn->bn}(p:WK p1 f1)(v:aoL p2 f2)(u:∀(b:Bool) (m:aC),MOK m->m.ins.length<1000000000->m.outs.length<900000000->d (b,m.pc,m.save,m.aO,m.waits,m.halt,m.ins,m.count,m.regs,m.mem,m.outs,())=true/\r (b,m.pc,m.save,m.aO,m.waits,m.halt,m.ins,m.count,m.regs,m.mem,m.outs,())=mB (stepM m b))(A:KA p4 f4)(t:akV p5 f5)(m:aC)(q:List Int)(n:Int)(h:MSh m)(s:q.length<1000000000)(F:m.outs.length<800000000):aa3.F (p1,f1,p2,f2,d,r,p4,f4,p5,f5,()) (m,q,n,()) (λy=>y=m10 (kV q n m)):=by
 dsimp only [aa3,gm];simp (disch:=omega) only [RR,A m h,p m h];refine⟨λg=> ?_,λg=> ?_⟩
 .unfold kV;rw [fT,if_neg]
  .rfl
  .rcases g with g | g
   .rw [g];simp
   .rw [bJ (show¬n<=400 by omega)];simp
 have ok:=aX.1 g.1;have e:kV q n m=gI q n.toNat m:=by unfold kV;rw [aR ⟨ok,ah⟩,if_pos rfl]
 rw [e];have B:n<=400:=by omega
 refine ay (λ(y:List Int×Int×Int×Int×Bool×Bool×Int×Int×bn)=>∃(x:aC) (k:Nat),y.1=q/\y.2.1=n-k/\(k=0\/k<=n)/\y.2.2.2.2.2.2.2.2=mB x/\MOK x/\x.ins.length<=m.ins.length/\x.outs.length<=m.outs.length+k/\gI q (n-k).toNat x=gI q n.toNat m) (λy=>y.2.1.toNat)
  ⟨m,0,rfl,by simp,Or.inl rfl,rfl,ok,Nat.le_refl _,Nat.le_refl _,by simp⟩ ?_
 rintro⟨(q:List Int),(i:Int),u1,u2,u3,u4,u5,u6,v1,v2,v3,v4,v5,v6,v7,v8,v9,v10,⟨⟩⟩ ⟨x,k,hI⟩;dsimp only at hI ⊢;obtain⟨rfl,rfl,D,f,a,C,E,o⟩:=hI;simp only [Prod.mk.injEq,and_true]at f;obtain⟨rfl,rfl,rfl,rfl,rfl,rfl,rfl,rfl,rfl,rfl⟩:=f;have w:MSh x:=⟨by rw [a.r4];decide,by rw [a.m64];decide,by have:=h.2.2.1;omega,ah⟩;have mK:Co.mk .aj (x.regs,x.pc,x.mem,x.save,x.aO,x.waits,x.halt,x.ins,x.outs,x.count,())=x:=rfl;simp (disch:=omega) only [RR,mK,p x w,v,t _ _ s,u _ x a (by have:=h.2.2.1;omega) ah];refine⟨λg=> ?_,λg=> ?_⟩
 .have l:=Aw x (bp (x.count∈q));have j:IntKind.i64.wrap (n-k-1)=n-k-1:=w64 ah ah;refine⟨⟨stepM x (bp (x.count∈q)),k+1,by rw [j];omega,ah,rfl,oZ a ah _,ah,ah,?_⟩,by rw [j];omega⟩;rw [<-o,show(n- (k:Int)).toNat=(n- ((k+1:Nat):Int)).toNat+1 by omega]
  conv=>rhs;unfold gI
  rw [if_pos ah]
 .rw [<-o];by_cases c:(k:Int)<n
  .rw [show(n- (k:Int)).toNat=(n- ((k+1:Nat):Int)).toNat+1 by omega];unfold gI;rw [if_neg (λz=>by rw [decide_eq_true (show 0<n- (k:Int) by omega),decide_eq_true z.1,decide_eq_true z.2]at g;cases g)]
  .rw [show(n- (k:Int)).toNat=0 by omega];rfl
variable{i:Ins}{m:aC}
def Nb(h:bf i):bS (fF i)=i:=by
 unfold fF;rw [aR h,if_pos rfl];obtain⟨⟨g,n⟩,⟨e,m⟩,⟨f,j⟩,l,h⟩:=h;have b:i.k<=255:=by omega
 obtain⟨c,d,a,k⟩:=i;unfold bS BQ;dsimp only at*
 congr 1<;>omega
def abS(w:¬(m.waits=true/\m.aO=true)):smp m false=m:=by
 unfold smp;rw [Bool.or_false,if_neg w]
def afo(a:bf i)(w:¬(m.waits=true/\m.aO=true))(b:0<=m.pc)(p:m.pc<64)(hm:((m.mem).getD (m.pc).toNat default)=fF i):stepM m false=exec m i:=by
 rw [jN,abS w,if_neg ah,hm,Nb a,aR a,if_neg (by decide)]
def aoN{q:List Int}(b:m.count∉q)(d:m.halt=0)(c:m.count<1000000)(e:bf i)(w:¬(m.waits=true/\m.aO=true))(a:0<=m.pc)(p:m.pc<64)(hm:((m.mem).getD (m.pc).toNat default)=fF i)(k:Nat):gI q (k+1) m=gI q k (exec m i):=by
 conv=>lhs;unfold gI
 rw [if_pos ⟨d,c⟩,bJ b,afo e w a p hm]
def abT(h:i.op≠0):(eff m i).waits=m.waits/\(eff m i).aO=m.aO:=by
 unfold eff
 repeat' split
 all_goals first | exact⟨rfl,rfl⟩ | (exfalso;omega)
def afp{j:Int}(b:0<=j)(c:i.op≠0)(h:i.op=10->adr m i≠j):(((eff m i).mem).getD (j).toNat default)=((m.mem).getD (j).toNat default):=by
 by_cases e:i.op=10
 .rw [afj e];have a:0<=adr m i:=by unfold adr;omega
  have:=h e;dsimp only;simp only [getD,getElem?_set_ne (show(adr m i).toNat≠j.toNat by omega)]
 .unfold eff
  repeat' split
  all_goals first | rfl | (exfalso;omega)
theorem abU{s:aC}(h:Mid i){u v:Int}(f:0<=v)(e:v<64)(c:¬((i.op=9\/i.op=10)/\64<=adr s i)):exec (upd s u v) i=upd (eff s i) (u+1) (v+1):=by
 have a:adr (upd s u v) i=adr s i:=rfl;obtain⟨_,d,b⟩:=h;unfold exec;rw [a,if_neg c,UK,nxp ⟨λq=>absurd q d,b⟩];show({upd (eff s i) u v with pc:=(v+1)%65536,count:=u+1}:aC)=_;rw [show(v+1)%65536=v+1 by omega]
theorem Nc{s:aC}{u v:Int}(b:(i.op=9\/i.op=10)/\64<=adr s i):exec (upd s u v) i={upd s u v with halt:=3}:=by
 have a:adr (upd s u v) i=adr s i:=rfl;unfold exec;rw [a,if_pos b]
def UO(q:List Int)(pc len:Int)(G:0<=pc)(D:pc+len<=64):∀(r:List Ins) (n:Int) (s:aC),(∀i∈r,Mid i)->(∀c:Int,s.count+n<=c->c<s.count+len->c∉q)->s.pc=pc->s.halt=0->¬(s.waits=true/\s.aO=true)->0<=n->n+r.length<len->s.count+len<=1000000->
  (∀t:Nat,t<r.length->((s.mem).getD (pc+n+t).toNat default)=fF (r.getD t default))->
  ((xr pc len n s r).2=true->(s.count+n<=(xr pc len n s r).1.count/\(xr pc len n s r).1.count<=s.count+n+r.length)/\∃k:Nat,1<=k/\(k:Int)=(xr pc len n s r).1.count- (s.count+n)+(if(xr pc len n s r).1.halt=3 then 1 else 0)/\gI q k (upd s (s.count+n) (pc+n))=(xr pc len n s r).1)/\
  ((xr pc len n s r).2=false->(¬((xr pc len n s r).1.waits=true/\(xr pc len n s r).1.aO=true))/\(∀j:Int,pc+n+r.length<=j->j<pc+len->(((xr pc len n s r).1.mem).getD (j).toNat default)=((s.mem).getD (j).toNat default))/\∀k:Nat,gI q (r.length+k) (upd s (s.count+n) (pc+n))=gI q k (upd (xr pc len n s r).1 (s.count+(n+r.length)) (pc+(n+r.length))))
 | [],n,s,_,_,_,_,hw,_,_,_,_=>by
  refine⟨λh=>(by cases h),λ_=>⟨hw,λj _ _=>rfl,λk=> ?_⟩⟩;show gI q (0+k) _=gI q k (upd s (s.count+(n+((0:Nat):Int))) (pc+(n+((0:Nat):Int))));rw [Nat.zero_add,show n+((0:Nat):Int)=n by omega]
 | i::r,n,s,hr,hq,hp,hh,hw,h0,hl,hc,hm=>by
  simp only [length_cons]at hl hm;obtain⟨z,d,B⟩:=hr i (mem_cons_self ..);have f:Mid i:=⟨z,d,B⟩;have F:(((upd s (s.count+n) (pc+n)).mem).getD ((upd s (s.count+n) (pc+n)).pc).toNat default)=fF i:=by
   have:=hm 0 ah;rw [show pc+n+((0:Nat):Int)=pc+n by omega]at this;exact this
  have l:=λk=>aoN (m:=upd s (s.count+n) (pc+n)) (hq (s.count+n) (Int.le_refl _) ah) hh (show s.count+n<1000000 by omega) z hw (show 0<=pc+n by omega) (show pc+n<64 by omega) F k
  rw [UL];by_cases b:(i.op=9\/i.op=10)/\64<=adr s i
  .rw [if_pos b];refine⟨λ_=>⟨⟨show s.count+n<=s.count+n by omega,show s.count+n<=_ by omega⟩,1,Nat.le_refl _,?_,?_⟩,λh=>by cases h⟩
   .show(1:Int)=s.count+n- (s.count+n)+(if(3:Int)=3 then 1 else 0);rw [if_pos rfl];omega
   .rw [l 0,Nc b];show({upd s (s.count+n) (pc+n)with halt:=3}:aC)=leave s n 3;unfold leave;rw [hp]
  rw [if_neg b];have E:=abU (s:=s) f (u:=s.count+n) (v:=pc+n) ah ah b;obtain⟨a,A,k3⟩:=FN (m:=s) d;by_cases g:i.op=10/\pc+n+1<=adr s i/\adr s i<=pc+len-1
  .rw [if_pos g];refine⟨λ_=>⟨⟨show _<=(eff s i).count+(n+1) by omega,show(eff s i).count+(n+1)<=_ by simp only [length_cons];omega⟩,1,Nat.le_refl _,?_,?_⟩,λh=>by cases h⟩
   .show(1:Int)=(eff s i).count+(n+1)- (s.count+n)+(if s.halt=3 then 1 else 0);rw [a,hh,if_neg (by decide)];omega
   .rw [l 0,E];show upd (eff s i) (s.count+n+1) (pc+n+1)=leave (eff s i) (n+1) s.halt;unfold leave upd;rw [a,A,hp,hh,<-k3.trans hh,show s.count+(n+1)=s.count+n+1 by omega,show pc+(n+1)=pc+n+1 by omega]
  rw [if_neg g];have y:∀j:Int,pc+n+1<=j->j<pc+len->(((eff s i).mem).getD (j).toNat default)=((s.mem).getD (j).toNat default):=λj o p=>afp ah d λe q=>g ⟨e,ah,ah⟩
  obtain⟨x,C⟩:=UO q pc len G D r (n+1) (eff s i) (λj H=>hr j (mem_cons_of_mem _ H)) (λc b g=>hq c ah ah) (by rw [A,hp]) (by rw [k3,hh]) (by rw [(abT d).1,(abT d).2];exact hw) ah ah (by rw [a];exact hc) (λt I=>by
   rw [y _ ah ah];have:=hm (t+1) ah;rw [getD_cons_succ]at this;rw [<-this];congr 2;omega)
  rw [a,show s.count+(n+1)=s.count+n+1 by omega,show pc+(n+1)=pc+n+1 by omega]at x;refine⟨λh=> ?_,λh=> ?_⟩
  .obtain⟨⟨b1,b2⟩,k,e0,e1,e2⟩:=x h;exact⟨⟨ah,by simp only [length_cons];omega⟩,k+1,ah,ah,by rw [l k,E,e2]⟩
  .obtain⟨w,e1,e2⟩:=C h;refine⟨w,λj o p=>by rw [e1 j (by simp only [length_cons]at o;omega) p,y j (by simp only [length_cons]at o;omega) p],λk=> ?_⟩;have:=e2 k;rw [a,show s.count+(n+1)=s.count+n+1 by omega,show pc+(n+1)=pc+n+1 by omega]at this;rw [length_cons,show r.length+1+k=(r.length+k)+1 by omega,l,E,this]
   congr 2<;>omega
end Go.TX.F
namespace Go.TX.F
open Go Go.AE Go.TX List
def aqI{r s:List Ins}{t:Nat}(h:t<r.length):(r++s).getD t default=r.getD t default:=by
 rw [getD_eq_getElem?_getD,getElem?_append_left h,<-getD_eq_getElem?_getD]
def aqJ{r:List Ins}{i:Ins}:(r++ [i]).getD r.length default=i:=by
 rw [getD_eq_getElem?_getD,getElem?_append_right (Nat.le_refl _),Nat.sub_self];rfl
theorem WM{q:List Int}{pc:Int}{l:List Ins}{m:aC}(h:nK pc l)(hm:MOK m)(f:m.halt=0)(p:m.pc=pc)(w:¬(m.waits=true/\m.aO=true))(x:∀c:Int,m.count<=c->c<m.count+l.length->c∉q)(I:m.count<=1000000-l.length)(mem:∀t:Nat,t<l.length->((m.mem).getD (pc+t).toNat default)=fF (l.getD t default)):
  (fC (lower pc l) m).2=true/\(0<=(fC (lower pc l) m).1.count/\(fC (lower pc l) m).1.count<=1000000)/\∃k:Nat,1<=k/\(k:Int)=(fC (lower pc l) m).1.count-m.count+(if(fC (lower pc l) m).1.halt=3 then 1 else 0)/\k<=l.length/\gI q k m=(fC (lower pc l) m).1:=by
 obtain⟨r,i,rfl,s,C,v⟩:=Jc h;have Q:=h.ln;have R:=h.pc;have X:=hm.ct;simp only [length_append,length_cons,length_nil]at Q R mem x I ⊢;have O:((m.mem).getD (pc+r.length).toNat default)=fF i:=by
  have:=mem r.length ah
  rwa [aqJ]at this
 obtain⟨F,B⟩:=UO q pc (r.length+1) ah ah r 0 m s (λc d V=>x c ah ah) p f w ah ah ah (λt H=>by
  have:=mem t ah;rw [aqI H]at this;rw [<-this,Int.add_zero])
 have L:upd m (m.count+0) (pc+0)=m:=by rw [Int.add_zero,Int.add_zero,<-p]
 rw [L]at F B;rw [afi h s C v hm f p ah];by_cases c:(xr pc (r.length+1) 0 m r).2=true
 .rw [if_pos c];obtain⟨⟨U,W⟩,k,G,e,n⟩:=F c;exact⟨rfl,⟨by dsimp only;omega,by dsimp only;omega⟩,k,G,by dsimp only;rw [e,Int.add_zero],by split at e<;>omega,n⟩
 have z:(xr pc (r.length+1) 0 m r).2=false:=by simpa using c
 rw [if_neg c];obtain⟨y,e,n⟩:=B z;obtain⟨u,D,k3,S⟩:=UM (pc:=pc) (len:=r.length+1) r 0 m (λj E=>⟨(s j E).1,(s j E).2.1⟩) hm z;have A:=(e (pc+r.length) ah ah).trans O;have b:=n 1;generalize (xr pc (r.length+1) 0 m r).1=T at y e n u D k3 S A b;rw [show m.count+(0+(r.length:Int))=m.count+r.length by omega,show pc+(0+(r.length:Int))=pc+r.length by omega]at b;have M:=aoN (m:=upd T (m.count+r.length) (pc+r.length)) (x (m.count+r.length) ah ah) (show T.halt=0 by rw [k3,f]) (show m.count+r.length<1000000 by omega) C y (show 0<=pc+(r.length:Int) by omega) (show pc+(r.length:Int)<64 by omega) A 0;rw [M]at b;obtain⟨J,Y,K⟩:=FN (m:=T) v;rw [akt];by_cases d:(i.op=9\/i.op=10)/\64<=adr T i
 .rw [if_pos d,if_pos rfl];refine⟨rfl,⟨show 0<=T.count+_ by omega,show T.count+_<=_ by omega⟩,r.length+1,ah,?_,ah,?_⟩
  .show((r.length+1:Nat):Int)=T.count+r.length-m.count+(if(3:Int)=3 then 1 else 0);rw [if_pos rfl];omega
  .rw [b,Nc d];show({upd T (m.count+r.length) (pc+r.length)with halt:=3}:aC)=leave T r.length 3;unfold leave;rw [u,D,p]
 rw [if_neg d,if_neg (show¬(i.op=10/\pc+(r.length:Int)+1<=adr T i/\adr T i<=pc+((r.length:Int)+1)-1) by omega),if_neg (show¬((eff T i,false):aC×Bool).2=true by intro h;cases h)];have P:((eff T i).halt=3)=False:=by rw [K,k3,f];exact eq_false (by decide)
 refine⟨rfl,⟨show 0<=(eff T i).count+_ by omega,show(eff T i).count+_<=_ by omega⟩,r.length+1,ah,?_,ah,?_⟩
 .show((r.length+1:Nat):Int)=(eff T i).count+(r.length+1)-m.count+(if(eff T i).halt=3 then 1 else 0);rw [if_neg (by rw [P];exact id)];omega
 .rw [b];have a:adr (upd T (m.count+r.length) (pc+r.length)) i=adr T i:=rfl;unfold exec;rw [a,if_neg d,UK];show({eff T i with pc:=nxt (upd T (m.count+r.length) (pc+r.length)) i,count:=m.count+r.length+1}:aC)={eff T i with count:=(eff T i).count+(r.length+1),pc:=epc pc (r.length+1) T i};have N:nxt (upd T (m.count+r.length) (pc+r.length)) i=epc pc (r.length+1) T i:=by
   unfold nxt epc;rw [if_neg (λq=>v q.1)];show(if(i.op=11\/i.op=12)/\wE (i.op-10) ((T.regs).getD (i.d).toNat default) ((T.regs).getD (i.a).toNat default)=true then i.k else if i.op=13 then((T.regs).getD (i.a).toNat default)else(pc+r.length+1)%65536)=_;rw [show(pc+(r.length:Int)+1)%65536=pc+(r.length+1) by omega];by_cases o:i.op=11\/i.op=12
   .rw [if_pos o];by_cases g:wE (i.op-10) ((T.regs).getD (i.d).toNat default) ((T.regs).getD (i.a).toNat default)=true
    .rw [if_pos ⟨o,g⟩,if_pos g]
    .rw [if_neg (λq=>g q.2),if_neg g,if_neg ah]
   .rw [if_neg (λq=>o q.1),if_neg o]
  rw [N,J,u,show m.count+(r.length:Int)+1=m.count+(r.length+1) by omega]
abbrev aqK(b:aC×fE->Bool)(a:aC×fE->Bp):Prop:=∀m q n,MSh m->q.length<1000000000->m.outs.length<800000000->b (m,q,n,())=true/\a (m,q,n,())=m10 (kV q n m)
structure PS where
 m:aC
 L:List Int
 I:List Int
 left:Bool
def sW(x:aC)(a:List (List au))(v:List Int)(pc n h:Int):aC:={x with regs:=a.map (evF v),pc:=pc,count:=x.count+n,halt:=h}
section
variable (T:List Atom) (r0:List Int) (pc len:Int)
def pv(s:PS):List Int:=tv r0 s.L s.I T
def mH(s:PS)(e:Ev):PS:=
 if s.left=true then s
 else if e.kind=7 then {s with m:={s.m with outs:=s.m.outs++ [evF (pv T r0 s) e.x]}}
 else if e.kind=6 then {s with m:={s.m with ins:=s.m.ins.drop 1},I:=s.I++ [s.m.ins.getD 0 default]}
 else if 64<=evF (pv T r0 s) e.x then⟨sW s.m e.regs (pv T r0 s) (pc+e.at_) e.at_ 3,s.L,s.I,true⟩
 else if e.kind=4 then {s with L:=s.L++ [((s.m.mem).getD (evF (pv T r0 s) e.x).toNat default)]}
 else if pc+e.at_<evF (pv T r0 s) e.x/\evF (pv T r0 s) e.x<pc+len then⟨sW {s.m with mem:=s.m.mem.set (evF (pv T r0 s) e.x).toNat (evF (pv T r0 s) e.y)} e.regs (pv T r0 s) (pc+e.at_+1) (e.at_+1) 0,s.L,s.I,true⟩
 else {s with m:={s.m with mem:=s.m.mem.set (evF (pv T r0 s) e.x).toNat (evF (pv T r0 s) e.y)}}
def KE(S:Sym)(p q:Int):Int:=if S.fin=2 then p else if S.fin=1\/S.fin=3/\p=q\/S.fin=4/\p<q then S.k else pc+len
def UQ(S:Sym)(s:PS):aC:=if s.left=true then s.m else sW s.m S.regs (pv T r0 s) (KE pc len S (evF (pv T r0 s) S.x) (evF (pv T r0 s) S.y)) len 0
def abV(S:Sym)(m:aC):aC:=UQ T m.regs pc len S (S.events.foldl (mH T m.regs pc len) ⟨m,[],[],false⟩)
theorem UR:∀(E:List Ev) (s:PS),s.left=true->E.foldl (mH T r0 pc len) s=s
 | [],_,_=>rfl
 | e::E,s,h=>by
  have:mH T r0 pc len s e=s:=by unfold mH;rw [if_pos h]
  rw [foldl_cons,this];exact UR E s h
end
theorem KF{α β:Type}[Inhabited α][Inhabited β]{f:α->β}(h:f default=default)(l:List α)(i:Int):(l.map f).getD i.toNat default=f (l.getD i.toNat default):=by
 rw [getD_eq_getElem?_getD,getElem?_map,getD_eq_getElem?_getD];cases l[i.toNat]? with
 | none=>exact h.symm
 | some x=>rfl
theorem ak5{regs a ins:List Int}{t:List Atom}{k:Int}(d:0<=k)(f:k<t.length):jI (tv regs a ins t) k=aVal regs a ins (tv regs a ins (t.take k.toNat)) ((t).getD (k).toNat default):=by
 have e:t=(t.take k.toNat++ [((t).getD (k).toNat default)])++t.drop (k.toNat+1):=by
  rw [append_assoc,singleton_append,getD_lt (show k.toNat<t.length by omega),<-drop_eq_getElem_cons,take_append_drop]
 have b:(t.take k.toNat).length=k.toNat:=by rw [length_take];omega
 obtain⟨c,hc⟩:=BN regs a ins (t.drop (k.toNat+1)) (t.take k.toNat++ [((t).getD (k).toNat default)]);rw [<-e,Kj]at hc;have lv:=abm regs a ins (t.take k.toNat);rw [hc,wB d (by rw [length_append,lv,b];simp only [length_cons,length_nil];omega)];unfold jI;rw [if_pos (by rw [length_append,lv,b];simp only [length_cons,length_nil];omega),getD_lt (by rw [length_append,lv,b];simp only [length_cons,length_nil];omega),getElem_append_right ah];simp only [lv,b,Nat.sub_self,getElem_cons_zero]
theorem Si{b L I:List Int}(f:wOK b)(j:wOK L)(i:wOK I){t T:List Atom}{a:Atom}(g:aH T)(h:0<=(aQ t a).2)(c:(aQ t a).1<+:T)(hk:a.kind=1\/a.kind=2\/a.kind=3):
  evF (tv b L I T) (fP (aQ t a).2)=if a.kind=1 then jI b a.k else if a.kind=2 then jI L a.k else jI I a.k:=by
 obtain⟨k,d⟩:=qd h;have m:=nZ c;have l:=g.2;rw [Uu _ ⟨h,ah⟩ (agH f j i _),ak5 h ah,RZ c ah,d];unfold aVal;rcases hk with e | e | e<;>simp [e]
theorem afq{l:List Int}{k:Int}(a:0<=k)(h:k<l.length):jI l k=((l).getD (k).toNat default):=by unfold jI;rw [if_pos h]
theorem Ng{l L:List Int}{x k:Int}(hk:(l.length:Int)=k)(h:l++ [x]<+:L):jI L k=x:=by
 obtain⟨c,rfl⟩:=h;unfold jI;rw [if_pos (by simp only [length_append,length_cons,length_nil];omega),append_assoc,getD_eq_getElem?_getD,getElem?_append_right ah,show k.toNat-l.length=0 by omega];rfl
structure PJ(T:List Atom)(r0:List Int)(M:MS)(S:SS)(P:PS):Prop where
 lf:P.left=false
 m:P.m={M.m with regs:=r0}
 ld:(P.L.length:Int)=S.ld
 inn:(P.I.length:Int)=S.inn
 wl:wOK P.L
 wi:wOK P.I
 v:∀L I,P.L<+:L->P.I<+:I->wOK L->wOK I->S.vals.map (evF (tv r0 L I T))=M.vals
 r:∀L I,P.L<+:L->P.I<+:I->wOK L->wOK I->S.regs.map (evF (tv r0 L I T))=M.m.regs
structure MJ(b:Blk)(i:Nat)(M:MS):Prop where
 lf:M.left=false
 ln:M.vals.length=i
 wv:Wos M.vals
 ok:MOK M.m
 pc:M.m.pc=b.pc
 ha:M.m.halt=0
theorem PJ.x{T:List Atom}{a:List Int}{M:MS}{S:SS}{P:PS}(h:PJ T a M S P){L I:List Int}(c:P.L<+:L)(h2:P.I<+:I)(d:wOK L)(b:wOK I)(o:IOp):evF (tv a L I T) (xOf S o)=vx M o/\evF (tv a L I T) (yOf S o)=vy M o:=by
 have e:=h.v L I c h2 d b;unfold xOf yOf vx vy;rw [<-e];constructor
 .split
  .exact(KF (f:=evF (tv a L I T)) rfl S.vals o.x).symm
  .rfl
 .split
  .exact(KF (f:=evF (tv a L I T)) rfl S.vals o.y).symm
  .rfl
theorem KG{s:MS}(o:IOp):(mM s o).pc=s.m.pc/\(mM s o).halt=s.m.halt/\(mM s o).count=s.m.count:=by
 unfold mM
 repeat' split
 all_goals exact⟨rfl,rfl,rfl⟩
theorem ak6{T:List Atom}{l:List Int}{b:Blk}{n:Int}{i:Nat}{M:MS}{S:SS}{P:PS}{o:IOp}{t:Int}(N:wOK l)(C:aH T)(J:T≠ [])(h:PJ T l M S P)(y:SI n i S)(hm:MJ b i M)(hk:1<=o.kind/\o.kind<=8)(U:o.kind=1->0<=o.k/\o.k<=65535)(k3:o.kind=3->1<=o.k/\o.k<=5)(hn:n+i<200)(hi:i<200)(Z:(stp S o).t<+:T)(hl:t=b.len):
  (∃a,(stp S o).evs=S.evs++(if evO o then [⟨o.kind,o.at_,xOf S o,yOf S o,if o.kind=4\/o.kind=5 then S.regs else []⟩]else [])/\(if evO o then [(⟨o.kind,o.at_,xOf S o,yOf S o,if o.kind=4\/o.kind=5 then S.regs else []⟩:Ev)]else []).foldl (mH T l b.pc t) P=a/\
   ((PJ T l (aJ b M o) (stp S o) a/\MJ b (i+1) (aJ b M o))\/((aJ b M o).left=true/\a.left=true/\a.m=(aJ b M o).m))):=by
 subst hl;refine⟨_,?_,rfl,?_⟩
 .show nE S o=_;unfold nE;split<;>simp
 obtain⟨a1,R⟩:=BO y k3 hn hi;obtain⟨ex,ey⟩:=h.x (prefix_refl P.L) (prefix_refl P.I) h.wl h.wi o;have X:=h.r P.L P.I (prefix_refl P.L) (prefix_refl P.I) h.wl h.wi;have Y:(P.m.mem=M.m.mem)/\P.m.ins=M.m.ins/\P.m.outs=M.m.outs/\P.m.count=M.m.count:=by rw [h.m];exact⟨rfl,rfl,rfl,rfl⟩
 have B:∀a:PS,¬((o.kind=4\/o.kind=5)/\64<=vx M o)->¬(o.kind=5/\b.pc+o.at_+1<=vx M o/\vx M o<=b.pc+b.len-1)->a.left=false->a.m={mM M o with regs:=l}->
   a.L=(if o.kind=4 then P.L++ [((M.m.mem).getD (vx M o).toNat default)]else P.L)->a.I=(if o.kind=6 then P.I++ [M.m.ins.getD 0 default]else P.I)->PJ T l (aJ b M o) (stp S o) a/\MJ b (i+1) (aJ b M o):=by
  intro a w G q1 q2 D H;have e:aJ b M o=⟨mM M o,M.vals++ [mV M o],false⟩:=by unfold aJ;rw [if_neg (by rw [hm.lf];decide),if_neg w,if_neg G]
  have mk:=KG (s:=M) o;rw [e];have x:P.L<+:a.L:=by rw [D];split;exact prefix_append _ _;exact prefix_refl _
  have v:P.I<+:a.I:=by rw [H];split;exact prefix_append _ _;exact prefix_refl _
  have V:∀L I,a.L<+:L->a.I<+:I->wOK L->wOK I->evF (tv l L I T) (nV S o)=mV M o:=by
   intro L I m k j g;obtain⟨O,fy⟩:=h.x (x.trans m) (v.trans k) j g o;have F:=h.r L I (x.trans m) (v.trans k) j g;unfold nV mV;by_cases A:o.kind=1
   .rw [if_pos A,if_pos A];exact Aq _ (U A)
   rw [if_neg A,if_neg A];by_cases E:o.kind=2
   .rw [if_pos E,if_pos E,<-F];exact(KF (f:=evF (tv l L I T)) rfl S.regs o.k).symm
   rw [if_neg E,if_neg E];by_cases u:o.kind=3
   .rw [if_pos u,if_pos u];have d:=R.d u;have tp:(tDo S.t o.k (xOf S o) (yOf S o)).1<+:T:=by
     have:(stp S o).t=(tDo S.t o.k (xOf S o) (yOf S o)).1:=by show nT S o=_;unfold nT;rw [if_pos u]
     rwa [this]at Z
    have on:=R4 C d.ok tp;have lp:=nZ tp;have lq:=nZ d.pre;have dd:=anH N j g C (k3 u) (y.x o).1 (y.y o).1 (xG (y.x o).2 ah) (xG (y.y o).2 ah) (by rw [on];exact J);rw [on]at dd;rw [dd.2.2.2,O,fy]
   rw [if_neg u,if_neg u];by_cases q:o.kind=4\/o.kind=6
   .rw [if_pos q];have tp:(aQ S.t (aOf S o)).1<+:T:=by
     have:(stp S o).t=(aQ S.t (aOf S o)).1:=by show nT S o=_;unfold nT;rw [if_neg u,if_pos q]
     rwa [this]at Z
    rcases q with r | p
    .have ea:aOf S o=⟨2,S.ld,[],[]⟩:=by unfold aOf;rw [if_pos r]
     rw [Si N j g C (R.p (Or.inl r)) tp (by rw [ea];exact Or.inr (Or.inl rfl)),ea,if_pos r];show jI L S.ld=_;rw [D,if_pos r]at m;exact Ng h.ld m
    .have ea:aOf S o=⟨3,S.inn,[],[]⟩:=by unfold aOf;rw [if_neg ah]
     rw [Si N j g C (R.p (Or.inr p)) tp (by rw [ea];exact Or.inr (Or.inr rfl)),ea,if_neg (show¬o.kind=4 by omega),if_pos p];show jI I S.inn=_;rw [H,if_pos p]at k;exact Ng h.inn k
   .rw [if_neg q,if_neg ah,if_neg ah];rfl
  refine⟨⟨q1,q2,?_,?_,?_,?_,λL I m k j g=> ?_,λL I m k j g=> ?_⟩,⟨rfl,by rw [length_append,hm.ln];rfl,hm.wv.snoc (abH hm.wv hm.ok U),abI hm.wv hm.ok o,by rw [<-hm.pc];exact mk.1,by rw [<-hm.ha];exact mk.2.1⟩⟩
  .rw [D];show _=(if o.kind=4 then S.ld+1 else S.ld);split
   .rw [length_append,length_cons,length_nil];have:=h.ld;omega
   .exact h.ld
  .rw [H];show _=(if o.kind=6 then S.inn+1 else S.inn);split
   .rw [length_append,length_cons,length_nil];have:=h.inn;omega
   .exact h.inn
  .rw [D];split
   .exact h.wl.snoc (hm.ok.mw.at _)
   .exact h.wl
  .rw [H];split
   .exact h.wi.snoc hm.ok.iw.hd
   .exact h.wi
  .show(S.vals++ [nV S o]).map _=M.vals++ [mV M o];rw [map_append,h.v L I (x.trans m) (v.trans k) j g,map_cons,map_nil,V L I m k j g]
  .show(nR S o).map _=(mM M o).regs;have F:=h.r L I (x.trans m) (v.trans k) j g;obtain⟨O,_⟩:=h.x (x.trans m) (v.trans k) j g o;unfold nR mM;by_cases Q:o.kind=8
   .rw [if_pos Q,if_neg ah,if_neg ah,if_neg ah,if_pos Q,map_set,F,O]
   .rw [if_neg Q,F]
    repeat' split
    all_goals first | rfl | (exfalso;omega)
 by_cases c:evO o
 .rw [if_pos c,foldl_cons,foldl_nil];unfold mH pv;rw [if_neg (by rw [h.lf];decide)];dsimp only;rw [ex,ey];by_cases K:o.kind=7
  .rw [if_pos K];refine Or.inl (B _ ah ah h.lf ?_ (by rw [if_neg ah]) (by rw [if_neg ah]));show({P.m with outs:=P.m.outs++ [vx M o]}:aC)=_;unfold mM;rw [if_neg ah,if_neg ah,if_pos K,h.m]
  rw [if_neg K];by_cases p:o.kind=6
  .rw [if_pos p];refine Or.inl (B _ ah ah h.lf ?_ (by rw [if_neg ah]) (by rw [if_pos p,Y.2.1]));show({P.m with ins:=P.m.ins.drop 1}:aC)=_;unfold mM;rw [if_neg ah,if_pos p,h.m]
  rw [if_neg p];have z:o.kind=4\/o.kind=5:=by have:=c.1;have:=c.2;omega
  rw [if_pos z];by_cases w:64<=vx M o
  .rw [if_pos w];have e:aJ b M o=⟨leave M.m o.at_ 3,M.vals,true⟩:=by unfold aJ;rw [if_neg (by rw [hm.lf];decide),if_pos ⟨z,w⟩]
   refine Or.inr ⟨by rw [e],rfl,?_⟩;rw [e];show sW P.m S.regs (tv l P.L P.I T) (b.pc+o.at_) o.at_ 3=leave M.m o.at_ 3;unfold sW leave;rw [X,h.m,hm.pc]
  rw [if_neg w];by_cases r:o.kind=4
  .rw [if_pos r];refine Or.inl (B _ ah ah h.lf ?_ (by rw [if_pos r,Y.1]) (by rw [if_neg ah]));show P.m=_;unfold mM;rw [if_neg ah,if_neg ah,if_neg ah,if_neg ah,h.m]
  rw [if_neg r];have W:o.kind=5:=by omega
  have m5:mM M o={M.m with mem:=M.m.mem.set (vx M o).toNat (vy M o)}:=by unfold mM;rw [if_pos W]
  by_cases G:b.pc+o.at_<vx M o/\vx M o<b.pc+b.len
  .rw [if_pos G];have e:aJ b M o=⟨leave (mM M o) (o.at_+1) (mM M o).halt,M.vals,true⟩:=by unfold aJ;rw [if_neg (by rw [hm.lf];decide),if_neg ah,if_pos ⟨W,ah,ah⟩]
   refine Or.inr ⟨by rw [e],rfl,?_⟩;rw [e];show sW {P.m with mem:=P.m.mem.set (vx M o).toNat (vy M o)} S.regs (tv l P.L P.I T) (b.pc+o.at_+1) (o.at_+1) 0=leave (mM M o) (o.at_+1) (mM M o).halt;unfold sW leave;rw [X,h.m,m5];dsimp only;rw [hm.pc,hm.ha,show b.pc+(o.at_+1)=b.pc+o.at_+1 by omega]
  .rw [if_neg G];refine Or.inl (B _ ah ah h.lf ?_ (by rw [if_neg r]) (by rw [if_neg p]));show({P.m with mem:=P.m.mem.set (vx M o).toNat (vy M o)}:aC)=_;rw [m5,h.m]
 .rw [if_neg c,foldl_nil];refine Or.inl (B _ ah ah h.lf ?_ (by rw [if_neg ah]) (by rw [if_neg ah]));rw [h.m];unfold mM;rw [if_neg ah,if_neg ah,if_neg ah];split<;>rfl
end Go.TX.F
namespace Go.TX.F
open Go Go.AE Go.TX List
def UU:∀(a:List IOp) (s:SS),∃E,(a.foldl stp s).evs=s.evs++E
 | [],s=>⟨[],by simp⟩
 | o::r,s=>by
  obtain⟨E,h⟩:=UU r (stp s o);rw [foldl_cons,h];have:∃F,(stp s o).evs=s.evs++F:=by
   show∃F,nE s o=_;unfold nE;split
   .exact⟨_,rfl⟩
   .exact⟨[],by simp⟩
  obtain⟨F,e⟩:=this;exact⟨F++E,by rw [e,append_assoc]⟩
def UW{T:List Atom}{c:List Int}{b:Blk}{n:Int}(k:wOK c)(j:aH T)(e:T≠ [])(d:PS):∀(a:List IOp) (i:Nat) (M:MS) (S:SS) (P:PS),PJ T c M S P->SI n i S->MJ b i M->
  (∀o∈a,(1<=o.kind/\o.kind<=8)/\(o.kind=1->0<=o.k/\o.k<=65535)/\(o.kind=3->1<=o.k/\o.k<=5))->n+i+a.length<=200->i+a.length<=200->(a.foldl stp S).t<+:T->S.evs.foldl (mH T c b.pc b.len) d=P->
  (PJ T c (a.foldl (aJ b) M) (a.foldl stp S) ((a.foldl stp S).evs.foldl (mH T c b.pc b.len) d)/\MJ b (i+a.length) (a.foldl (aJ b) M))\/
  ((a.foldl (aJ b) M).left=true/\((a.foldl stp S).evs.foldl (mH T c b.pc b.len) d).left=true/\((a.foldl stp S).evs.foldl (mH T c b.pc b.len) d).m=(a.foldl (aJ b) M).m)
 | [],i,M,S,P,h,hs,hm,_,_,_,_,hP=>by
  subst hP;exact Or.inl ⟨h,hm⟩
 | o::r,i,M,S,P,h,hs,hm,hk,h1,h2,hp,hP=>by
  rw [length_cons]at h1 h2;rw [foldl_cons]at hp;obtain⟨t,s,k3⟩:=hk o mem_cons_self;obtain⟨l,A⟩:=BO hs k3 ah ah;have w:=(wC r (i+1) (stp S o) l (λo g=>(hk o (mem_cons_of_mem _ g)).2.2) ah ah).2;obtain⟨q,y,u,H⟩:=ak6 k j e h hs hm t s k3 ah ah (w.trans hp) rfl;have f:(stp S o).evs.foldl (mH T c b.pc b.len) d=q:=by rw [y,foldl_append,hP,u]
  simp only [foldl_cons];rcases H with⟨z,x⟩ | ⟨m,p,v⟩
  .have:=UW k j e d r (i+1) _ _ q z l x (λo g=>hk o (mem_cons_of_mem _ g)) ah ah hp f;rw [length_cons,show i+(r.length+1)=i+1+r.length by omega];exact this
  .obtain⟨E,eE⟩:=UU r (stp S o);refine Or.inr ?_;rw [Dy b m r,eE,foldl_append,f,UR _ _ _ _ _ _ p];exact⟨m,p,v⟩
def agN{t T:List Atom}{a L I:List Int}(b:wOK a)(g:wOK L)(f:wOK I)(h:aH t)(c:t.length<=196)(d:aH T)(i:a.length=4):∀n:Nat,n<=4->(rN t n).1<+:T->(rN t n).2.map (evF (tv a L I T))=a.take n
 | 0,_,_=>rfl
 | n+1,hn,hp=>by
  have k:=rH (rN t n).1 ⟨1,n,[],[]⟩;have j:=agN b g f h c d i n ah (k.trans hp);show((rN t n).2++ [fP (aQ (rN t n).1 ⟨1,n,[],[]⟩).2]).map _=_;have e:=Si (L:=L) (I:=I) b g f d (zm h c (n:=n) ah) hp (Or.inl rfl);rw [if_pos rfl]at e;rw [map_append,j,map_cons,map_nil,e,take_succ_eq_append_getElem ah];show a.take n++ [jI a (n:Int)]=_;rw [afq ah ah,getD_lt ah];rfl
def Sj{v:List Int}{z:List au}(g:(dB z).2=true):evF v z=(dB z).1:=by
 obtain⟨_,e,b,a⟩:=sU g
 conv=>lhs;rw [e]
 exact Aq v ⟨b,a⟩
def ak7(pc len:Int)(v:List Int){S:Sym}(h:aV S.x/\aV S.y):KE pc len (symEnd S (pc+len)) (evF v (symEnd S (pc+len)).x) (evF v (symEnd S (pc+len)).y)=KE pc len S (evF v S.x) (evF v S.y):=by
 unfold symEnd;rw [if_neg (by rw [aR h];simp)];split
 .rename_i c;unfold KE;dsimp only;rw [if_neg (by decide),if_pos (Or.inl rfl),if_pos c.1,Sj c.2]
 split
 .rfl
 split
 .rename_i c1 c2 c;have b:S.fin=3\/S.fin=4:=by omega
  unfold KE;dsimp only;rw [if_neg (by decide),if_pos (Or.inl rfl),if_neg (show¬S.fin=2 by omega)];have a:(S.x=S.y/\S.fin=3\/((dB S.x).2=true/\(dB S.y).2=true)/\(S.fin=3/\(dB S.x).1=(dB S.y).1\/S.fin=4/\(dB S.x).1< (dB S.y).1))↔(S.fin=1\/S.fin=3/\evF v S.x=evF v S.y\/S.fin=4/\evF v S.x<evF v S.y):=by
   by_cases e:S.x=S.y
   .rw [e];constructor
    .rintro(⟨_,q⟩ | ⟨_,⟨q,_⟩ | ⟨_,q⟩⟩)
     .exact Or.inr (Or.inl ⟨q,rfl⟩)
     .exact Or.inr (Or.inl ⟨q,rfl⟩)
     .omega
    .rintro(q | ⟨q,_⟩ | ⟨_,q⟩)
     .omega
     .exact Or.inl ⟨rfl,q⟩
     .omega
   .obtain⟨n1,n2⟩:=c.resolve_left e;rw [Sj n1,Sj n2];constructor
    .rintro(⟨q,_⟩ | ⟨_,q | q⟩)
     .exact absurd q e
     .exact Or.inr (Or.inl q)
     .exact Or.inr (Or.inr q)
    .rintro(q | q | q)
     .omega
     .exact Or.inr ⟨⟨n1,n2⟩,Or.inl q⟩
     .exact Or.inr ⟨⟨n1,n2⟩,Or.inr q⟩
  by_cases d:S.fin=1\/S.fin=3/\evF v S.x=evF v S.y\/S.fin=4/\evF v S.x<evF v S.y
  .rw [if_pos (a.2 d),if_pos d]
  .rw [if_neg (λq=>d (a.1 q)),if_neg d]
 split
 .rename_i c;unfold KE;dsimp only;rw [if_neg (show¬S.fin=2 by omega),if_neg (show¬S.fin=2 by omega)];have a:(S.fin=1\/S.fin=3/\evF v S.y=evF v S.x\/S.fin=4/\evF v S.y<evF v S.x)↔(S.fin=1\/S.fin=3/\evF v S.x=evF v S.y\/S.fin=4/\evF v S.x<evF v S.y):=by omega
  by_cases d:S.fin=1\/S.fin=3/\evF v S.x=evF v S.y\/S.fin=4/\evF v S.x<evF v S.y
  .rw [if_pos (a.2 d),if_pos d]
  .rw [if_neg (λq=>d (a.1 q)),if_neg d]
 .rfl
theorem FR{t T:List Atom}{b:Blk}{m:aC}(c:aH t)(x:t.length<=100)(a:dK b)(q:aH T)(g:(bN t b).1<+:T)(hm:MOK m)(N:m.halt=0)(V:m.pc=b.pc)(g2:m.count<=1000000-b.len):fC b m=(abV T b.pc b.len (bN t b).2 m,true):=by
 have sz:=a.sz;have E:bN t b=((gZ t b).t,symEnd (uJ b (gZ t b)) (b.pc+b.len)):=by unfold bN;rw [if_pos (aR ⟨c,x,a⟩)]
 rw [E]at g ⊢;dsimp only at g ⊢;have u:=Ja c ah;have SO:=(Kl c x a).1;have w:wOK m.regs:=hm.rw;have v:=(wC b.ops 0 (s0 t) u a.k3 ah ah).2;have X:∀o∈b.ops,(1<=o.kind/\o.kind<=8)/\(o.kind=1->0<=o.k/\o.k<=65535)/\(o.kind=3->1<=o.k/\o.k<=5):=λo U=>by
  obtain⟨j,hj,rfl⟩:=getElem_of_mem U;have:=a.op j ah ah;rw [getD_lt ah]at this;exact⟨this.kd,this.k1,this.k3⟩
 have O:PJ T m.regs ⟨m,[],false⟩ (s0 t) ⟨m,[],[],false⟩:=⟨rfl,rfl,rfl,rfl,λ_ h=>(by cases h),λ_ h=>(by cases h),λL I _ _ _ _=>rfl,λL I _ _ w2 D=>by
  have:=agN w w2 D c ah q hm.r4 4 (Nat.le_refl _) (v.trans g);rw [take_of_length_le (by rw [hm.r4];exact Nat.le_refl _)]at this;exact this⟩
 have G:MJ b 0 ⟨m,[],false⟩:=⟨rfl,rfl,λ_ h=>(by cases h),hm,V,N⟩;have l:T≠ []:=by
  have q8:0<=(aQ (rN t 3).1 ⟨1,((3:Nat):Int),[],[]⟩).2:=zm c ah (n:=3) ah;have S:=qd (zm c ah (n:=3) ah:0<=(aQ (rN t 3).1 ⟨1,((3:Nat):Int),[],[]⟩).2);have s:=nZ (v.trans g);have H:(s0 t).t=(aQ (rN t 3).1 ⟨1,((3:Nat):Int),[],[]⟩).1:=rfl;intro z;rw [z,H]at s;have q7:=S.1;simp only [length_nil]at s;omega
 have F:=UW w q l ⟨m,[],[],false⟩ b.ops 0 ⟨m,[],false⟩ (s0 t) _ O u G X ah ah g rfl;have y:=Kn (b:=b) SO;obtain⟨C,W,_,_⟩:=Au (n:=b.pc+b.len) y;have B:fC b m=(oV b (b.ops.foldl (aJ b) ⟨m,[],false⟩),true):=by unfold fC;rw [aR ⟨a,hm⟩,if_pos rfl,if_neg ah]
 rw [B];unfold abV;rw [C];show _=(UQ T m.regs b.pc b.len (symEnd (uJ b (gZ t b)) (b.pc+b.len)) ((gZ t b).evs.foldl (mH T m.regs b.pc b.len) ⟨m,[],[],false⟩),true);rw [show b.ops.foldl stp (s0 t)=gZ t b from rfl]at F;generalize (gZ t b).evs.foldl (mH T m.regs b.pc b.len) ⟨m,[],[],false⟩=P at F;generalize b.ops.foldl (aJ b) ⟨m,[],false⟩=M at F;rcases F with⟨J,K⟩ | ⟨Y,Z,R⟩
 .unfold oV UQ;rw [if_neg (show¬M.left=true by rw [K.lf];decide),if_neg (show¬P.left=true by rw [J.lf];decide),ak7 _ _ _ y,W];unfold pv;have ev:=J.v P.L P.I (prefix_refl _) (prefix_refl _) J.wl J.wi;have Q:=J.r P.L P.I (prefix_refl _) (prefix_refl _) J.wl J.wi;have wv:wOK M.vals:=K.wv;have vx:=λi:Int=>(KF (f:=evF (tv m.regs P.L P.I T)) rfl (gZ t b).vals i).symm
  rw [ev]at vx;have p:=λi:Int=>K.wv.at i
  have en:=a.en.f;refine Prod.ext ?_ rfl;show({M.m with count:=M.m.count+b.len,pc:=if b.fin=1 then b.k else if b.fin=2 then((M.vals).getD (b.x).toNat default)else if wE (b.fin-2) ((M.vals).getD (b.x).toNat default) ((M.vals).getD (b.y).toNat default)=true then b.k else b.pc+b.len}:aC)=sW P.m (gZ t b).regs (tv m.regs P.L P.I T) (KE b.pc b.len (uJ b (gZ t b)) (evF (tv m.regs P.L P.I T) (uJ b (gZ t b)).x) (evF (tv m.regs P.L P.I T) (uJ b (gZ t b)).y)) b.len 0;unfold sW;rw [Q,J.m];dsimp only;have epc:(if b.fin=1 then b.k else if b.fin=2 then((M.vals).getD (b.x).toNat default)else if wE (b.fin-2) ((M.vals).getD (b.x).toNat default) ((M.vals).getD (b.y).toNat default)=true then b.k else b.pc+b.len)=KE b.pc b.len (uJ b (gZ t b)) (evF (tv m.regs P.L P.I T) (uJ b (gZ t b)).x) (evF (tv m.regs P.L P.I T) (uJ b (gZ t b)).y):=by
   unfold KE uJ;dsimp only;by_cases e:b.fin=1
   .rw [if_pos e,if_neg ah,if_pos (Or.inl e)]
   rw [if_neg e];by_cases k:b.fin=2
   .rw [if_pos k,if_pos k,if_neg e,vx]
   rw [if_neg k,if_neg k,if_neg e,if_pos (show 3<=b.fin by omega),vx b.x,vx b.y];obtain⟨r,A⟩:=DC (p b.x) (p b.y);by_cases f3:b.fin=3
   .rw [f3,show(3:Int)-2=1 by decide];by_cases d:((M.vals).getD (b.x).toNat default)=((M.vals).getD (b.y).toNat default)
    .rw [if_pos (r.2 d),if_pos (Or.inr (Or.inl ⟨rfl,d⟩))]
    .rw [if_neg (λz=>d (r.1 z)),if_neg ah]
   .have f4:b.fin=4:=by omega
    rw [f4,show(4:Int)-2=2 by decide];by_cases d:((M.vals).getD (b.x).toNat default)< ((M.vals).getD (b.y).toNat default)
    .rw [if_pos (A.2 d),if_pos (Or.inr (Or.inr ⟨rfl,d⟩))]
    .rw [if_neg (λz=>d (A.1 z)),if_neg ah]
  rw [epc,<-K.ha]
 .unfold oV UQ;rw [if_pos Y,if_pos Z,R]
def UY{b c:Blk}(h:chk b c=true)(m:aC):fC b m=fC c m/\dK b/\dK c/\b.pc=c.pc/\b.len=c.len:=by
 obtain⟨d,e,j,len,h⟩:=aX.1 h;refine⟨?_,d,e,j,len⟩;rcases h with rfl | h
 .rfl
 by_cases k:MOK m/\m.halt=0/\m.pc=b.pc/\m.count<=1000000-b.len
 .obtain⟨hm,g0,g1,g2⟩:=k;have g:=Ux;have s:=d.sz;obtain⟨f,r,o⟩:=xH g.1 ah d;obtain⟨i,n,p⟩:=xH f ah e;rw [FR g.1 ah d i n hm g0 g1 g2,FR f ah e i (prefix_refl _) hm g0 ah ah,h,j,len]
 .unfold fC;by_cases hm:MOK m
  .have k':m.halt≠0\/m.pc≠b.pc\/1000000-b.len<m.count:=by
    by_cases a:m.halt=0
    .by_cases a2:m.pc=b.pc
     .exact Or.inr (Or.inr (Int.not_le.1 λl=>k ⟨hm,a,a2,l⟩))
     .exact Or.inr (Or.inl a2)
    .exact Or.inl a
   rw [aR ⟨d,hm⟩,aR ⟨e,hm⟩,if_pos rfl,if_pos ah,if_pos rfl,if_pos ah]
  .rw [bJ (λq=>hm q.2),bJ (λq=>hm q.2),if_neg (by decide),if_neg (by decide)]
noncomputable def qh:List Int->List Ins
 | []=> []
 | w::r=>if bp (Wo w/\bf (bS w))=true then bS w::qh r else []
def Nh{w:Int}(h:Wo w)(k:bf (bS w)):fF (bS w)=w:=by
 unfold fF;rw [aR k,if_pos rfl];obtain⟨b,a⟩:=h;unfold BQ bS;dsimp only;omega
def Jd:∀ {a:List Int},(qh a).length=a.length->∀t:Nat,t<a.length->bf ((qh a).getD t default)/\fF ((qh a).getD t default)=a.getD t default
 | [],_,t,h=>by cases h
 | w::r,h,t,ht=>by
  unfold qh at h ⊢;by_cases c:Wo w/\bf (bS w)
  .rw [aR c,if_pos rfl]at h ⊢;simp only [length_cons]at h ht;cases t with
   | zero=>exact⟨c.2,Nh c.1 c.2⟩
   | succ t=>exact Jd ah t ah
  .rw [bJ c,if_neg (by decide)]at h;simp at h
def Je:∀ {l:List Ins},(∀i∈l,bf i)->qh (l.map fF)=l
 | [],_=>rfl
 | i::l,h=>by
  have a:=h i (mem_cons_self ..);rw [map_cons];unfold qh;rw [Nb a,aR ⟨xJ i,a⟩,if_pos rfl,Je λj b=>h j (mem_cons_of_mem _ b)]
def aoO(e:Cac)(mem:List Int):Prop:=0<=e.blk.pc/\∀t:Nat,t<e.words.length->e.blk.pc+t<mem.length/\((mem).getD (e.blk.pc+t).toNat default)=e.words.getD t default
structure abW(e:Cac):Prop where
 len:(qh e.words).length=e.words.length
 ok:nK e.blk.pc (qh e.words)
 chk:chk (lower e.blk.pc (qh e.words)) e.blk=true
def abX(m:aC)(i:Ins):(exec m i).count=m.count+1\/(exec m i).halt≠0/\(exec m i).count=m.count:=by
 unfold exec;split
 .exact Or.inr ⟨show(3:Int)≠0 by decide,rfl⟩
 .exact Or.inl rfl
def FT(m:aC)(b:Bool):(stepM m b).count=m.count+1\/(stepM m b).halt≠0/\(stepM m b).count=m.count:=by
 obtain⟨_,_,e⟩:=zq m b;rw [jN,<-e];split
 .exact Or.inr ⟨show(4:Int)≠0 by decide,rfl⟩
 split
 .exact Or.inr ⟨show(2:Int)≠0 by decide,rfl⟩
 .exact abX _ _
def WO(m:aC)(b:Bool):m.count<=(stepM m b).count:=by rcases FT m b with h | h<;>omega
def abY(m:aC)(b:Bool):m.count< (stepM m b).count\/(stepM m b).halt≠0:=by
 rcases FT m b with h | h
 .exact Or.inl ah
 .exact Or.inr h.1
def afr{e:Cac}{m:aC}{q:List Int}(h:abW e)(hc:aoO e m.mem)(hm:MOK m)(g:m.halt=0)(C:m.pc=e.blk.pc)(w:¬((m.waits || bp (m.count∈q))=true/\m.aO=true))(u:∀c:Int,m.count<c->c<m.count+e.blk.len->c∉q)(O:m.count<=1000000-e.blk.len):
  1<=e.blk.len/\e.blk.len<=8/\e.blk.len=e.words.length/\(fC e.blk {m with waits:=m.waits || bp (m.count∈q)}).2=true/\∃k:Nat,1<=k/\(k:Int)<=e.blk.len/\(k:Int)=(fC e.blk {m with waits:=m.waits || bp (m.count∈q)}).1.count-m.count+(if(fC e.blk {m with waits:=m.waits || bp (m.count∈q)}).1.halt=3 then 1 else 0)/\
   gI q k m=(fC e.blk {m with waits:=m.waits || bp (m.count∈q)}).1:=by
 have s:=Jd h.len;have f:=UY h.chk;obtain⟨_,R,L,epc,aqL⟩:=f m;obtain⟨Q,H⟩:=aku h.ok;have U:=h.ok.ln;have N:e.blk.len=(qh e.words).length:=by rw [<-aqL,H]
 have P:=h.len
 let a:List Int:=q.filter λc=>decide (c≠m.count)
 have D:MOK {m with waits:=m.waits || bp (m.count∈q)}:={hm with};have A:=WM (q:=a) (pc:=e.blk.pc) (m:={m with waits:=m.waits || bp (m.count∈q)}) h.ok D g C w (λc i j d=>by
   have i:m.count<=c:=i;have j:c<m.count+(qh e.words).length:=j;obtain⟨K,l⟩:=mem_filter.1 d;have l:c≠m.count:=by simpa using l
   exact u c ah ah K) (show m.count<=_ by omega) (λt M=>by
   obtain⟨y1,y2⟩:=hc.2 t ah;rw [(s t ah).2];exact y2)
 have I:=(UY h.chk {m with waits:=m.waits || bp (m.count∈q)}).1;rw [I]at A;obtain⟨r,T,k,v,p,S,k3⟩:=A;refine⟨ah,ah,ah,r,k,v,ah,p,?_⟩;rw [<-k3];have o:m.count<1000000:=by omega
 have b:∀n:Nat,∀X:aC,(m.count<X.count\/X.halt≠0)->gI q n X=gI a n X:=by
  intro n
  induction n with
  | zero=>exact λX _=>rfl
  | succ n G=>
   intro X hX;unfold gI;by_cases c:X.halt=0/\X.count<1000000
   .rw [if_pos c,if_pos c];have x:m.count<X.count:=hX.resolve_right (λz=>z c.1);have B:bp (X.count∈q)=bp (X.count∈a):=iF ⟨λz=>mem_filter.2 ⟨z,by simp;omega⟩,λz=>(mem_filter.1 z).1⟩;rw [B];refine G _ (Or.inl (Int.lt_of_lt_of_le x ?_));exact WO X _
   .rw [if_neg c,if_neg c]
 obtain⟨n,rfl⟩:∃n,k=n+1:=⟨k-1,ah⟩;unfold gI;rw [if_pos ⟨g,o⟩,if_pos (show m.halt=0/\m.count<1000000 from⟨g,o⟩)];have E:smp m (bp (m.count∈q))={m with waits:=m.waits || bp (m.count∈q)}:=by unfold smp;rw [if_neg w]
 have y:smp {m with waits:=m.waits || bp (m.count∈q)} false={m with waits:=m.waits || bp (m.count∈q)}:=abS w;have F:bp (m.count∈a)=false:=bJ λz=>by have:=(mem_filter.1 z).2;simp at this
 have J:stepM {m with waits:=m.waits || bp (m.count∈q)} (bp (m.count∈a))=stepM m (bp (m.count∈q)):=by
  rw [F,jN,jN,E,y]
 show _=gI a n (stepM {m with waits:=m.waits || bp (m.count∈q)} (bp (m.count∈a)));rw [J];exact b n _ (abY m _)
variable{l:List Cac}
def CAB:(∀e:Cac,iW .cac 0 .i64 e=e.words)/\(∀e:Cac,bR .cac 1 e=e.blk.pc)/\(∀e:Cac,bR .cac 2 e=e.blk.len)/\(∀e:Cac,iW .cac 3 .iop e=e.blk.ops)/\(∀e:Cac,bR .cac 4 e=e.blk.fin)/\(∀e:Cac,bR .cac 5 e=e.blk.x)/\(∀e:Cac,bR .cac 6 e=e.blk.y)/\(∀e:Cac,bR .cac 7 e=e.blk.k):=
 ⟨λ_=>rfl,λ_=>rfl,λ_=>rfl,λ_=>rfl,λ_=>rfl,λ_=>rfl,λ_=>rfl,λ_=>rfl⟩
def CAM:(∀e:Cac,Co.mk .cac (e.words,e.blk.pc,e.blk.len,e.blk.ops,e.blk.fin,e.blk.x,e.blk.y,e.blk.k,())=e)/\(∀x:Cac,([x].length:Int)=1):=⟨λ_=>rfl,λ_=>rfl⟩
def ShK(l:List Cac):Prop:=l.length<1000/\∀x∈l,x.words.length<1000/\x.blk.ops.length<1000000/\x.blk.pc<=1000000
def ShK.at(h:ShK l)(i:Nat):(l.getD i default).words.length<1000/\(l.getD i default).blk.ops.length<1000000/\(l.getD i default).blk.pc<=1000000:=by
 by_cases c:i<l.length
 .rw [getD_lt c];exact h.2 _ (getElem_mem _)
 .rw [getD_eq_getElem?_getD,getElem?_eq_none ah];exact⟨by decide,by decide,by decide⟩
def ShX(l:List Cac):Prop:=l.length<1000000000/\∀x∈l,x.words.length<1000000000/\x.blk.ops.length<1000000000
def ShK.x(h:ShK l):ShX l:=⟨by have:=h.1;omega,λq g=>by have:=h.2 q g;omega⟩
def ShX.at(h:ShX l)(i:Nat):(l.getD i default).words.length<1000000000/\(l.getD i default).blk.ops.length<1000000000:=by
 by_cases c:i<l.length
 .rw [getD_lt c];exact h.2 _ (getElem_mem _)
 .rw [getD_eq_getElem?_getD,getElem?_eq_none ah];exact⟨by decide,by decide⟩
def ShK.sub{l r:List Cac}(h:ShK l)(n:r.length<1000)(s:∀x∈r,x∈l):ShK r:=⟨n,λx a=>h.2 x (s x a)⟩
def FC(l:List Cac)(a k:Int):Prop:=(k= -1/\∀j:Int,0<=j->j<l.length->(((l).getD (j).toNat default)).blk.pc≠a)\/(0<=k/\k<l.length/\(((l).getD (k).toNat default)).blk.pc=a/\∀j:Int,0<=j->j<k->(((l).getD (j).toNat default)).blk.pc≠a)
def FC.one{e k m:Int}(h:FC l e k)(g:FC l e m):k=m:=by
 rcases h with⟨a,b⟩ | ⟨a,b,c,d⟩<;>rcases g with⟨f,i⟩ | ⟨f,i,n,j⟩
 all_goals grind
def There(w mem:List Int)(a:Int):Prop:=∀k:Int,0<=k->k<w.length->a+k<mem.length/\((mem).getD (a+k).toNat default)=((w).getD (k).toNat default)
abbrev cE(e:Cac):arp:=(e.blk.pc,e.blk.len,e.blk.fin,e.blk.x,e.blk.y,e.blk.k,e.words,e.blk.ops,())
noncomputable def dQ (mem:List Int) (x:Cac):Bool:=bp (0<=x.blk.pc/\There x.words mem x.blk.pc)
def wH{α:Type}{d:α}{P:α->Bool}{l:List α}{i:Int}(a:0<=i)(h:i<l.length):(l.take (i+1).toNat).filter P=(l.take i.toNat).filter P++(if P (l.getD i.toNat d)=true then [l.getD i.toNat d]else []):=by
 rw [show(i+1).toNat=i.toNat+1 by omega,take_succ_eq_append_getElem ah,getD_lt ah,filter_append]
 grind
abbrev aqM(b:Cac×Unit->Bool)(a:Cac×Unit->arp):Prop:=∀e,e.words.length<1000->e.blk.ops.length<1000000->b (e,())=true/\a (e,())=cE e
noncomputable def o7:List Int->List Ins
 | []=> []
 | w::r=>if bp (Wo w/\bf (bS w))=true then bS w::o7 r else []
def UZ:∀w:List Int,(o7 w).length<=w.length
 | []=>Nat.le_refl _
 | w::r=>by
  have:=UZ r
  grind [o7,length_cons,length_nil]
def FU:∀(a b:List Int),(∀w∈a,Wo w/\bf (bS w))->o7 (a++b)=a.map bS++o7 b
 | [],b,_=>rfl
 | w::a,b,h=>by
  rw [cons_append,o7,if_pos (aR (h w (by simp))),FU a b (λx c=>h x (by simp [c]))];rfl
def neP(a:Int)(x:Cac):Bool:= !decide (x.blk.pc=a)
def lu(l:List Cac)(e:Cac):List Cac:=(l.filter (neP e.blk.pc)++ [e]).drop ((l.filter (neP e.blk.pc)).length+1-4)
def qH(x:Cac):Prop:=(o7 x.words).length=x.words.length/\nK x.blk.pc (o7 x.words)/\chk (lower x.blk.pc (o7 x.words)) x.blk=true
abbrev aqN(b:eu->Bool)(a:eu->ny):Prop:=∀w,w.length<1000000000->b (w,())=true/\a (w,())=(o7 w,())
def FV(l:List Cac)(mem:List Int):Prop:=l.length<=4/\(∀j:Int,0<=j->j<l.length->qH ((l).getD (j).toNat default)/\There (((l).getD (j).toNat default)).words mem (((l).getD (j).toNat default)).blk.pc)/\∀i j:Int,0<=i->i<j->j<l.length->(((l).getD (i).toNat default)).blk.pc≠(((l).getD (j).toNat default)).blk.pc
def EGB:(∀e:Eng,iW .eng 0 .i64 e=e.aj.regs)/\(∀e:Eng,bR .eng 1 e=e.aj.pc)/\(∀e:Eng,iW .eng 2 .i64 e=e.aj.mem)/\(∀e:Eng,bR .eng 3 e=e.aj.save)/\(∀e:Eng,JG .eng 4 e=e.aj.aO)/\(∀e:Eng,JG .eng 5 e=e.aj.waits)/\(∀e:Eng,bR .eng 6 e=e.aj.halt)/\(∀e:Eng,iW .eng 7 .i64 e=e.aj.ins)/\(∀e:Eng,iW .eng 8 .i64 e=e.aj.outs)/\(∀e:Eng,bR .eng 9 e=e.aj.count)/\(∀e:Eng,iW .eng 10 .cac e=e.cache)/\(∀e:Eng,iW .eng 11 .cer e=e.bC):=
 ⟨λ_=>rfl,λ_=>rfl,λ_=>rfl,λ_=>rfl,λ_=>rfl,λ_=>rfl,λ_=>rfl,λ_=>rfl,λ_=>rfl,λ_=>rfl,λ_=>rfl,λ_=>rfl⟩
theorem MKM:∀m:aC,Co.mk .aj (m.regs,m.pc,m.mem,m.save,m.aO,m.waits,m.halt,m.ins,m.outs,m.count,())=m:=λ_=>rfl
def iO(e:Eng):Prop:=MOK e.aj/\FV e.cache e.aj.mem/\rJ e.bC
abbrev aqO(b:zx->Bool)(a:zx->fA):Prop:=∀l mem,ShX l->mem.length<1000000000->b (l,mem,())=true/\a (l,mem,())=(bp (FV l mem),())
abbrev e12(e:Eng):F3:=(e.aj.regs,e.aj.pc,e.aj.save,e.aj.aO,e.aj.waits,e.aj.halt,e.aj.ins,e.aj.outs,e.aj.count,e.bC,e.aj.mem,e.cache,())
noncomputable def newE (m:aC):Eng:=if bp (MOK m)=true then⟨m,[],[]⟩else⟨Kv,[],[]⟩
def ak8{p1 f1 p2 f2}(a:KA p1 f1)(b:WK p2 f2)(m:aC)(h:MSh m):RO.F (p1,f1,p2,f2,()) (m,()) (λy=>y=e12 (newE m)):=by
 dsimp only [RO,gm];simp (disch:=omega) only [RR,a _ h,b _ h];unfold newE;exact⟨λg=>by rw [g];rfl,λg=>by rw [g];rfl⟩
def ak9{m:aC}(h:MSh m)(f:m.outs.length<900000000)(b:Bool):MSh (stS m b)/\(stS m b).outs.length<=m.outs.length+1/\(stS m b).ins.length<=m.ins.length:=by
 obtain⟨c,d,e,a⟩:=h;unfold stS;split
 .rename_i g;have ok:=aX.1 g;split
  .exact⟨⟨c,d,e,a⟩,Nat.le_succ _,Nat.le_refl _⟩
  .have k:=oZ ok (by have:=ok.ct;omega) b;have l:=Aw m b;exact⟨⟨by rw [k.r4];omega,by have:=k.m64;omega,ah,ah⟩,l.2,l.1⟩
 .exact⟨⟨by decide,by decide,by decide,by decide⟩,Nat.zero_le _,Nat.zero_le _⟩
noncomputable def jg (e:Eng) (q:List Int):Eng:=⟨stS e.aj (bp (e.aj.count∈q)),e.cache.filter (dQ (stS e.aj (bp (e.aj.count∈q))).mem),e.bC⟩
abbrev aqP(b:zx->Bool)(a:zx->sj):Prop:=∀l mem,ShK l->mem.length<1000000000->b (l,mem,())=true/\a (l,mem,())=(l.filter (dQ mem),())
end Go.TX.F
namespace Go.TX.F
open Go Go.AE Go.TX List
def aoP(e:Cac)(a:Int):Zw.F () (e,a,()) (λy=>y=(decide (e.blk.pc=a),a,())):=by
 dsimp only [Zw,gm];simp (disch:=omega) only [RR,CAB]
def ala{c:Cac×eB->Bool}{d:Cac×eB->Bool×eB}(m:∀e a,c (e,a,())=true/\d (e,a,())=(decide (e.blk.pc=a),a,()))(l:List Cac)(a:Int)(h:l.length<1000000000):Ql.F (c,d,()) (l,a,()) (λy=>y.2.1=a/\FC l a y.1):=by
 dsimp only [Ql,gm];refine ay (λ(y:List Cac×ari)=>y.1=l/\y.2.1=l.length/\0<=y.2.2.1/\y.2.2.1<=l.length/\y.2.2.2.1=a/\∀j:Int,0<=j->j<y.2.2.1->(((l).getD (j).toNat default)).blk.pc≠a) (λy=>(l.length-y.2.2.1).toNat) ⟨rfl,rfl,by simp,by simp,rfl,λj q b=>absurd b (by simp;omega)⟩ ?_;rintro⟨(l:List Cac),(n:Int),(i:Int),(a:Int),⟨⟩⟩ hI;dsimp only at hI ⊢;obtain⟨rfl,rfl,b,p,rfl,k⟩:=hI;simp (disch:=omega) only [RR,CAB,m];refine⟨λg=>⟨b,g,λe=>Or.inr ⟨b,g,e,k⟩,λe=>⟨⟨ah,ah,λj f o=> ?_⟩,ah⟩⟩,λg=>Or.inl ⟨rfl,λj f o=>k j f ah⟩⟩
 grind
def aoQ{c:Zo->Bool}{b:Zo->oz}(d:∀l a,l.length<1000000000->c (l,a,())=true/\(b (l,a,())).2.1=a/\FC l a (b (l,a,())).1)(l:List Cac)(a:Int)(h:l.length<1000000000):ZA.F (c,b,()) (l,a,()) (λy=>FC l a y.1):=by
 dsimp only [ZA,gm];simp_all
abbrev aoR(c:Zo->Bool)(b:Zo->eB):Prop:=∀l a,l.length<1000000000->c (l,a,())=true/\FC l a (b (l,a,())).1
def lvS(m:aC)(b:Blk)(n h:Int):aC:={m with pc:=b.pc+n,count:=m.count+n,halt:=h}
noncomputable def yC (m:aC) (q:List Int) (left size:Int):Bool:=bp (size<=left/\m.count<=1000000-size/\∀k:Int,1<=k->k<size->m.count+k∉q)
def evR(m:aC)(b:Blk)(o:IOp)(x y:Int):aC×Int×Bool:=
 if o.kind=7 then({m with outs:=m.outs++ [x]},0,false)
 else if o.kind=6 then({m with ins:=m.ins.drop 1},m.ins.getD 0 0,false)
 else if 64<=x then(lvS m b o.at_ 3,0,true)
 else if o.kind=4 then(m,((m.mem).getD (x).toNat default),false)
 else if b.pc+o.at_<x/\x<b.pc+b.len then(lvS {m with mem:=m.mem.set x.toNat y} b (o.at_+1) 0,0,true)
 else({m with mem:=m.mem.set x.toNat y},0,false)
noncomputable def dS (mem:List Int):Nat->Int->List Ins
 | 0,_=> []
 | n+1,p=>if bp (p<64/\(Wo ((mem).getD (p).toNat default)/\bf (bS ((mem).getD (p).toNat default)))/\(bS ((mem).getD (p).toNat default)).op≠0)=true then(if bp (11<=(bS ((mem).getD (p).toNat default)).op/\(bS ((mem).getD (p).toNat default)).op<=13)=true then [bS ((mem).getD (p).toNat default)]else bS ((mem).getD (p).toNat default)::dS mem n (p+1))else []
noncomputable def findF (m:aC):List Ins:=if bp (MOK m)=true then dS m.mem 8 m.pc else []
def vS(mem:List Int):∀(n:Nat) (p:Int),(dS mem n p).length<=n/\(0< (dS mem n p).length->p+(dS mem n p).length<=64)/\
  ∀i:Nat,i< (dS mem n p).length->bf ((dS mem n p).getD i default)/\((dS mem n p).getD i default).op≠0/\(11<=((dS mem n p).getD i default).op/\((dS mem n p).getD i default).op<=13->i+1=(dS mem n p).length)
 | 0,_=>⟨Nat.le_refl _,λh=>absurd h (by simp [dS]),λi a=>absurd a (by simp [dS])⟩
 | n+1,p=>by
  obtain⟨j,b,e⟩:=vS mem n (p+1);unfold dS;split
  .rename_i g;obtain⟨f,⟨d,k⟩,c⟩:=aX.1 g;split
   all_goals grind
  simp_all
def FW(m:aC):(findF m).length<=8/\(0< (findF m).length->MOK m/\nK m.pc (findF m)):=by
 unfold findF;split
 .rename_i g;have ok:=aX.1 g;have d:0<=m.pc/\m.pc<=65535:=ok.pc;obtain⟨c,a,b⟩:=vS m.mem 8 m.pc;exact⟨c,λh=>⟨ok,⟨ah,ah⟩,⟨ah,by have:=a h;omega⟩,b⟩⟩
 simp_all
def aoS{w:Int}(h:Wo w/\bf (bS w)):tkI w=((bS w).op,(bS w).d,(bS w).a,(bS w).k,true,()):=by unfold tkI;rw [if_pos (aR h)]
variable{b:Blk}{a:Ask}{cs:List Cer}
noncomputable def mdF (b:Blk) (a:Ask):Blk×Bool:=if a.own=true then(Kr b,true)else if bp (ake a.bytes)=true then(rdB a.bytes,true)else(R6,false)
theorem abZ(h:b.ops.length<1000000)(c:a.bytes.length<1000000000):(mdF b a).1.ops.length<1000000:=by
 have L:=WI b;unfold mdF;split
 .dsimp only;omega
 split
 .rename_i g;have:=(aX.1 g).1;show(FJ _ _).length<_;unfold FJ;grind
 .decide
noncomputable def iX (cs:List Cer) (b:Blk) (a:Ask):Blk×List Cer:=
 if(mdF b a).2=false then(b,cs)else if bp (Ku cs b (mdF b a).1)=true then((mdF b a).1,cs)else if chk b (mdF b a).1=true then((mdF b a).1,GL cs ⟨b,(mdF b a).1⟩)else(b,cs)
theorem afs{l:List Cer}{q:Cer}(h:ShC l)(b:q.base.ops.length<1000000)(a:q.made.ops.length<1000000):ShC (GL l q):=by
 unfold GL;have:=h.1;refine⟨by rw [length_drop,length_append,length_singleton];omega,λc hc=> ?_⟩;have:=mem_of_mem_drop hc;rw [mem_append,mem_singleton]at this;rcases this with g | rfl
 .exact h.2 c g
 .exact⟨b,a⟩
def Va(h:ShC cs)(d:b.ops.length<1000000)(c:a.bytes.length<1000000000):(iX cs b a).1.ops.length<1000000/\ShC (iX cs b a).2:=by grind [abZ,iX,afs]
def Vb(h:rJ cs):(iX cs b a).1=b\/chk b (iX cs b a).1=true:=by
 unfold iX;split
 .exact Or.inl rfl
 split
 .rename_i g;obtain⟨q,c,d,e⟩:=aX.1 g;refine Or.inr ?_;have:=h.2 q c;simp_all
 grind
def Vd{l:List Cac}{e:Cac}(h:ShK l)(b:e.words.length<1000)(a:e.blk.ops.length<1000000)(d:e.blk.pc<=1000000):ShK (lu l e)/\0< (lu l e).length:=by
 unfold lu;have f:=length_filter_le (neP e.blk.pc) l;refine⟨⟨by rw [length_drop,length_append,length_singleton];omega,λc hc=> ?_⟩,by rw [length_drop,length_append,length_singleton];omega⟩;have:=mem_of_mem_drop hc;rw [mem_append,mem_singleton]at this;rcases this with g | rfl
 .exact h.2 c (mem_filter.1 g).1
 .exact⟨b,a,d⟩
def fcI(l:List Cac)(a:Int):Int:=match l.findIdx? (λx=>decide (x.blk.pc=a))with | some i=>i | none=> -1
def Sl(l:List Cac)(a:Int):FC l a (fcI l a):=by
 unfold fcI;split
 .rename_i i h;obtain⟨e,d,f⟩:=List.findIdx?_eq_some_iff_getElem.1 h;refine Or.inr ⟨ah,ah,?_,λj c b=> ?_⟩
  all_goals grind
 .rename_i h;rw [findIdx?_eq_none_iff]at h;refine Or.inl ⟨rfl,λj c b=> ?_⟩;simp_all
noncomputable def gM (e:Eng) (a:Ask):Eng×Int×Bool:=
 if 0<=fcI e.cache e.aj.pc then(e,fcI e.cache e.aj.pc,false)else if(findF e.aj).length=0 then(e, -1,false)else
  (⟨e.aj,lu e.cache ⟨(findF e.aj).map fF,(iX e.bC (lower e.aj.pc (findF e.aj)) a).1⟩,(iX e.bC (lower e.aj.pc (findF e.aj)) a).2⟩,((lu e.cache ⟨(findF e.aj).map fF,(iX e.bC (lower e.aj.pc (findF e.aj)) a).1⟩).length:Int)-1,true)
abbrev aqQ(b:He->Bool)(a:He->ny):Prop:=∀m,MSh m->b (m,())=true/\a (m,())=(findF m,())
end Go.TX.F
namespace Go.TX.F
open Go Go.AE Go.TX List
abbrev yS(b:Blk)(i:Int)(S:MS):Int×Blk×Int×Int×Bool×Bool×Int×Int×Int×Int×Bool×Bool×Int×List Int×Int×List Int×iK:=(i,b,0,0,false,false,0,0,S.m.pc,S.m.save,S.m.aO,S.m.waits,S.m.halt,S.m.ins,S.m.count,S.vals,S.m.regs,S.m.mem,S.m.outs,())
def Ni{b:Blk}{m:aC}(c:dK b)(a:MOK m)(h:¬(m.halt≠0\/m.pc≠b.pc\/1000000-b.len<m.count)):fC b m=(oV b (b.ops.foldl (aJ b) ⟨m,[],false⟩),true):=by
 unfold fC;rw [if_pos (aR ⟨c,a⟩),if_neg h]
variable{a:Ask}{l:List Cac}
theorem EGM:∀e:Eng,Co.mk .eng (e.aj.regs,e.aj.pc,e.aj.mem,e.aj.save,e.aj.aO,e.aj.waits,e.aj.halt,e.aj.ins,e.aj.outs,e.aj.count,e.cache,e.bC,())=e:=λ_=>rfl
def Sn:Eng:=⟨Kv,[],[]⟩
noncomputable def goE (e:Eng) (q:List Int) (left:Int) (a:Ask):Eng×Bool:=
 if(e.aj.waits=true\/e.aj.count∈q)/\e.aj.aO=true then(jg e q,false)
 else if(gM e a).2.1<0 then(jg (gM e a).1 q,(gM e a).2.2)
 else if yC e.aj q left ((((gM e a).1.cache).getD ((gM e a).2.1).toNat default)).blk.len=false then(jg (gM e a).1 q,(gM e a).2.2)
 else(⟨(fC ((((gM e a).1.cache).getD ((gM e a).2.1).toNat default)).blk {e.aj with waits:=e.aj.waits || bp (e.aj.count∈q)}).1,(gM e a).1.cache.filter (dQ (fC ((((gM e a).1.cache).getD ((gM e a).2.1).toNat default)).blk {e.aj with waits:=e.aj.waits || bp (e.aj.count∈q)}).1.mem),(gM e a).1.bC⟩,(gM e a).2.2)
noncomputable def Ve (e:Eng) (q:List Int) (left:Int) (a:Ask):Eng×Bool:=
 if bp (iO e)=false then(Sn,false)else if e.aj.halt≠0\/left<1\/e.aj.count=1000000 then(e,false)else goE e q left a
theorem Vf:∀(r:List Ins) (n:Int) (b:Blk),(jA n b r).pc=b.pc/\(jA n b r).len=b.len
 | [],_,_=>⟨rfl,rfl⟩
 | i::r,n,b=>by
  have e:(dH n b i).pc=b.pc/\(dH n b i).len=b.len:=by grind [dH]
  have h:=Vf r (n+1) (dH n b i);exact⟨h.1.trans e.1,h.2.trans e.2⟩
def Jf{a:Int}{l:List Ins}(h:nK a l):(lower a l).pc=a:=by grind [lower,aR,Vf,qG]
theorem FX{b c:Blk}(h:chk b c=true):dK b/\dK c/\b.pc=c.pc/\b.len=c.len:=by
 have:=aX.1 h;simp_all
def BR(l:List Cac)(e:Cac):((lu l e).getD (((lu l e).length:Int)-1).toNat default)=e:=by
 have n:(lu l e).length=(l.filter (neP e.blk.pc)).length+1- ((l.filter (neP e.blk.pc)).length+1-4):=by unfold lu;simp_all
 rw [n,getD_lt (by rw [n];omega)];unfold lu;rw [getElem_drop,getElem_append_right ah];simp
def BS(e:Eng)(a:Ask):(gM e a).1.aj=e.aj:=by grind [gM]
def aft{cs:List Cer}{b:Blk}(h:cs.length<=3):(iX cs b a).2.length<=3:=by grind [iX,GL,length_drop,length_append,length_singleton]
structure FnS(e:Eng)(y:Eng×Int×Bool):Prop where
 l:y.1.cache.length<=e.cache.length+4/\(e.cache.length<=4->y.1.cache.length<=4)/\(e.bC.length<=3->y.1.bC.length<=3)
 w:(∀x∈e.cache,0<x.words.length)->∀x∈y.1.cache,0<x.words.length
 k:ShK y.1.cache
 c:ShC y.1.bC
 r:y.2.1<y.1.cache.length
 b:0<=y.2.1->dK (((y.1.cache).getD (y.2.1).toNat default)).blk/\(((y.1.cache).getD (y.2.1).toNat default)).blk.pc=e.aj.pc
def ab0{e:Eng}(d:ShK e.cache)(h:ShC e.bC)(ok:iO e)(o:a.bytes.length<1000000000):FnS e (gM e a):=by
 have B:=FW e.aj;have fc:=Sl e.cache e.aj.pc;unfold gM;split
 .rename_i g;rcases fc with f | ⟨m,i,p,_⟩
  .omega
  .exact⟨⟨Nat.le_add_right _ _,id,id⟩,id,d,h,i,λ_=>⟨(FX (ok.2.1.2.1 _ m i).1.2.2).2.1,p⟩⟩
 split
 .exact⟨⟨Nat.le_add_right _ _,id,id⟩,id,d,h,by dsimp only;omega,λg=>absurd (show(0:Int)<= -1 from g) (by decide)⟩
 .rename_i g;have j:=(B.2 ah).2;have ir:=oW j;have r:=ir.sz;have A:=Va (a:=a) h (show(lower e.aj.pc (findF e.aj)).ops.length<1000000 by omega) o;have Q:=Vb (a:=a) (b:=lower e.aj.pc (findF e.aj)) ok.2.2;have k:(lower e.aj.pc (findF e.aj)).pc=e.aj.pc:=Jf j;have Z:dK (iX e.bC (lower e.aj.pc (findF e.aj)) a).1/\(iX e.bC (lower e.aj.pc (findF e.aj)) a).1.pc=e.aj.pc:=by grind [FX]
  have l:((findF e.aj).map fF).length<1000:=by rw [length_map];omega
  have s:=Z.1.pc;have t:=Z.1.ln;have S:=Vd d (e:=⟨(findF e.aj).map fF,(iX e.bC (lower e.aj.pc (findF e.aj)) a).1⟩) l A.1 (by dsimp only;omega);have q:(lu e.cache ⟨(findF e.aj).map fF,(iX e.bC (lower e.aj.pc (findF e.aj)) a).1⟩).length<=4:=by
   unfold lu;grind
  exact⟨⟨by dsimp only;omega,λ_=>q,λz=>aft z⟩,λn x c=>by
   unfold lu at c;have c:=mem_of_mem_drop c;rw [mem_append,mem_singleton]at c;rcases c with c | rfl
   .exact n x (mem_filter.1 c).1
   .show 0< ((findF e.aj).map fF).length;rw [length_map];omega,S.1,A.2,Int.sub_lt_self _ (by decide),λ_=>by rw [BR];exact Z⟩
def KH(h:ShK l)(P:Cac->Bool):ShK (l.filter P):=h.sub (Nat.lt_of_le_of_lt (length_filter_le _ _) h.1) λx a=>(mem_filter.1 a).1
abbrev e13(y:Eng×Bool):List Int×Int×Int×Bool×Bool×Int×List Int×List Int×Int×Bool×List Cer×List Int×sj:=(y.1.aj.regs,y.1.aj.pc,y.1.aj.save,y.1.aj.aO,y.1.aj.waits,y.1.aj.halt,y.1.aj.ins,y.1.aj.outs,y.1.aj.count,y.2,y.1.bC,y.1.aj.mem,y.1.cache,())
def ab1{b:Blk}{m:aC}(d:MSh m)(c:m.outs.length<900000000):MSh (fC b m).1/\(fC b m).1.outs.length<=m.outs.length+48/\(fC b m).1.ins.length<=m.ins.length:=by
 unfold fC;split
 .rename_i g;have g:=aX.1 g;split
  .simp_all
  .have l:=Kz b b.ops ⟨m,[],false⟩;have a:=g.1.sz
   grind [UE,oV]
 .exact⟨⟨by decide,by decide,by decide,by decide⟩,Nat.zero_le _,Nat.zero_le _⟩
abbrev alb(b:arf->Bool)(a:arf->fA):Prop:=∀e,MSh e.aj->ShX e.cache->ShD e.bC->b (e,())=true/\a (e,())=(bp (iO e),())
structure EgS(e:Eng)(n:Nat):Prop where
 m:MSh e.aj
 o:e.aj.outs.length<=n
 k:ShK e.cache
 c:ShC e.bC
 kl:e.cache.length<=4
 cl:e.bC.length<=3
 w:∀x∈e.cache,0<x.words.length
 v:∀x∈e.cache,0<=x.blk.pc/\x.blk.pc<e.aj.mem.length
def Sq{mem:List Int}(w:∀x∈l,0<x.words.length):∀x∈l.filter (dQ mem),0<=x.blk.pc/\x.blk.pc<mem.length:=λx a=>by
 have h:=mem_filter.1 a;have d:=aX.1 (show bp _=true from h.2);have t:=d.2 0 (by decide) (by have:=w x h.1;omega);exact⟨d.1,ah⟩
def afu{e:Eng}{n:Nat}(h:EgS e n)(hn:n<700000000)(q:List Int)(left:Int)(o:a.bytes.length<1000000000):EgS (Ve e q left a).1 (n+50):=by
 have r:=h.o;unfold Ve;split
 .exact⟨⟨by decide,by decide,by decide,by decide⟩,Nat.zero_le _,⟨by decide,λx c=>by cases c⟩,⟨by decide,λx c=>by cases c⟩,by decide,by decide,(λx c=>by cases c),λx c=>by cases c⟩
 rename_i g;have ok:iO e:=aX.1 (by simpa using g);split
 .exact⟨h.m,by have:=h.o;dsimp only;omega,h.k,h.c,h.kl,h.cl,h.w,h.v⟩
 have f:∀y:Eng,y.aj=e.aj->ShK y.cache->ShC y.bC->y.cache.length<=4->y.bC.length<=3->(∀x∈y.cache,0<x.words.length)->EgS (jg y q) (n+50):=λy d p k l i j=>by
  have s:=ak9 (m:=y.aj) (by rw [d];exact h.m) (by rw [d];omega) (bp (y.aj.count∈q));rw [d]at s;exact⟨by unfold jg;rw [d];exact s.1,by have:=s.2.1;unfold jg;rw [d];dsimp only;omega,KH p _,k,Nat.le_trans (length_filter_le _ _) l,i,λx c=>j x (mem_filter.1 c).1,Sq j⟩
 have S:=ab0 h.k h.c ok o;have fm:=BS e a;unfold goE;split
 .exact f e rfl h.k h.c h.kl h.cl h.w
 split
 .exact f _ fm S.k S.c (S.l.2.1 h.kl) (S.l.2.2 h.cl) (S.w h.w)
 split
 .exact f _ fm S.k S.c (S.l.2.1 h.kl) (S.l.2.2 h.cl) (S.w h.w)
 .have R:=ab1 (b:=((((gM e a).1.cache).getD ((gM e a).2.1).toNat default)).blk) (m:={e.aj with waits:=e.aj.waits || bp (e.aj.count∈q)}) h.m (by dsimp only;omega);exact⟨R.1,by have:=R.2.1;dsimp only at this ⊢;omega,KH S.k _,S.c,Nat.le_trans (length_filter_le _ _) (S.l.2.1 h.kl),S.l.2.2 h.cl,λx c=>S.w h.w x (mem_filter.1 c).1,Sq (S.w h.w)⟩
end Go.TX.F
namespace Go.TX.F
open Go Go.AE Go.TX List
def ShK.nil:ShK []:=⟨by decide,λx a=>by cases a⟩
def ShC.nil:ShC []:=⟨by decide,λx a=>by cases a⟩
variable{P:Cac->Bool}
def aoT(e x:Cac):Zz.F () (e,x,()) (λy=>y=(decide (e.blk.pc=x.blk.pc),x,())):=by
 dsimp only [Zz,gm];simp (disch:=omega) only [RR,CAB]
abbrev aoU(b:Cac×Cac×Unit->Bool)(a:Cac×Cac×Unit->Bool×Cac×Unit):Prop:=∀e x,b (e,x,())=true/\a (e,x,())=(decide (e.blk.pc=x.blk.pc),x,())
def alc{p1 f1}(f:aoU p1 f1)(l:List Cac)(x:Cac)(h:l.length<1000000000):Qm.F (p1,f1,()) (l,x,()) (λy=>y.2.1=x/\FC l x.blk.pc y.1):=by
 dsimp only [Qm,gm];refine ay (λ(y:List Cac×Int×Int×Cac×Unit)=>y.1=l/\y.2.1=l.length/\0<=y.2.2.1/\y.2.2.1<=l.length/\y.2.2.2.1=x/\∀j:Int,0<=j->j<y.2.2.1->(((l).getD (j).toNat default)).blk.pc≠x.blk.pc) (λy=>(l.length-y.2.2.1).toNat) ⟨rfl,rfl,by simp,by simp,rfl,λj o a=>absurd a (by simp;omega)⟩ ?_;rintro⟨(l:List Cac),(n:Int),(i:Int),(x:Cac),⟨⟩⟩ hI;dsimp only at hI ⊢;obtain⟨rfl,rfl,a,m,rfl,d⟩:=hI;simp (disch:=omega) only [RR,CAB,f];refine⟨λg=>⟨a,g,λe=>Or.inr ⟨a,g,e,d⟩,λe=>⟨⟨ah,ah,λj b k=> ?_⟩,ah⟩⟩,λg=>Or.inl ⟨rfl,λj b k=>d j b ah⟩⟩;by_cases c:j<i
 .exact d j b c
 .rw [show j=i by omega];exact e
def filter_all{α:Type}{P:α->Bool}{d:α}:∀ {l:List α},(∀i:Nat,i<l.length->P (l.getD i d)=true)->l.filter P=l
 | [],_=>rfl
 | x::l,h=>by
  have b:=h 0 (by simp);have a:=filter_all (P:=P) (d:=d) (l:=l) λi c=>h (i+1) (by simp;omega)
  rw [filter_cons,if_pos (by simpa using b),a]
structure Ay(P:Cac->Bool)(l L:List Cac)(i j:Int):Prop where
 i0:0<=i
 ij:i<=j
 jl:j<=l.length
 len:L.length=l.length
 a:L.take i.toNat=(l.take j.toNat).filter P
 b:∀k:Nat,j<=k->L.getD k default=l.getD k default
def Ay.start{l:List Cac}{k:Int}(a:0<=k)(c:k<l.length)(b:P ((l).getD (k).toNat default)=false)(h:∀j:Int,0<=j->j<k->P ((l).getD (j).toNat default)=true):Ay P l l k (k+1):=by
 refine⟨a,ah,ah,rfl,?_,λ_ _=>rfl⟩;rw [wH (d:=default) a c,if_neg (by rw [b];decide),append_nil,filter_all (d:=default) λi f=> ?_];rw [length_take]at f;have:=h i ah ah;have e:(l.take k.toNat).getD i default=l.getD i default:=by rw [getD_lt (by rw [length_take];omega),getD_lt ah,getElem_take]
 rw [e];simpa using this
def Ay.keep{l L:List Cac}{i j:Int}(h:Ay P l L i j)(f:j<l.length)(c:P ((L).getD (j).toNat default)=true):Ay P l (L.set i.toNat ((L).getD (j).toNat default)) (i+1) (j+1):=by
 obtain⟨g,m,n,len,a,b⟩:=h;have e:((L).getD (j).toNat default)=((l).getD (j).toNat default):=b j.toNat ah;rw [e]at c ⊢;refine⟨ah,ah,ah,by rw [length_set];exact len,?_,λk hk=> ?_⟩
 .rw [wH (d:=default) ah f,if_pos c,<-a,show(i+1).toNat=i.toNat+1 by omega,take_succ_eq_append_getElem (by rw [length_set];omega),getElem_set_self,take_set_of_le (Nat.le_refl _)]
 .rw [<-b k ah,getD_eq_getElem?_getD,getD_eq_getElem?_getD,getElem?_set_ne ah,<-getD_eq_getElem?_getD]
def Ay.skip{l L:List Cac}{i j:Int}(h:Ay P l L i j)(f:j<l.length)(c:P ((L).getD (j).toNat default)=false):Ay P l L i (j+1):=by
 obtain⟨g,m,n,len,a,b⟩:=h;have e:((L).getD (j).toNat default)=((l).getD (j).toNat default):=b j.toNat ah;rw [e]at c;refine⟨ah,ah,ah,len,?_,λk hk=>b k ah⟩;rw [wH (d:=default) ah f,if_neg (by rw [c];decide),append_nil,a]
def Ay.fin{l L:List Cac}{i j:Int}(h:Ay P l L i j)(a:¬j<l.length):L.take i.toNat=l.filter P:=by
 rw [h.a,take_of_length_le (by have:=h.jl;omega)]
def Vg{L:List Cac}{z:Cac}{i n:Int}(b:0<=i)(a:i<=L.length)(hn:(L.length:Int)=n):
  i<=((drop (Int.toNat 0) (take i.toNat L)++replicate (n-i).toNat z++drop (i+(n-i)).toNat (take n.toNat L)).length:Int)/\
  drop (Int.toNat 0) (take (0+(i-0)).toNat (drop (Int.toNat 0) (take i.toNat L)++replicate (n-i).toNat z++drop (i+(n-i)).toNat (take n.toNat L)))=L.take i.toNat:=by
 have e:(take i.toNat L).length=i.toNat:=by rw [length_take];omega
 rw [show(Int.toNat 0)=0 by rfl,drop_zero,drop_zero,show(0+(i-0)).toNat=i.toNat by omega,append_assoc];refine⟨by rw [length_append];omega,?_⟩;rw [take_append_of_le_length ah,take_of_length_le ah]
theorem ald{p1 f1}{o:yt->Bool}{b:yt->Int×Cac×Unit}(p:aoU p1 f1)(u:∀l x,l.length<1000000000->o (l,x,())=true/\(b (l,x,())).2.1=x/\FC l x.blk.pc (b (l,x,())).1)(l:List Cac)(x:Cac)(h:l.length<1000000000):Rv.F (p1,f1,o,b,()) (l,x,()) (λy=>y=(x,l.filter (neP x.blk.pc),())):=by
 obtain⟨t,I⟩:=u l x h;dsimp only [Rv,gm];simp (disch:=omega) only [RR,t];rw [I.1];have F:=I.2;generalize (b (l,x,())).1=k at*;have a:∀e:Cac,neP x.blk.pc e= !decide (e.blk.pc=x.blk.pc):=λ_=>rfl
 refine⟨λg=> ?_,λg=> ?_⟩
 .rw [filter_all (d:=default) λi C=> ?_];rcases F with⟨_,f⟩ | ⟨f,_⟩
  .have:=f i ah ah;rw [a];simpa using this
  .omega
 .obtain⟨f1,f2',f3,f4⟩:0<=k/\k<l.length/\(((l).getD (k).toNat default)).blk.pc=x.blk.pc/\∀j:Int,0<=j->j<k->(((l).getD (j).toNat default)).blk.pc≠x.blk.pc:=by
   rcases F with⟨f,_⟩ | f
   .exact absurd f g
   .exact f
  have w:IntKind.i64.wrap (k+1)=k+1:=w64 ah ah;rw [w];refine ay (λ(y:Int×Int×yt)=>y.2.2.2.1=x/\Ay (neP x.blk.pc) l y.2.2.1 y.1 y.2.1) (λy=>(l.length-y.2.1).toNat) ⟨rfl,Ay.start f1 f2' (by rw [a,decide_eq_true f3];rfl) λj v q=>by rw [a,decide_eq_false (f4 j v q)];rfl⟩ ?_;rintro⟨(i:Int),(j:Int),(L:List Cac),(r:Cac),⟨⟩⟩ hI;dsimp only at hI ⊢;obtain⟨rfl,D⟩:=hI;have s:=D.i0;have A:=D.ij;have B:=D.jl;have len:=D.len;have m:(L.length:Int)=l.length:=by omega
  by_cases c:j<l.length
  .by_cases d:(((L).getD (j).toNat default)).blk.pc=r.blk.pc
   .simp (disch:=omega) only [RR,m,c,p,d];exact⟨ah,ah,D.skip c (by rw [a,decide_eq_true d];rfl),ah⟩
   .simp (disch:=omega) only [RR,m,c,p,d];exact⟨ah,ah,ah,ah,ah,ah,D.keep c (by rw [a,decide_eq_false d];rfl),ah⟩
  .simp (disch:=omega) only [RR,m,c];obtain⟨z1,z2⟩:=Vg (L:=L) (n:=l.length) (z:=Co.mk .cac ([],0,0,[],0,0,0,0,())) s ah m;exact⟨ah,ah,ah,ah,ah,ah,ah,ah,z1,ah,ah,Int.le_trans (show 0+(i-0)<=i by omega) z1,Prod.ext rfl (Prod.ext (z2.trans (D.fin c)) rfl)⟩
theorem aoV{p1 f1 p2 f2}(a:Y99 p1 f1)(b:aoq p2 f2)(e:Cac)(d:e.words.length<1000)(f:e.blk.ops.length<1000000):aav.F (p1,f1,p2,f2,()) (e,()) (λy=>y=cE e):=by
 have mE:∀c:Blk,Co.mk .blk (c.pc,c.len,c.ops,c.fin,c.x,c.y,c.k,())=c:=λ_=>rfl
 dsimp only [aav,gm,vF];simp (disch:=omega) only [RR,CAB,mE,a e.blk ah,b e.words ah]
def ale{p1 f1}(d:aqM p1 f1)(l:List Cac)(h:ShK l):Ro.F (p1,f1,()) (l,()) (λy=>y=(l,())):=by
 have c:=h.1;have mC:=CAM;dsimp only [Ro,gm,vF];refine ay (λ(y:List Cac×Int×Int×sj)=>y.1=l/\y.2.1=l.length/\y.2.2.2.1=l.take y.2.2.1.toNat/\0<=y.2.2.1/\y.2.2.1<=l.length) (λy=>(l.length-y.2.2.1).toNat) ⟨rfl,rfl,by simp,by simp,by simp⟩ ?_;rintro⟨(l:List Cac),(m:Int),(i:Int),(o:List Cac),⟨⟩⟩ hI;dsimp only at hI ⊢;obtain⟨rfl,rfl,rfl,e,f⟩:=hI;have a:=h.at i.toNat;simp (disch:=omega) only [RR,d _ a.1 a.2.1,mC];refine⟨λb=>⟨ah,ah,?_,⟨dO e b rfl,ah,ah⟩,ah⟩,λb=>by rw [take_of_length_le ah]⟩;have:=length_take_le' i.toNat l;omega
def alf(l:List Cac)(n:Int)(a:l.length<1000000)(c:0<=n)(b:n<1000000):Rx.F () (l,n,()) (λy=>y=(l.drop (l.length-n.toNat),())):=by
 dsimp only [Rx,gm];simp (disch:=omega) only [RR];rw [show((l.length:Int)).toNat=l.length by omega,take_of_length_le (Nat.le_refl _)];split
 .rw [show((l.length:Int)-n).toNat=l.length-n.toNat by omega];exact⟨ah,ah,ah,rfl⟩
 .rw [show l.length-n.toNat=0 by omega];exact⟨ah,ah,ah,rfl⟩
abbrev alg(b:sj->Bool)(a:sj->sj):Prop:=∀l,ShK l->b (l,())=true/\a (l,())=(l,())
def aoW{p1 f1}{c:Zo->Bool}{a:Zo->sj}{b:yt->Bool}{g:yt->Cac×sj}(f:alg p1 f1)(d:∀l n,l.length<1000000->0<=n->n<1000000->c (l,n,())=true/\a (l,n,())=(l.drop (l.length-n.toNat),()))(m:∀l x,l.length<1000000000->b (l,x,())=true/\g (l,x,())=(x,l.filter (neP x.blk.pc),()))(l:List Cac)(e:Cac)(h:ShK l)(j:e.words.length<1000)(i:e.blk.ops.length<1000000)(o:e.blk.pc<=1000000):aaU.F (p1,f1,c,a,b,g,()) (l,e,()) (λy=>y=(lu l e,())):=by
 have L:=h.1;have sh:=(Vd h j i o).1;have p:=length_filter_le (neP e.blk.pc) l;have k:(l.filter (neP e.blk.pc)++ [e]).length=(l.filter (neP e.blk.pc)).length+1:=by rw [length_append,length_singleton]
 have F:=(d (l.filter (neP e.blk.pc)++ [e]) 4 ah ah ah).2;rw [k]at F;have F:a (l.filter (neP e.blk.pc)++ [e],4,())=(lu l e,()):=F;dsimp only [aaU,gm];simp (disch:=omega) only [RR,f l h,m l e,(d (l.filter (neP e.blk.pc)++ [e]) 4 ah ah ah).1,F,f _ sh,length_cons,length_nil];omega
theorem alh{p1 f1 p2 f2}(q:Y94 p1 f1)(p:Y32 p2 f2)(a b:List Cac)(m:ShK a):RH.F (p1,f1,p2,f2,()) (a,b,()) (λy=>y=(bp (a=b),())):=by
 have mE:∀c:Blk,Co.mk .blk (c.pc,c.len,c.ops,c.fin,c.x,c.y,c.k,())=c:=λ_=>rfl
 have j:=m.1;dsimp only [RH,gm,vF];simp (disch:=omega) only [RR,CAB,mE];refine⟨λh=> ?_,λh=> ?_⟩
 .rw [bJ (λe=>h (by rw [e]))]
 have o:a.length=b.length:=by omega
 refine ay (λ(y:List Cac×Zo)=>y.1=a/\y.2.1=b/\0<=y.2.2.1/\y.2.2.1<=a.length/\All y.2.2.1 (λi=>a.getD i.toNat default=b.getD i.toNat default)) (λy=>(a.length-y.2.2.1).toNat) ⟨rfl,rfl,by simp,by simp,All.zero⟩ ?_;rintro⟨(l:List Cac),(n:List Cac),(i:Int),⟨⟩⟩ hI;dsimp only at hI ⊢;obtain⟨rfl,rfl,f,r,k⟩:=hI;have A:=m.at i.toNat;simp (disch:=omega) only [RR,CAB,mE,q (((l).getD (i).toNat default)).blk (((n).getD (i).toNat default)).blk ah,p (((l).getD (i).toNat default)).words (((n).getD (i).toNat default)).words ah,aX,lS];refine⟨λg=>⟨f,g,f,ah,Or.inr f,Or.inr g,Or.inr f,Or.inr ah,λd=> ?_,λd=>⟨⟨ah,ah,k.snoc (Cac.ext d.1 d.2)⟩,ah⟩⟩,λg=> ?_⟩
 .rw [bJ];intro e;rw [e]at d;rcases d with d | d<;>exact d rfl
 .rw [aR (qc o (k.le ah))]
end Go.TX.F
namespace Go.TX.F
open Go Go.AE Go.TX List
def Vh(l:List Cac)(e:Cac):lu l e=(l.filter (neP e.blk.pc)).drop ((l.filter (neP e.blk.pc)).length+1-4)++ [e]:=by
 unfold lu;rw [drop_append_of_le_length ah]
def WQ(l:List Cac)(e:Cac):FC (lu l e) e.blk.pc (((lu l e).length:Int)-1):=by
 rw [Vh];generalize c:(l.filter (neP e.blk.pc)).drop ((l.filter (neP e.blk.pc)).length+1-4)=F;have hn:∀x∈F,x.blk.pc≠e.blk.pc:=λx a=>by
  rw [<-c]at a;have:=(mem_filter.1 (mem_of_mem_drop a)).2;simpa [neP]using this
 have b:(F++ [e]).length=F.length+1:=by rw [length_append,length_singleton]
 refine Or.inr ⟨ah,ah,?_,λj f d=> ?_⟩
 .rw [b,show(((F.length+1:Nat):Int)-1).toNat=F.length by omega,getD_lt ah,getElem_append_right ah];simp
 .rw [getD_lt ah,getElem_append_left ah];exact hn _ (getElem_mem _)
abbrev aqR(b:yt->Bool)(a:yt->sj):Prop:=∀l e,ShK l->e.words.length<1000->e.blk.ops.length<1000000->e.blk.pc<=1000000->b (l,e,())=true/\a (l,e,())=(lu l e,())
abbrev aqS(d:List Cac×sj->Bool)(c:List Cac×sj->fA):Prop:=∀a b,ShK a->d (a,b,())=true/\c (a,b,())=(bp (a=b),())
def ali(a b:List Int)(m:a.length<1000000000):Qk.F () (a,b,()) (λy=>y=(bp (a=b),())):=by
 dsimp only [Qk,gm];simp (disch:=omega) only [RR];refine⟨λh=> ?_,λh=> ?_⟩
 .rw [bJ (λe=>h (by rw [e]))]
 have j:a.length=b.length:=by omega
 refine ay (λ(y:List Int×List Int×oz)=>y.1=a/\y.2.1=b/\y.2.2.1=a.length/\0<=y.2.2.2.1/\y.2.2.2.1<=a.length/\All y.2.2.2.1 (λi=>a.getD i.toNat default=b.getD i.toNat default)) (λy=>(a.length-y.2.2.2.1).toNat) ⟨rfl,rfl,rfl,by simp,by simp,All.zero⟩ ?_;rintro⟨(l:List Int),(o:List Int),(n:Int),(i:Int),⟨⟩⟩ hI;dsimp only at hI ⊢;obtain⟨rfl,rfl,rfl,f,k,g⟩:=hI;simp (disch:=omega) only [RR];refine⟨λd=>⟨f,d,f,ah,λc=> ?_,λc=>⟨⟨ah,ah,g.snoc c⟩,ah⟩⟩,λd=> ?_⟩
 .rw [bJ];intro e;rw [e]at c;exact c rfl
 .rw [aR (qc j (g.le ah))]
def Jg{w mem:List Int}{a:Int}(j:0<=a)(i:0<w.length):There w mem a↔a+w.length<=mem.length/\(mem.take (a+w.length).toNat).drop a.toNat=w:=by
 have b:∀k:Nat,k<w.length->a+w.length<=mem.length->((mem.take (a+w.length).toNat).drop a.toNat).getD k default=((mem).getD (a+k).toNat default):=λk hk h=>by
  rw [getD_eq_getElem?_getD,getElem?_drop,getElem?_take_of_lt ah,<-getD_eq_getElem?_getD,show a.toNat+k=(a+k).toNat by omega]
 refine⟨λh=> ?_,λ⟨h,e⟩ k l g=>⟨ah,?_⟩⟩
 .have e:=(h ((w.length:Int)-1) ah ah).1;have c:a+w.length<=mem.length:=by omega
  refine⟨c,ext_getElem (by rw [length_drop,length_take];omega) λn f d=> ?_⟩;have:=(h n ah ah).2;rw [<-b n d c,getD_lt f,Int.toNat_natCast,getD_lt d]at this;exact this
 .have:=b k.toNat ah h;rw [e,show a+((k.toNat:Nat):Int)=a+k by omega]at this;exact this.symm
def aoX{p1 f1 p2 f2}(d:Y1 p1 f1)(a:Y32 p2 f2)(e:Cac)(mem:List Int)(g:e.words.length<1000000000)(hm:mem.length<1000000000):Zx.F (p1,f1,p2,f2,()) (e,mem,()) (λy=>y=(dQ mem e,())):=by
 dsimp only [Zx,gm];simp (disch:=omega) only [RR,CAB,d];refine⟨λz=> ?_,λz=> ?_⟩
 .refine Prod.ext ?_ rfl;show decide (0<=e.blk.pc)=dQ mem e;rw [Bool.eq_iff_iff,decide_eq_true_eq,dQ,aX];exact⟨λh=>⟨h,λk i f=>by omega⟩,λh=>h.1⟩
 .by_cases c:inB e.blk.pc 0 (mem.length-e.words.length)=true
  .obtain⟨c0,c1⟩:=dU.1 c;have w:IntKind.i64.wrap (e.blk.pc+e.words.length)=e.blk.pc+e.words.length:=w64 ah ah;have b:(drop e.blk.pc.toNat (take (e.blk.pc+e.words.length).toNat mem)).length<1000000000:=by rw [length_drop,length_take];omega
   rw [w,c,(a _ _ b).2];refine⟨Or.inr c0,Or.inr ah,Or.inr ah,Or.inr ((a _ _ b).1),?_⟩;rw [Bool.true_and];refine Prod.ext (iF ?_) rfl;rw [Jg c0 ah];exact⟨λh=>⟨c0,ah,h⟩,λh=>h.2.2⟩
  .have c':inB e.blk.pc 0 (mem.length-e.words.length)=false:=by simpa using c
   rw [c'];refine⟨Or.inl rfl,Or.inl rfl,Or.inl rfl,Or.inl rfl,?_⟩;rw [Bool.false_and];refine Prod.ext (bJ λh=>c (dU.2 ⟨h.1,?_⟩)).symm rfl;have:=((Jg h.1 ah).1 h.2).1;omega
def FP(P:Cac->Bool)(l:List Cac)(k:Int):Prop:=(k= -1/\∀j:Int,0<=j->j<l.length->P ((l).getD (j).toNat default)=true)\/(0<=k/\k<l.length/\P ((l).getD (k).toNat default)=false/\∀j:Int,0<=j->j<k->P ((l).getD (j).toNat default)=true)
abbrev aoY(b:Cac×eu->Bool)(a:Cac×eu->fA):Prop:=∀e mem,e.words.length<1000000000->mem.length<1000000000->b (e,mem,())=true/\a (e,mem,())=(dQ mem e,())
def aoZ{p1 f1}(a:aoY p1 f1)(e:Cac)(mem:List Int)(b:e.words.length<1000)(hm:mem.length<1000000000)(c:e.blk.pc<=1000000):Zy.F (p1,f1,()) (e,mem,()) (λy=>y=(!dQ mem e,mem,())):=by
 dsimp only [Zy,gm];simp (disch:=omega) only [RR,a e mem ah hm]
abbrev ao0(b:Cac×eu->Bool)(a:Cac×eu->Bool×eu):Prop:=∀e mem,e.words.length<1000->mem.length<1000000000->e.blk.pc<=1000000->b (e,mem,())=true/\a (e,mem,())=(!dQ mem e,mem,())
def alj{p1 f1}(m:ao0 p1 f1)(l:List Cac)(mem:List Int)(h:ShK l)(hm:mem.length<1000000000):Qn.F (p1,f1,()) (l,mem,()) (λy=>y.2.1=l/\y.2.2.1=mem/\FP (dQ mem) l y.1):=by
 have r:=h.1;dsimp only [Qn,gm];refine ay (λ(y:Int×Int×zx)=>y.1=l.length/\0<=y.2.1/\y.2.1<=l.length/\y.2.2.1=l/\y.2.2.2.1=mem/\∀j:Int,0<=j->j<y.2.1->dQ mem ((l).getD (j).toNat default)=true) (λy=>(l.length-y.2.1).toNat) ⟨rfl,by simp,by simp,rfl,rfl,λj q a=>absurd a (by simp;omega)⟩ ?_;rintro⟨(n:Int),(i:Int),(l:List Cac),(mem:List Int),⟨⟩⟩ hI;dsimp only at hI ⊢;obtain⟨rfl,a,p,rfl,rfl,b⟩:=hI;obtain⟨o,s,k⟩:=h.at i.toNat;simp (disch:=omega) only [RR,m _ mem o hm k];refine⟨λg=>⟨a,g,a,g,λe=>Or.inr ⟨a,g,e,b⟩,λe=>⟨⟨ah,ah,λj d f=> ?_⟩,ah⟩⟩,λg=>Or.inl ⟨rfl,λj d f=>b j d ah⟩⟩;by_cases c:j<i
 .exact b j d c
 .rw [show j=i by omega];exact e
def alk{p1 f1}{e:zx->Bool}{a:zx->Int×zx}(u:ao0 p1 f1)(t:∀l mem,ShK l->mem.length<1000000000->e (l,mem,())=true/\(a (l,mem,())).2.1=l/\(a (l,mem,())).2.2.1=mem/\FP (dQ mem) l (a (l,mem,())).1)(l:List Cac)(mem:List Int)(h:ShK l)(hm:mem.length<1000000000):Rw.F (p1,f1,e,a,()) (l,mem,()) (λy=>y=(mem,l.filter (dQ mem),())):=by
 have x:=h.1;obtain⟨s,I⟩:=t l mem h hm;dsimp only [Rw,gm];simp (disch:=omega) only [RR,s];rw [I.1,I.2.1];have F:=I.2.2;generalize (a (l,mem,())).1=k at*;refine⟨λg=> ?_,λg=> ?_⟩
 .rw [filter_all (d:=default) λi B=> ?_];rcases F with⟨_,f⟩ | ⟨f,_⟩
  .simpa using f i ah ah
  .omega
 .obtain⟨k0,k1,k2,k3⟩:0<=k/\k<l.length/\dQ mem ((l).getD (k).toNat default)=false/\∀j:Int,0<=j->j<k->dQ mem ((l).getD (j).toNat default)=true:=by
   rcases F with⟨f,_⟩ | f
   .exact absurd f g
   .exact f
  have w:IntKind.i64.wrap (k+1)=k+1:=w64 ah ah;rw [w];refine ay (λ(y:Int×Int×zx)=>y.2.2.2.1=mem/\Ay (dQ mem) l y.2.2.1 y.1 y.2.1) (λy=>(l.length-y.2.1).toNat) ⟨rfl,Ay.start k0 k1 k2 k3⟩ ?_;rintro⟨(i:Int),(j:Int),(L:List Cac),(mem:List Int),⟨⟩⟩ hI;dsimp only at hI ⊢;obtain⟨rfl,D⟩:=hI;have r:=D.i0;have v:=D.ij;have A:=D.jl;have len:=D.len;have b:(L.length:Int)=l.length:=by omega
  by_cases c:j<l.length
  .have ej:((L).getD (j).toNat default)=((l).getD (j).toNat default):=D.b j.toNat ah;obtain⟨q,C,m⟩:=h.at j.toNat;rw [<-ej]at q m;obtain⟨o,p⟩:=u _ mem q hm m;by_cases d:dQ mem ((L).getD (j).toNat default)=true
   .simp (disch:=omega) only [RR,b,c,o,p,d];exact⟨ah,ah,ah,ah,ah,ah,D.keep c d,ah⟩
   .have d:dQ mem ((L).getD (j).toNat default)=false:=by simpa using d
    simp (disch:=omega) only [RR,b,c,o,p,d];exact⟨ah,ah,D.skip c d,ah⟩
  .simp (disch:=omega) only [RR,b,c];obtain⟨z1,z2⟩:=Vg (L:=L) (n:=l.length) (z:=Co.mk .cac ([],0,0,[],0,0,0,0,())) r ah b;exact⟨ah,ah,ah,ah,ah,ah,ah,ah,z1,ah,ah,Int.le_trans (show 0+(i-0)<=i by omega) z1,Prod.ext rfl (Prod.ext (z2.trans (D.fin c)) rfl)⟩
def ao1{p1 f1}{c:zx->Bool}{a:zx->List Int×sj}(b:alg p1 f1)(d:∀l mem,ShK l->mem.length<1000000000->c (l,mem,())=true/\a (l,mem,())=(mem,l.filter (dQ mem),()))(l:List Cac)(mem:List Int)(h:ShK l)(hm:mem.length<1000000000):aaZ.F (p1,f1,c,a,()) (l,mem,()) (λy=>y=(l.filter (dQ mem),())):=by
 have sh:=KH h (dQ mem);dsimp only [aaZ,gm];simp (disch:=omega) only [RR,b l h,d l mem h hm,b _ sh]
def afv{y:Eng}(h:iO y):y.cache.filter (dQ y.aj.mem)=y.cache:=by
 refine filter_eq_self.2 λx b=> ?_
 obtain⟨i,a,rfl⟩:=getElem_of_mem b;have k:=h.2.1.2.1 i ah ah;rw [show((i:Int)).toNat=i from rfl,getD_lt a]at k;exact aR ⟨k.1.2.1.pc.1,k.2⟩
end Go.TX.F
