/- Part 5 of a proof: what the last part needs. No condition. -/
import Derived.Test.YtmkkljppflidfaaGreatDoorZd
import Derived.ChangeSlices
import Derived.ChangeSame
import Derived.JoinedOf
import Derived.JoinedAt
import Derived.Handed
import Derived.Below
import Derived.Carry
import Derived.OpenShut
import Derived.ChangeKeysEq
import Derived.Deep.Slices
import Derived.OpenVars
import Derived.LaidMore
import Derived.MakeChecks
import Derived.Test.YtmkkljppflidfaaGreatDoorY
set_option maxHeartbeats 1000000
set_option linter.all false
set_option linter.unusedSectionVars false
set_option linter.unusedVariables false
set_option linter.unusedSimpArgs false
namespace Go.TX.F
open Go Go.AE Go.TX List
variable{x:Cac}{l:List Cac}{cs:List Cer}{m:aC}
def ab2:∀w:List Int,o7 w=qh w
 | []=>rfl
 | w::r=>by unfold o7 qh;rw [ab2 r]
def qH.e(h:qH x):abW x:=by
 unfold qH at h;rw [ab2]at h;exact⟨h.1,h.2.1,h.2.2⟩
def There.c{mem:List Int}(p:0<=x.blk.pc)(h:There x.words mem x.blk.pc):aoO x mem:=⟨p,λt a=>h t ah ah⟩
structure KpE(l:List Cac)(cs:List Cer):Prop where
 n:l.length<=4
 r:∀x∈l,qH x
 u:l.Pairwise λa b=>a.blk.pc≠b.blk.pc
 p:rJ cs
def Vi{e:Eng}(h:iO e):KpE e.cache e.bC:=⟨h.2.1.1,λx d=>by
 obtain⟨i,a,rfl⟩:=getElem_of_mem d;have k:=h.2.1.2.1 i ah ah;rw [show((i:Int)).toNat=i from rfl,getD_lt a]at k;exact k.1,pairwise_iff_getElem.2 λi j a b c=>by
 have k:=h.2.1.2.2 i j ah ah ah
 rwa [show((i:Int)).toNat=i from rfl,show((j:Int)).toNat=j from rfl,getD_lt a,getD_lt b]at k,h.2.2⟩
def Nj(h:KpE l cs)(hm:MOK m):iO ⟨m,l.filter (dQ m.mem),cs⟩:=by
 refine⟨hm,⟨Nat.le_trans (length_filter_le _ _) h.n,λj c a=> ?_,λi j b d a=> ?_⟩,h.p⟩
 .rw [getD_lt (show j.toNat< (l.filter (dQ m.mem)).length by dsimp only at a;omega)];have k:=mem_filter.1 (getElem_mem (show j.toNat< (l.filter (dQ m.mem)).length by dsimp only at a;omega));exact⟨h.r _ k.1,(aX.1 (show bp _=true from k.2)).2⟩
 .dsimp only at a ⊢;rw [getD_lt (show i.toNat< (l.filter (dQ m.mem)).length by omega),getD_lt (show j.toNat< (l.filter (dQ m.mem)).length by omega)];exact pairwise_iff_getElem.1 (h.u.filter _) _ _ _ _ ah
def alm{b:Blk}(hc:rJ cs)(e:dK b)(a:Ask):chk b (iX cs b a).1=true/\rJ (iX cs b a).2:=by
 have s:chk b b=true:=by rw [abE,aR e]
 unfold iX;split
 .exact⟨s,hc⟩
 split
 .rename_i g;obtain⟨q,d,h,f⟩:=aX.1 g;have:=hc.2 q d;rw [h,f]at this;exact⟨this,hc⟩
 split
 .rename_i g;refine⟨g,by unfold GL;rw [length_drop,length_append,length_singleton];omega,λq c=> ?_⟩;have c:=mem_of_mem_drop c;rw [mem_append,mem_singleton]at c;rcases c with k | rfl
  .exact hc.2 q k
  .exact g
 .exact⟨s,hc⟩
def afw{cs c:List Cer}(h:KpE l cs)(g:qH x)(hc:rJ c):KpE (lu l x) c:=by
 refine⟨?_,λy d=> ?_,?_,hc⟩
 .unfold lu;rw [length_drop,length_append,length_singleton];omega
 .have d:=mem_of_mem_drop (show y∈drop _ _ from d);rw [mem_append,mem_singleton]at d;rcases d with k | rfl
  .exact h.r y (mem_filter.1 k).1
  .exact g
 .unfold lu;refine Pairwise.sublist (drop_sublist _ _) ?_;rw [pairwise_append];refine⟨h.u.filter _,pairwise_singleton _ _,λa f b e=> ?_⟩;rw [mem_singleton]at e;subst e;have:=(mem_filter.1 f).2;simpa [neP]using this
def Nk(mem:List Int):∀(n:Nat) (p:Int),0<=p->∀t:Nat,t< (dS mem n p).length->((mem).getD (p+t).toNat default)=fF ((dS mem n p).getD t default)
 | 0,_,_,t,h=>absurd h (by simp [dS])
 | n+1,p,p0,t,h=>by
  unfold dS at h ⊢;split at h
  .rename_i g;rw [if_pos g];obtain⟨d,⟨a,b⟩,c⟩:=aX.1 g;have z:fF (bS ((mem).getD (p).toNat default))=((mem).getD (p).toNat default):=Nh a b;split at h
   .rename_i e;rw [if_pos e];have:t=0:=by simp at h;omega
    subst this;rw [show p+((0:Nat):Int)=p by omega];exact z.symm
   .rename_i e;rw [if_neg e];cases t with
    | zero=>rw [show p+((0:Nat):Int)=p by omega];exact z.symm
    | succ t=>
     have:=Nk mem n (p+1) ah t (by simpa using h);rw [show p+((t+1:Nat):Int)=p+1+t by omega,this];rfl
  .exact absurd h (by simp)
def ab3{e:Eng}(ok:iO e)(a:Ask):KpE (gM e a).1.cache (gM e a).1.bC/\(0<=(gM e a).2.1->qH ((((gM e a).1.cache).getD ((gM e a).2.1).toNat default))/\((((gM e a).1.cache).getD ((gM e a).2.1).toNat default)).blk.pc=e.aj.pc/\There ((((gM e a).1.cache).getD ((gM e a).2.1).toNat default)).words e.aj.mem e.aj.pc):=by
 have K:=Vi ok;have fc:=Sl e.cache e.aj.pc;have B:=FW e.aj;unfold gM;split
 .refine⟨K,λg=> ?_⟩;rcases fc with f | ⟨q,t,n,_⟩
  .dsimp only at g;omega
  .have k:=ok.2.1.2.1 _ q t;dsimp only;rw [n]at k;exact⟨k.1,n,k.2⟩
 split
 .exact⟨K,λg=>absurd (show(0:Int)<= -1 from g) (by decide)⟩
 .rename_i g;obtain⟨h,c⟩:=B.2 ah;have ir:=oW c;have A:=alm K.p ir a;have Q:=FX A.1;have r:=Jf c;have al:∀i∈findF e.aj,bf i:=λi s=>by
   obtain⟨j,m,rfl⟩:=getElem_of_mem s;have:=(c.ok j m).1
   rwa [getD_lt m]at this
  have p:o7 ((findF e.aj).map fF)=findF e.aj:=by rw [ab2,Je al]
  have l:(iX e.bC (lower e.aj.pc (findF e.aj)) a).1.pc=e.aj.pc:=by rw [<-Q.2.2.1,r]
  have R:qH ⟨(findF e.aj).map fF,(iX e.bC (lower e.aj.pc (findF e.aj)) a).1⟩:=by
   unfold qH;dsimp only;rw [p,l,length_map];exact⟨rfl,c,A.1⟩
  refine⟨afw K R A.2,λ_=> ?_⟩;dsimp only;rw [BR];refine⟨R,l,λk v d=> ?_⟩;rw [length_map]at d;have o:=c.pc;have u:=h.m64;refine⟨ah,?_⟩;have b:=Nk e.aj.mem 8 e.aj.pc o.1 k.toNat;unfold findF at d ⊢;rw [aR h,if_pos rfl]at d ⊢;have b:=b ah;rw [show((k.toNat:Nat):Int)=k by omega]at b;rw [b,getD_lt ah,getD_lt (by rw [length_map];omega),getElem_map]
def WR{i:Ins}(g:m.halt=0):(exec m i).count=m.count+1/\(exec m i).halt<2\/2<=(exec m i).halt/\(exec m i).count=m.count:=by
 unfold exec;split
 .exact Or.inr ⟨show(2:Int)<=3 by decide,rfl⟩
 .refine Or.inl ⟨rfl,?_⟩;show(eff m i).halt<2;unfold eff
  repeat' split
  all_goals first | (dsimp only;omega) | omega
def FY(g:m.halt=0)(b:Bool):(stepM m b).count=m.count+1/\(stepM m b).halt<2\/2<=(stepM m b).halt/\(stepM m b).count=m.count:=by
 obtain⟨_,_,e⟩:=zq m b;have h:(smp m b).halt=0:=by unfold smp;split<;>exact g
 rw [jN,<-e];split
 .exact Or.inr ⟨show(2:Int)<=4 by decide,rfl⟩
 split
 .exact Or.inr ⟨show(2:Int)<=2 by decide,rfl⟩
 .exact WR h
def Vj(b:Blk):∀(a:List IOp) (s:MS),(s.m.halt=0\/s.m.halt=3)->(a.foldl (aJ b) s).m.halt=0\/(a.foldl (aJ b) s).m.halt=3
 | [],_,h=>h
 | o::r,s,h=>by
  refine Vj b r _ ?_;have k:=(KG (s:=s) o).2.1;unfold aJ;split
  .exact h
  split
  .exact Or.inr rfl
  split
  .exact h.imp (λg=>k.trans g) λg=>k.trans g
  .exact h.imp (λg=>k.trans g) λg=>k.trans g
def ab4{b:Blk}(g:m.halt=0):(fC b m).1.halt=0\/(fC b m).1.halt=3:=by
 unfold fC;split
 .split
  .exact Or.inl g
  .have:=Vj b b.ops ⟨m,[],false⟩ (Or.inl g);unfold oV;split<;>exact this
 .exact Or.inl rfl
structure TuL(e:Eng)(q:List Int)(left:Int)(x:Eng)(k:Nat):Prop where
 ok:iO x
 k1:1<=k
 kl:(k:Int)<=left
 run:gI q k e.aj=x.aj
 cnt:(k:Int)=x.aj.count-e.aj.count+(if 2<=x.aj.halt then 1 else 0)
def ab5{e:Eng}{q:List Int}{left:Int}(a:Ask)(ok:iO e)(d:e.aj.halt=0)(g:e.aj.count<1000000)(R:1<=left):∃k:Nat,TuL e q left (goE e q left a).1 k:=by
 have hm:=ok.1;have f:∀y:Eng,y.aj=e.aj->KpE y.cache y.bC->TuL e q left (jg y q) 1:=λy H C=>by
  have A:stS y.aj (bp (y.aj.count∈q))=stepM e.aj (bp (e.aj.count∈q)):=by
   rw [H];unfold stS;rw [aR hm,if_pos rfl,if_neg ah]
  have u:=oZ hm g (bp (e.aj.count∈q));have G:=FY d (bp (e.aj.count∈q));unfold jg;rw [A];refine⟨Nj C u,Nat.le_refl _,ah,by unfold gI gI;rw [if_pos ⟨d,g⟩],?_⟩;dsimp only;rcases G with⟨j,v⟩ | ⟨j,v⟩
  .rw [if_neg ah];omega
  .rw [if_pos j];omega
 obtain⟨K,F⟩:=ab3 ok a;have fm:=BS e a;unfold goE;split
 .exact⟨1,f e rfl (Vi ok)⟩
 rename_i w;split
 .exact⟨1,f _ fm K⟩
 rename_i n;split
 .exact⟨1,f _ fm K⟩
 rename_i r;obtain⟨i,F2,l⟩:=F ah;generalize ((((gM e a).1.cache).getD ((gM e a).2.1).toNat default))=x at*;have r:yC e.aj q left x.blk.len=true:=by simpa using r
 obtain⟨I,B,s⟩:=aX.1 r;have D:0<=x.blk.pc:=i.2.1.pc.1;rw [<-F2]at l;obtain⟨S,N,J,L,k,p,Q,k3,o⟩:=afr (q:=q) i.e (l.c D) hm d F2.symm (λz=>w ⟨by
  have:=z.1;rw [Bool.or_eq_true,aX]at this;exact this,z.2⟩) (λc O P hc=>s (c-e.aj.count) ah ah (by rwa [show e.aj.count+(c-e.aj.count)=c by omega])) B
 have E:=ab4 (b:=x.blk) (m:={e.aj with waits:=e.aj.waits || bp (e.aj.count∈q)}) d;have t:MOK (fC x.blk {e.aj with waits:=e.aj.waits || bp (e.aj.count∈q)}).1:=by rw [<-o];exact KD q k hm
 generalize (fC x.blk {e.aj with waits:=e.aj.waits || bp (e.aj.count∈q)}).1=M at*;refine⟨k,Nj K t,p,ah,o,?_⟩;dsimp only;rw [k3];rcases E with h | h
 .rw [if_neg ah,if_neg ah]
 .rw [if_pos h,if_pos ah]
end Go.TX.F
namespace Go.TX.F
open Go Go.AE Go.TX List
def sZ:Ask:=⟨true,[]⟩
noncomputable def xP (q:List Int) (d:Int):Nat->Eng->List Ask->Eng
 | 0,e,_=>e
 | f+1,e,l=>if e.aj.halt=0/\e.aj.count<1000000/\e.aj.count<d then xP q d f (goE e q (d-e.aj.count) (l.headD sZ)).1 (if(goE e q (d-e.aj.count) (l.headD sZ)).2=true then l.tail else l)else e
noncomputable def rM (e:Eng) (q:List Int) (n:Int) (l:List Ask):Eng:=if bp (iO e/\n<=400)=true then xP q (e.aj.count+n) (n.toNat+1) e l else Sn
def wI{q:List Int}{m:aC}(h:¬(m.halt=0/\m.count<1000000)):∀k:Nat,gI q k m=m
 | 0=>rfl
 | k+1=>by unfold gI;rw [if_neg h]
def Jh(q:List Int):∀(a b:Nat) (m:aC),gI q (a+b) m=gI q b (gI q a m)
 | 0,b,m=>by rw [Nat.zero_add];rfl
 | a+1,b,m=>by
  rw [show a+1+b=(a+b)+1 by omega,gI,gI];split
  .exact Jh q a b _
  .rename_i c;rw [wI c]
def Az(d:Int)(e:Eng):Nat:=(d-e.aj.count).toNat+(if e.aj.halt=0 then 1 else 0)
def Nl(q:List Int)(d:Int):∀(f:Nat) (e:Eng) (l:List Ask),Az d e<=f->iO e->iO (xP q d f e l)/\(xP q d f e l).aj=gI q (d-e.aj.count).toNat e.aj
 | 0,e,l,h,ok=>by
  unfold Az at h;have:e.aj.halt≠0:=λz=>by rw [if_pos z]at h;omega
  exact⟨ok,(wI (λz=>this z.1) _).symm⟩
 | f+1,e,l,h,ok=>by
  unfold xP;split
  .rename_i c;obtain⟨a,b,j⟩:=c;obtain⟨k,T⟩:=ab5 (l.headD sZ) (q:=q) (left:=d-e.aj.count) ok a b ah;generalize (goE e q (d-e.aj.count) (l.headD sZ)).1=x at*;have m:=T.kl;have i:=T.k1;have cn:=T.cnt;have I:=Nl q d f x (if(goE e q (d-e.aj.count) (l.headD sZ)).2=true then l.tail else l) (by
    unfold Az at h ⊢;rw [if_pos a]at h;by_cases g:2<=x.aj.halt
    .rw [if_pos g]at cn;rw [if_neg ah];omega
    .rw [if_neg g]at cn;split<;>omega) T.ok
   refine⟨I.1,?_⟩;rw [I.2,show(d-e.aj.count).toNat=k+((d-e.aj.count).toNat-k) by omega,Jh,T.run];by_cases g:2<=x.aj.halt
   .rw [wI ah,wI ah]
   .rw [if_neg g]at cn;rw [show(d-e.aj.count).toNat-k=(d-x.aj.count).toNat by omega]
  .rename_i c;refine⟨ok,?_⟩;by_cases z:e.aj.count<d
   .exact(wI (λy=>c ⟨y.1,y.2,z⟩) _).symm
   .rw [show(d-e.aj.count).toNat=0 by omega];rfl
def ab6{e:Eng}(ok:iO e){n:Int}(hn:n<=400)(q:List Int)(l:List Ask):iO (rM e q n l)/\(rM e q n l).aj=kV q n e.aj:=by
 unfold rM kV;rw [aR ⟨ok,hn⟩,aR ⟨ok.1,hn⟩,if_pos rfl,if_pos rfl];have:=Nl q (e.aj.count+n) (n.toNat+1) e l (by unfold Az;split<;>omega) ok
 rwa [show e.aj.count+n-e.aj.count=n by omega]at this
def KI{e:Eng}{n:Int}(h:¬(iO e/\n<=400))(q:List Int)(l:List Ask):rM e q n l=Sn:=by
 unfold rM;rw [bJ h,if_neg (by decide)]
def Vk(l:List Cac)(mem:List Int)(j:Int):Prop:=dQ mem ((l).getD (j).toNat default)=true/\qH ((l).getD (j).toNat default)/\FC l (((l).getD (j).toNat default)).blk.pc j
def Vm(l:List Cac)(mem:List Int):FV l mem↔l.length<=4/\∀j:Int,0<=j->j<l.length->Vk l mem j:=by
 refine⟨λ⟨k,g,o⟩=>⟨k,λj f d=> ?_⟩,λ⟨k,g⟩=>⟨k,λj f d=> ?_,λi j h n d e=> ?_⟩⟩
 .obtain⟨a,b⟩:=g j f d;exact⟨aR ⟨a.2.1.pc.1,b⟩,a,Or.inr ⟨f,d,rfl,λi h m=>o i j h m d⟩⟩
 .obtain⟨a,b,_⟩:=g j f d;exact⟨b,(aX.1 (show bp _=true from a)).2⟩
 .obtain⟨_,_,c⟩:=g j ah d;rcases c with⟨c,_⟩ | ⟨_,_,_,c⟩
  .omega
  .exact c i h n e
theorem aqT{p1 f1}(m:abP p1 f1)(w:List Int)(h:w.length<1000000000):aiH.F (p1,f1,()) (w,()) (λy=>y=(o7 w,())):=by
 have e:∀x y z u:Int,Co.mk .ins (x,y,z,u,())=⟨x,y,z,u⟩:=λ_ _ _ _=>rfl
 dsimp only [aiH,gm];simp only [RR];refine ay (λ(y:List Int×Int×Int×ny)=>y.1=w/\y.2.1=w.length/\0<=y.2.2.1/\y.2.2.1<=w.length/\y.2.2.2.1=(w.take y.2.2.1.toNat).map bS/\∀x∈w.take y.2.2.1.toNat,Wo x/\bf (bS x)) (λy=>(w.length-y.2.2.1).toNat) ⟨rfl,rfl,by simp,by simp,by simp,by simp⟩ ?_;rintro⟨(w:List Int),(n:Int),(i:Int),(o:List Ins),⟨⟩⟩ hI;dsimp only at hI ⊢;obtain⟨rfl,rfl,b,p,rfl,a⟩:=hI;simp (disch:=omega) only [RR,m];have tl:=length_take_le' i.toNat w;refine⟨λg=>⟨b,g,?_⟩,λg=> ?_⟩
 .have dr:w=w.take i.toNat++(w.getD i.toNat default::w.drop (i.toNat+1)):=by
   rw [getD_lt ah,<-drop_eq_getElem_cons ah,take_append_drop]
  unfold tkI;by_cases c:Wo (w.getD i.toNat default)/\bf (bS (w.getD i.toNat default))
  .rw [if_pos (aR c)];simp (disch:=omega) only [RR,e];have j:=dO (d:=default) b g (l:=w) rfl;have k:((w.take i.toNat).map bS).length=i.toNat:=by rw [length_map,length_take];omega
   refine⟨by rw [k];simp only [length_cons,length_nil];omega,⟨ah,ah,by rw [<-j,map_append];rfl,λx f=> ?_⟩,ah⟩;rw [<-j,mem_append,mem_singleton]at f;exact f.elim (a x) (λq=>q▸c)
  .rw [if_neg (by rw [bJ c];decide)];simp (disch:=omega) only [RR]
   conv=>rhs;rw [dr]
   rw [FU _ _ a,o7,if_neg (by rw [bJ c];decide),append_nil]
   done
 .rw [take_of_length_le ah]at a ⊢;have:=FU w [] a;rw [append_nil]at this;rw [this];simp [o7]
theorem ao2{p1 f1 p2 f2 p3 f3 p4 f4 p5 f5 p6 f6}(R:aoB p1 f1)(N:aoy p2 f2)(M:aqN p3 f3)(Q:aoY p4 f4)(G:aoR p5 f5)(H:Y96 p6 f6)(l:List Cac)(mem:List Int)(h:ShX l)(hm:mem.length<1000000000):aap.F (p1,f1,p2,f2,p3,f3,p4,f4,p5,f5,p6,f6,()) (l,mem,()) (λy=>y=(bp (FV l mem),())):=by
 have mE:∀c:Blk,Co.mk .blk (c.pc,c.len,c.ops,c.fin,c.x,c.y,c.k,())=c:=λ_=>rfl
 have mC:=CAM;have L:=h.1;dsimp only [aap,gm,vF];refine ay (λ(y:List Cac×List Int×List Cac×oz)=>y.1=l/\y.2.1=mem/\y.2.2.1=l/\y.2.2.2.1=l.length/\0<=y.2.2.2.2.1/\y.2.2.2.2.1<=l.length/\∀j:Int,0<=j->j<y.2.2.2.2.1->Vk l mem j) (λy=>(l.length-y.2.2.2.2.1).toNat) ⟨rfl,rfl,rfl,rfl,by simp,by simp,λj V F=>absurd F (by simp;omega)⟩ ?_;rintro⟨(X:List Cac),(b:List Int),(a:List Cac),(n:Int),(i:Int),⟨⟩⟩ hI;dsimp only at hI ⊢;obtain⟨rfl,rfl,rfl,rfl,v,U,u⟩:=hI;obtain⟨w,S⟩:=h.at i.toNat;have tl:=UZ (((a).getD (i).toNat default)).words;obtain⟨E,C⟩:=M (((a).getD (i).toNat default)).words w;obtain⟨B,D⟩:=Q ((a).getD (i).toNat default) b w hm;obtain⟨J,P⟩:=N (((a).getD (i).toNat default)).blk.pc (o7 (((a).getD (i).toNat default)).words) ah;obtain⟨I,K⟩:=R (((a).getD (i).toNat default)).blk.pc (o7 (((a).getD (i).toNat default)).words) ah;have W:((lower (((a).getD (i).toNat default)).blk.pc (o7 (((a).getD (i).toNat default)).words)).ops.length:Int)<=5000:=abQ _ _;obtain⟨O,x⟩:=H (lower (((a).getD (i).toNat default)).blk.pc (o7 (((a).getD (i).toNat default)).words)) (((a).getD (i).toNat default)).blk ah S;obtain⟨T,s⟩:=G a (((a).getD (i).toNat default)).blk.pc L;generalize hk:(f5 (a,(((a).getD (i).toNat default)).blk.pc,())).1=k at s;by_cases c:i<a.length
 .simp (disch:=omega) only [RR,CAB,mE,c,I,K,J,P,E,C,B,D,T,hk,O,x];have f:Vk a b i↔((dQ b ((a).getD (i).toNat default)=true/\((o7 (((a).getD (i).toNat default)).words).length:Int)=(((a).getD (i).toNat default)).words.length)/\bp (nK (((a).getD (i).toNat default)).blk.pc (o7 (((a).getD (i).toNat default)).words))=true)/\chk (lower (((a).getD (i).toNat default)).blk.pc (o7 (((a).getD (i).toNat default)).words)) (((a).getD (i).toNat default)).blk=true/\k=i:=
   ⟨λ⟨d,⟨q,m,r⟩,o5⟩=>⟨⟨⟨d,ah⟩,aR m⟩,r,FC.one s o5⟩,λ⟨⟨⟨d,q⟩,m⟩,r,o5⟩=>⟨d,⟨ah,aX.1 m,r⟩,o5▸s⟩⟩
  have p:¬Vk a b i->((false,()):fA)=(bp (FV a b),()):=λn=>by rw [bJ (λz=>n (((Vm a b).1 z).2 i v c))]
  refine⟨v,λg=>⟨λe=>p (λo=> ?_),λe=>⟨⟨ah,ah,λj t A=> ?_⟩,ah⟩⟩,λg=>⟨g,p (λo=> ?_),λz=>z.1.elim⟩⟩
  .obtain⟨⟨⟨d,q⟩,m⟩,r,o5⟩:=f.1 o;rcases e with(((e | e) | e) | e) | e
   .rw [d]at e;cases e
   .exact e q
   .rw [m]at e;cases e
   .rw [r]at e;cases e
   .exact e o5
  .by_cases z:j<i
   .exact u j t z
   .rw [show j=i by omega];exact f.2 ⟨e.1.1,e.1.2,e.2⟩
  .obtain⟨⟨⟨d,q⟩,m⟩,_⟩:=f.1 o;rcases g with(e | e) | e
   .rw [d]at e;cases e
   .exact e q
   .rw [m]at e;cases e
 .simp (disch:=omega) only [RR,c];refine Prod.ext (Bool.eq_iff_iff.2 ?_) rfl;rw [decide_eq_true_eq,aX,Vm];exact⟨λg=>⟨ah,λj t A=>u j t ah⟩,λg=>by have:=g.1;omega⟩
def ao3{p1 f1 p2 f2 p3 f3}(m:aqO p1 f1)(k:aql p2 f2)(j:KA p3 f3)(e:Eng)(a:MSh e.aj)(i:ShX e.cache)(l:ShD e.bC):aat.F (p1,f1,p2,f2,p3,f3,()) (e,()) (λy=>y=(bp (iO e),())):=by
 have b:=λz1 z2 z3 z4=>(m z1 z2 z3 z4).1
 have h:=λz1 z2 z3 z4=>(m z1 z2 z3 z4).2
 have f:=λz1 z2=>(k z1 z2).1
 have g:=λz1 z2=>(k z1 z2).2
 have d:=λz1 z2=>(j z1 z2).1
 have c:=λz1 z2=>(j z1 z2).2
 have mM:=MKM;have n:=b _ e.aj.mem i a.2.1;have o:=h _ e.aj.mem i a.2.1;dsimp only [aat,gm,vG]at*;simp (disch:=omega) only [RR,EGB,mM,d _ a,c _ a,n,o,f _ l,g _ l];unfold iO;rw [fT,fT,Bool.and_assoc]
variable{K:List Cac}{C:List Cer}
abbrev mK(K:List Cac)(C:List Cer)(m:aC):ak:=(m.pc,m.save,m.aO,m.waits,m.halt,m.ins,m.count,K,C,m.regs,m.mem,m.outs,())
def KJ{m:aC}{i:Ins}{u:aC}(h:exec m i=u):mK K C u=mK K C (exec m i):=by rw [h]
def eU{m:aC}{i:Ins}(h:¬((i.op=9\/i.op=10)/\64<=adr m i)){u:aC}(e:eff m i=u){n:Int}(f:nxt m i=n):mK K C {u with pc:=n,count:=m.count+1}=mK K C (exec m i):=by
 refine KJ ?_;unfold exec;rw [if_neg h,e,f]
def ao4(f c:Int)(lt g:Bool)(b:Int)(ins:List Int)(d:Int)(K:List Cac)(C:List Cer)(regs mem a:List Int)(h:ins.length<1000000000):aaA.F () (f,c,lt,g,b,ins,d,K,C,regs,mem,a,()) (λy=>y=(ins.getD 0 default,f,c,lt,g,b,ins.drop 1,d,K,C,regs,mem,a,())):=by
 dsimp only [aaA,gm];simp (disch:=omega) only [RR];refine⟨λe=> ?_,λe=> ?_⟩
 .have:ins=[]:=eq_nil_of_length_eq_zero ah;subst this;rfl
 .exact⟨ah,ah,ah,ah,ah,by rw [take_of_length_le ah];rfl⟩
abbrev ao5(h:ak->Bool)(g:ak->Int×ak):Prop:=∀(d c:Int) (lt e:Bool) (b:Int) (ins:List Int) (f:Int) (K:List Cac) (C:List Cer) (regs mem a:List Int),ins.length<1000000000->h (d,c,lt,e,b,ins,f,K,C,regs,mem,a,())=true/\g (d,c,lt,e,b,ins,f,K,C,regs,mem,a,())=(ins.getD 0 default,d,c,lt,e,b,ins.drop 1,f,K,C,regs,mem,a,())
set_option maxHeartbeats 1000000 in
theorem ao6{p1 f1 p2 f2 p3 f3 p4 f4}(M:ao5 p1 f1)(I:Y24 p2 f2)(H:Y59 p3 f3)(v:Y10 p4 f4)(i:Ins)(m:aC)(K:List Cac)(C:List Cer)(h:MOK m)(L:bf i)(hn:m.ins.length<1000000000)(U:m.outs.length<900000000):aaC.F (p1,f1,p2,f2,p3,f3,p4,f4,()) (i,m.pc,m.save,m.aO,m.waits,m.halt,m.ins,m.count,K,C,m.regs,m.mem,m.outs,()) (λy=>y=mK K C (exec m i)):=by
 obtain⟨⟨Z,T⟩,⟨p,S⟩,⟨t,a1⟩,j,R,O,X,B,N,W,_⟩:=L;have P:i.k<=255:=by omega
 have l:=h.r4;have A:=h.m64;have c:=h.ct;have V:0<=m.pc/\m.pc<=65535:=h.pc;have f:=h.rw.at i.a;have w:=h.rw.at i.d;obtain⟨n,x⟩:=DC w f;have s:inB ((m.regs).getD (i.d).toNat default) 0 65535=true:=dU.2 w;have k:inB ((m.regs).getD (i.a).toNat default) 0 65535=true:=dU.2 f;have D:0<=((m.regs).getD (i.a).toNat default)/\((m.regs).getD (i.a).toNat default)<=65535:=f;obtain⟨F,G⟩:=M m.pc m.save m.aO m.waits m.halt m.ins m.count K C m.regs m.mem m.outs hn;have o:(((m.regs).getD (i.a).toNat default)+i.k)%65536=adr m i:=rfl;have J:0<=adr m i:=by unfold adr;omega
 have Y:∀r a b:Int,(inB a 0 65535&&inB b 0 65535&&decide (r=1/\a=b\/r=2/\a<b))=wE r a b:=λ_ _ _=>rfl
 dsimp only [aaC,gm];rcases(by omega:i.op=0\/i.op=1\/i.op=2\/(3<=i.op/\i.op<=7)\/i.op=8\/i.op=9\/i.op=10\/i.op=11\/i.op=12\/i.op=13\/i.op=14\/i.op=15)with e | e | e | e | e | e | e | e | e | e | e | e
 case inr.inr.inr.inl=>
  have E:∀z:Int,z<3\/7<z->¬i.op=z:=λz g q=>by omega
  have Q:=B e;simp (disch:=omega) only [RR,IR,E,v,o,I,l,p,t,j,fQ,or_self,false_and,and_false];refine⟨ah,ah,ah,λ_=>⟨ah,ah,ah,?_⟩⟩;rw [show i.op-3+1=i.op-2 by omega];exact eU (K:=K) (C:=C) (u:={m with regs:=m.regs.set i.d.toNat (wdo (i.op-2) ((m.regs).getD (i.a).toNat default) ((m.regs).getD (i.k).toNat default))}) (n9 ah) (efd e) (nxp ah)
 all_goals simp (disch:=omega) only [RR,IR,e,Int.reduceEq,Int.reduceSub,Int.reduceAdd,v,o,H,F,G,l,A,p,t,j,fQ,or_self,false_and,and_false,true_or,or_true,true_and,length_cons,length_nil]
 .refine⟨ah,ah,ah,λ_=>⟨λg=> ?_,λg=>⟨λd=> ?_,λd=> ?_⟩⟩⟩
  .exact eU (K:=K) (C:=C) (u:={m with halt:=1}) (n9 ah) (by rw [ef0 e,if_pos g]) (nxp ah)
  .exact eU (K:=K) (C:=C) (u:={m with aO:=true}) (n9 ah) (by rw [ef0 e,if_neg g,if_pos d]) (by unfold nxt;rw [if_pos ⟨e,d⟩])
  .exact eU (K:=K) (C:=C) (u:={m with aO:=decide (i.k=2)}) (n9 ah) (by rw [ef0 e,if_neg g,if_neg d]) (nxp ah)
 .exact⟨ah,ah,ah,λ_=>⟨ah,eU (K:=K) (C:=C) (u:={m with regs:=m.regs.set i.d.toNat i.k}) (n9 ah) (ef1 e) (nxp ah)⟩⟩
 .exact⟨ah,ah,ah,λ_=>⟨ah,eU (K:=K) (C:=C) (u:={m with regs:=m.regs.set i.d.toNat ((m.regs).getD (i.a).toNat default)}) (n9 ah) (ef2 e) (nxp ah)⟩⟩
 .rw [abR f j (N e)];exact⟨ah,ah,ah,λ_=>⟨ah,eU (K:=K) (C:=C) (u:={m with regs:=m.regs.set i.d.toNat (((m.regs).getD (i.a).toNat default)*2^i.k.toNat%65536)}) (n9 ah) (ef8 e) (nxp ah)⟩⟩
 .refine⟨ah,ah,ah,λg=> ?_,λg=> ?_⟩
  .exact KJ (K:=K) (C:=C) (by unfold exec;rw [if_pos ⟨Or.inl e,g⟩])
  .have g':¬64<=adr m i:=λq=>by simp [q]at g
   exact⟨ah,ah,ah,ah,ah,eU (K:=K) (C:=C) (u:={m with regs:=m.regs.set i.d.toNat ((m.mem).getD (adr m i).toNat default)}) (λq=>g' q.2) (ef9 e) (nxp ah)⟩
 .refine⟨ah,ah,ah,λg=> ?_,λg=> ?_⟩
  .exact KJ (K:=K) (C:=C) (by unfold exec;rw [if_pos ⟨Or.inr e,g⟩])
  .have g':¬64<=adr m i:=λq=>by simp [q]at g
   exact⟨ah,ah,ah,ah,ah,eU (K:=K) (C:=C) (u:={m with mem:=m.mem.set (adr m i).toNat ((m.regs).getD (i.d).toNat default)}) (λq=>g' q.2) (afj e) (nxp ah)⟩
 .have ef:eff m i=m:=efj ah;refine⟨ah,ah,ah,λ_=>⟨ah,λg=> ?_,λg=> ?_⟩⟩
  .exact eU (K:=K) (C:=C) (u:=m) (n9 ah) ef (by unfold nxt;rw [if_neg ah,if_pos ⟨Or.inl e,by rw [e];exact n.2 g.2⟩])
  .rw [s,k]at g;exact eU (K:=K) (C:=C) (u:=m) (n9 ah) ef (by unfold nxt;rw [if_neg ah,if_neg (λq=>of_decide_eq_false g (n.1 (by have:=q.2;rw [e]at this;exact this))),if_neg ah])
 .have ef:eff m i=m:=efj ah;refine⟨ah,ah,ah,λ_=>⟨ah,λg=> ?_,λg=> ?_⟩⟩
  .exact eU (K:=K) (C:=C) (u:=m) (n9 ah) ef (by unfold nxt;rw [if_neg ah,if_pos ⟨Or.inr e,by rw [e];exact x.2 g.2⟩])
  .rw [s,k]at g;exact eU (K:=K) (C:=C) (u:=m) (n9 ah) ef (by unfold nxt;rw [if_neg ah,if_neg (λq=>of_decide_eq_false g (x.1 (by have:=q.2;rw [e]at this;exact this))),if_neg ah])
 .exact⟨ah,ah,ah,λ_=>eU (K:=K) (C:=C) (u:=m) (n9 ah) (efj ah) (by unfold nxt;rw [if_neg ah,if_neg ah,if_pos e];rfl)⟩
 .exact⟨ah,ah,ah,λ_=>⟨ah,ah,eU (K:=K) (C:=C) (u:={m with outs:=m.outs++ [((m.regs).getD (i.d).toNat default)]}) (n9 ah) (akD e) (nxp ah)⟩⟩
 .exact⟨ah,ah,ah,λ_=>⟨ah,eU (K:=K) (C:=C) (u:={m with regs:=m.regs.set i.d.toNat (m.ins.getD 0 default),ins:=m.ins.drop 1}) (n9 ah) (afk e) (nxp ah)⟩⟩
set_option maxHeartbeats 1000000 in
theorem ao7{p1 f1}{u:Ins×ak->Bool}{A:Ins×ak->ak}(n:abP p1 f1)(z:∀(i:Ins) (m:aC) (K:List Cac) (C:List Cer),MOK m->bf i->m.ins.length<1000000000->m.outs.length<900000000->u (i,m.pc,m.save,m.aO,m.waits,m.halt,m.ins,m.count,K,C,m.regs,m.mem,m.outs,())=true/\A (i,m.pc,m.save,m.aO,m.waits,m.halt,m.ins,m.count,K,C,m.regs,m.mem,m.outs,())=mK K C (exec m i))(b:Bool)(m:aC)(K:List Cac)(C:List Cer)(h:MOK m)(hn:m.ins.length<1000000000)(w:m.outs.length<900000000):aaE.F (p1,f1,u,A,()) (b,m.pc,m.save,m.aO,m.waits,m.halt,m.ins,m.count,K,C,m.regs,m.mem,m.outs,()) (λy=>y=mK K C (stepM m b)):=by
 have s:=KC h b;obtain⟨B,v,_⟩:=zq m b;have a:=λi r=>(z i (smp m b) K C s r (by rw [B];exact hn) (by rw [v];exact w)).1
 have d:=λi r=>(z i (smp m b) K C s r (by rw [B];exact hn) (by rw [v];exact w)).2
 have G:=s.m64;have x:0<=(smp m b).pc/\(smp m b).pc<=65535:=s.pc;have D:=s.mw.at (smp m b).pc;have T:(bf (bS (((smp m b).mem).getD ((smp m b).pc).toNat default))->tkI (((smp m b).mem).getD ((smp m b).pc).toNat default)=((bS (((smp m b).mem).getD ((smp m b).pc).toNat default)).op,(bS (((smp m b).mem).getD ((smp m b).pc).toNat default)).d,(bS (((smp m b).mem).getD ((smp m b).pc).toNat default)).a,(bS (((smp m b).mem).getD ((smp m b).pc).toNat default)).k,true,()))/\(¬bf (bS (((smp m b).mem).getD ((smp m b).pc).toNat default))->tkI (((smp m b).mem).getD ((smp m b).pc).toNat default)=(0,0,0,0,false,())):=
  ⟨λk=>by unfold tkI;rw [aR ⟨D,k⟩,if_pos rfl],λk=>by unfold tkI;rw [bJ (λq=>k q.2),if_neg (by decide)]⟩
 have l:∀i:Ins,Co.mk .ins (i.op,i.d,i.a,i.k,())=i:=λ_=>rfl
 have fin:∀S:aC,S=smp m b->(64<=S.pc->(S.pc,S.save,S.aO,S.waits,(4:Int),S.ins,S.count,K,C,S.regs,S.mem,S.outs,())=mK K C (stepM m b))/\(¬64<=S.pc->(¬bf (bS ((S.mem).getD (S.pc).toNat default))->(S.pc,S.save,S.aO,S.waits,(2:Int),S.ins,S.count,K,C,S.regs,S.mem,S.outs,())=mK K C (stepM m b))/\(bf (bS ((S.mem).getD (S.pc).toNat default))->exec S (bS ((S.mem).getD (S.pc).toNat default))=stepM m b)):=by
  rintro S rfl;rw [jN];refine⟨λq=>by rw [if_pos q],λq=>⟨λk=>by rw [if_neg q,bJ k,if_pos rfl],λk=>by rw [if_neg q,aR k,if_neg (by decide)]⟩⟩
 have F:=fin _ rfl;have f:=h.m64;dsimp only [aaE,gm];have j:((64:Int)<=48)=False:=eq_false (by decide);by_cases c:(m.waits || b)=true/\m.aO=true
 .have e:smp m b={m with waits:=false,aO:=false,save:=m.pc,pc:=48}:=by unfold smp;rw [if_pos c]
  rw [e]at T a d F;dsimp only at T a d F;have F2:=F.2 (by decide);by_cases k:bf (bS ((m.mem).getD ((48:Int)).toNat default))
  .have t:=T.1 k;have E:=F2.2 k;simp (disch:=omega) only [RR,c.1,c.2,j,Bool.and_self,n,t,l,a _ k,d _ k,E,f,fQ];exact⟨ah,ah,ah,ah⟩
  .have t:=T.2 k;have E:=F2.1 k;simp (disch:=omega) only [RR,c.1,c.2,j,Bool.and_self,n,t,l,E,f,fQ];exact⟨ah,ah,ah,ah⟩
 .have e:smp m b={m with waits:=m.waits || b}:=by unfold smp;rw [if_neg c]
  have o:((m.waits || b)&&m.aO)=false:=by
   cases g:((m.waits || b)&&m.aO)with
   | false=>rfl
   | true=>rw [Bool.and_eq_true]at g;exact absurd g c
  rw [e]at T a d F x;dsimp only at T a d F x;by_cases p:64<=m.pc
  .have E:=F.1 p;simp (disch:=omega) only [RR,o,p,E,f,fQ]
  have F2:=F.2 p;by_cases k:bf (bS ((m.mem).getD (m.pc).toNat default))
  .have t:=T.1 k;have E:=F2.2 k;simp (disch:=omega) only [RR,o,p,n,t,l,a _ k,d _ k,E,f,fQ];exact⟨ah,ah,ah,ah⟩
  .have t:=T.2 k;have E:=F2.1 k;simp (disch:=omega) only [RR,o,p,n,t,l,E,f,fQ];exact⟨ah,ah,ah,ah⟩
def RTK(K:List Cac)(C:List Cer)(b:Blk)(a:aC)(y:yc):Prop:=
 ∃(i:Nat) (S:MS),i<=b.ops.length/\RJ b a i S/\y=(b.ops,(b.ops.length:Int),(i:Int),S.m.pc,S.m.save,S.m.aO,S.m.waits,S.m.halt,S.m.ins,S.m.count,K,C,S.m.regs,S.m.mem,b,S.vals++replicate (b.ops.length-i) 0,S.m.outs,())
def RTK.next{b:Blk}{a:aC}{i:Nat}{S:MS}{o:IOp}{y:yc}(h:RJ b a i S)(c:i<b.ops.length)(g:b.ops.getD i default=o)(d:o.kind=1->0<=o.k/\o.k<=65535)
  (j:¬((o.kind=4\/o.kind=5)/\64<=vx S o)) (f:¬(o.kind=5/\b.pc+o.at_+1<=vx S o/\vx S o<=b.pc+b.len-1))
  (e:y=(b.ops,(b.ops.length:Int),(i:Int)+1,(mM S o).pc,(mM S o).save,(mM S o).aO,(mM S o).waits,(mM S o).halt,(mM S o).ins,(mM S o).count,K,C,(mM S o).regs,(mM S o).mem,b,(S.vals++ [mV S o])++replicate (b.ops.length- (i+1)) 0,(mM S o).outs,())):
  RTK K C b a y/\(b.ops.length-y.2.2.1).toNat< (b.ops.length- (i:Int)).toNat:=by
 subst e;exact⟨⟨i+1,_,c,h.next c g d j f,rfl⟩,by dsimp only;omega⟩
set_option maxHeartbeats 2000000 in
theorem ao8{p1 f1 p2 f2 p3 f3 p4 f4}(U1:ao5 p1 f1)(U2:Y24 p2 f2)(U3:Y59 p3 f3)(U4:Y1 p4 f4)(b:Blk)(m:aC)(K:List Cac)(C:List Cer)(G:dK b)(hm:MOK m)(hs:MSh m)(ho:m.outs.length<900000000):aaX.F (p1,f1,p2,f2,p3,f3,p4,f4,()) (b,m.pc,m.save,m.aO,m.waits,m.halt,m.ins,m.count,K,C,m.regs,m.mem,m.outs,()) (λy=>y=mK K C (oV b (b.ops.foldl (aJ b) ⟨m,[],false⟩))):=by
 have sz:=G.sz;dsimp only [aaX,gm];simp (disch:=omega) only [RR,RB];refine⟨ah,ah,ay (RTK K C b m) (λy=>(b.ops.length-y.2.2.1).toNat) ⟨0,⟨m,[],false⟩,Nat.zero_le _,⟨rfl,rfl,rfl,(by intro n hn;cases hn),hm,hs.2.2.1,Nat.le_add_right _ _⟩,rfl⟩ ?_⟩;rintro y ⟨i,S,hi,R,rfl⟩;dsimp only;have ok:=R.ok;have pw:0<=S.m.pc/\S.m.pc<=65535:=ok.pc;have cw:=ok.ct;have bl:=G.ln;have a2:=G.pc;have P:=G.en;by_cases M:i<b.ops.length
 case neg=>
  have ei:i=b.ops.length:=by omega
  have eS:b.ops.foldl (aJ b) ⟨m,[],false⟩=S:=by rw [R.e,ei];unfold SM;rw [take_of_length_le (Nat.le_refl _)]
  have vl:(S.vals++replicate (b.ops.length-i) 0)=S.vals:=by rw [ei,Nat.sub_self];simp
  have L:=R.ln;rw [eS];unfold oV;rw [R.lf,if_neg (by decide)];rw [vl];have hf:=P.f;have E:=P.x1;have y1:=P.y1;unfold Vl at E y1;have hh:¬((i:Int)<b.ops.length):=by omega
  rcases(by omega:b.fin=1\/b.fin=2\/b.fin=3\/b.fin=4)with f | f | f | f
  all_goals simp (disch:=omega) only [RR,RB,f,Int.reduceEq,Int.reduceSub,Int.reduceAdd,U3,false_and,hh]
  .have v:=E ah;exact⟨v.1,ah,v.1,ah⟩
  .have v:=E ah;have w:=y1 ah;refine⟨v.1,ah,v.1,ah,w.1,ah,w.1,ah,λh=> ?_,λh=> ?_⟩
   .rw [if_pos (by rw [Sb,h.1.1,h.1.2,h.2];simp)]
   .rw [if_neg (by rw [Sb,h];decide)]
  .have v:=E ah;have w:=y1 ah;refine⟨v.1,ah,v.1,ah,w.1,ah,w.1,ah,λh=> ?_,λh=> ?_⟩
   .rw [if_pos (by rw [Sc,h.1.1,h.1.2];simpa using h.2)]
   .rw [if_neg (by rw [Sc,h];decide)]
 have d:=G.op i ah ah;have eT:((i:Int)).toNat=i:=rfl;generalize t:((b.ops).getD ((i:Int)).toNat default)=o at*;rw [eT]at t;have kd:=d.kd;have E:=d.x1;have y1:=d.y1;unfold Vl at E y1;have k1:=d.k1;have N:=d.k2;have k3:=d.k3;have Z:=d.a1;have a0:=d.a0;have L:=R.ln;have D:=akk (n:=b.ops.length) L hi;have z:=λ{y} c1 c2 e=>RTK.next (K:=K) (C:=C) (y:=y) R M t k1 c1 c2 e
 have F:∀v:Int,(S.vals++replicate (b.ops.length-i) 0).set i v=(S.vals++ [v])++replicate (b.ops.length- (i+1)) 0:=λv=>akj L M v
 have O:(S.vals++replicate (b.ops.length-i) 0)=(S.vals++ [0])++replicate (b.ops.length- (i+1)) 0:=afg M;have va:∀x:Int,0<=x->x<i->((S.vals++replicate (b.ops.length-i) 0).getD (x).toNat default)=((S.vals).getD (x).toNat default):=λx a c=>aou L a c
 have xb:0< (i:Int)->0<=o.x/\o.x<b.ops.length:=λ_=>by
  by_cases h:hX o
  .have:=E h;omega
  .have:=d.x0 h;omega
 have yb:0< (i:Int)->0<=o.y/\o.y<b.ops.length:=λ_=>by
  by_cases h:hY o
  .have:=y1 h;omega
  .have:=d.y0 h;omega
 have lv:∀Q:aC,aJ b S o=⟨Q,S.vals,true⟩->b.ops.foldl (aJ b) ⟨m,[],false⟩=⟨Q,S.vals,true⟩:=λQ h=>aff (i:=i+1) (by rw [UF M,<-R.e,t];exact h)
 have I:=ok.m64;have T:=ok.r4;have lo:=R.lo;have W:=R.li;have A:(0:Int)<=i:=by omega
 have B:(i:Int)<b.ops.length:=by omega
 generalize hV:S.vals++replicate (b.ops.length-i) 0=V at*;by_cases u:0< (i:Int)
 case neg=>
  have nX:¬hX o:=λh=>by have:=E h;omega
  rcases(by omega:o.kind=1\/o.kind=2\/o.kind=6)with k | k | k
  .simp (disch:=omega) only [RR,RB,t,eT,u,k,Int.reduceEq,false_and,decide_false,decide_true,Bool.or_false,Bool.false_or,Bool.false_and,Bool.true_and,Bool.true_or,Bool.or_true,or_self,D,A,B];exact z (λh=>by omega) (λh=>by omega) (by rw [F];simp [mM,mV,k])
  .have g:=N (Or.inl k);simp (disch:=omega) only [RR,RB,t,eT,u,k,Int.reduceEq,false_and,decide_false,decide_true,Bool.or_false,Bool.false_or,Bool.false_and,Bool.true_and,Bool.true_or,Bool.or_true,or_self,D,A,B,T];exact⟨g.1,ah,g.1,ah,z (λh=>by omega) (λh=>by omega) (by rw [F];simp [mM,mV,k])⟩
  .simp (disch:=omega) only [RR,RB,t,eT,u,k,Int.reduceEq,false_and,decide_false,decide_true,Bool.or_false,Bool.false_or,Bool.false_and,Bool.true_and,Bool.true_or,Bool.or_true,or_self,D,A,B,U1 _ _ _ _ _ _ _ _ _ _ _ _ W];exact z (λh=>by omega) (λh=>by omega) (by rw [F];simp [mM,mV,k])
 obtain⟨p,j⟩:=xb u;obtain⟨q,r⟩:=yb u;have H:hX o->((V).getD (o.x).toNat default)=vx S o:=λh=>by
  have:=E h;unfold vx;rw [if_pos h];exact va o.x this.1 this.2.1
 have ey:hY o->((V).getD (o.y).toNat default)=vy S o:=λh=>by
  have:=y1 h;unfold vy;rw [if_pos h];exact va o.y this.1 this.2.1
 have U:=abG R.wv o;have wy:=agL R.wv o;generalize s:((V).getD (o.x).toNat default)=X at*;generalize l:((V).getD (o.y).toNat default)=Y at*;rcases(by omega:o.kind=1\/o.kind=2\/o.kind=3\/o.kind=4\/o.kind=5\/o.kind=6\/o.kind=7\/o.kind=8)with k | k | k | k | k | k | k | k
 .simp (disch:=omega) only [RR,RB,t,eT,u,k,Int.reduceEq,false_and,decide_false,decide_true,Bool.or_false,Bool.false_or,Bool.false_and,Bool.true_and,Bool.true_or,Bool.or_true,or_self,D,A,B,p,j,q,r,s,l];exact z (λh=>by omega) (λh=>by omega) (by rw [F];simp [mM,mV,k])
 .have g:=N (Or.inl k);simp (disch:=omega) only [RR,RB,t,eT,u,k,Int.reduceEq,false_and,decide_false,decide_true,Bool.or_false,Bool.false_or,Bool.false_and,Bool.true_and,Bool.true_or,Bool.or_true,or_self,D,A,B,p,j,q,r,s,l,T];exact⟨g.1,ah,g.1,ah,z (λh=>by omega) (λh=>by omega) (by rw [F];simp [mM,mV,k])⟩
 .have e1:=H (by unfold hX;omega);have J:=ey (Or.inl k);simp (disch:=omega) only [RR,RB,t,eT,u,k,Int.reduceEq,false_and,decide_false,decide_true,Bool.or_false,Bool.false_or,Bool.false_and,Bool.true_and,Bool.true_or,Bool.or_true,or_self,D,A,B,p,j,q,r,s,l,U2];exact z (λh=>by omega) (λh=>by omega) (by rw [F];simp [mM,mV,k,e1,J])
 .have e1:=H (by unfold hX;omega);have g:=Z (by unfold evO;omega);unfold Wo at U;simp (disch:=omega) only [RR,RB,t,eT,u,k,Int.reduceEq,false_and,decide_false,decide_true,Bool.or_false,Bool.false_or,Bool.false_and,Bool.true_and,Bool.true_or,Bool.or_true,or_self,D,A,B,p,j,q,r,s,l,I];refine⟨λh=> ?_,λh=> ?_⟩
  .rw [lv (leave S.m o.at_ 3) (by unfold aJ;rw [if_neg (by rw [R.lf];decide),if_pos ⟨Or.inl k,ah⟩])];simp [oV,leave,mK]
  .exact⟨ah,ah,ah,ah,z (λh=>by omega) (λh=>by omega) (by rw [F];simp [mM,mV,k,e1])⟩
 .have e1:=H (by unfold hX;omega);have J:=ey (Or.inr k);have g:=Z (by unfold evO;omega);unfold Wo at U;simp (disch:=omega) only [RR,RB,t,eT,u,k,Int.reduceEq,false_and,decide_false,decide_true,Bool.or_false,Bool.false_or,Bool.false_and,Bool.true_and,Bool.true_or,Bool.or_true,or_self,D,A,B,p,j,q,r,s,l,I,U4,dU,oP];refine⟨λh=> ?_,λh=>⟨ah,ah,ah,ah,λh2=> ?_,λh2=> ?_⟩⟩
  .rw [lv (leave S.m o.at_ 3) (by unfold aJ;rw [if_neg (by rw [R.lf];decide),if_pos ⟨Or.inr k,ah⟩])];simp [oV,leave,mK]
  .rw [lv (leave (mM S o) (o.at_+1) (mM S o).halt) (by unfold aJ;rw [if_neg (by rw [R.lf];decide),if_neg ah,if_pos ⟨k,ah⟩])];simp [oV,leave,mM,mK,k,e1,J]
  .exact z (λh=>by omega) (λh=>by omega) (by rw [O];simp [mM,mV,k,e1,J])
 .simp (disch:=omega) only [RR,RB,t,eT,u,k,Int.reduceEq,false_and,decide_false,decide_true,Bool.or_false,Bool.false_or,Bool.false_and,Bool.true_and,Bool.true_or,Bool.or_true,or_self,D,A,B,p,j,q,r,s,l,U1 _ _ _ _ _ _ _ _ _ _ _ _ W];exact z (λh=>by omega) (λh=>by omega) (by rw [F];simp [mM,mV,k])
 .have e1:=H (by unfold hX;omega);simp (disch:=omega) only [RR,RB,t,eT,u,k,Int.reduceEq,false_and,decide_false,decide_true,Bool.or_false,Bool.false_or,Bool.false_and,Bool.true_and,Bool.true_or,Bool.or_true,or_self,D,A,B,p,j,q,r,s,l,length_cons,length_nil];exact⟨ah,z (λh=>by omega) (λh=>by omega) (by rw [O];simp [mM,mV,k,e1])⟩
 .have e1:=H (by unfold hX;omega);have g:=N (Or.inr k);simp (disch:=omega) only [RR,RB,t,eT,u,k,Int.reduceEq,false_and,decide_false,decide_true,Bool.or_false,Bool.false_or,Bool.false_and,Bool.true_and,Bool.true_or,Bool.or_true,or_self,D,A,B,p,j,q,r,s,l,T];exact⟨g.1,ah,g.1,ah,z (λh=>by omega) (λh=>by omega) (by rw [O];simp [mM,mV,k,e1])⟩
end Go.TX.F
namespace Go.TX.F
open Go Go.AE Go.TX List
structure EgZ(e:Eng):Prop where
 m:MSh e.aj
 o:e.aj.outs.length<600000000
 k:ShK e.cache
 c:ShC e.bC
def AsK(l:List Ask):Prop:=l.length<1000000000/\∀a∈l,By a.bytes/\a.bytes.length<1000000000
def EgS.z{e:Eng}{n:Nat}(h:EgS e n)(hn:n<600000000):EgZ e:=⟨h.m,Nat.lt_of_le_of_lt h.o hn,h.k,h.c⟩
def ao9{e:Eng}(ok:iO e)(z:EgZ e){n:Nat}(h:e.aj.outs.length<=n):EgS e n:=by
 have K:=Vi ok;have w:∀x∈e.cache,0<x.words.length:=λx a=>by
  have r:=K.r x a;have l:=r.2.1.ln;rw [<-r.1];omega
 exact⟨z.m,h,z.k,z.c,K.n,ok.2.2.1,w,by rw [<-afv ok];exact Sq w⟩
def Sv{m:aC}(h:MOK m)(c:m.halt=0)(a:m.count<1000000)(b:Bool):stS m b=stepM m b:=by
 unfold stS;rw [aR h,if_pos rfl,if_neg ah]
abbrev mC(K:List Cac)(C:List Cer)(m:aC):mG:=(m.pc,m.save,m.aO,m.waits,m.halt,m.ins,m.count,C,m.regs,m.mem,m.outs,K,())
def GoD(x:Eng×Bool)(y:Bool×ak):Prop:=
 ∃(m:aC) (K:List Cac) (C:List Cer) (b:Bool),y=(b,mK K C m)/\x=(⟨m,K.filter (dQ m.mem),C⟩,b)/\ShK K/\m.mem.length<1000000000
def apa{p1 f1 p2 f2 p3 f3}(n:WK p1 f1)(l:alg p2 f2)(k:aog p3 f3)(e:Eng)(h:EgZ e):aax.F (p1,f1,p2,f2,p3,f3,()) (e,()) (λy=>y=mK e.cache e.bC e.aj):=by
 have a:=λz1 z2=>(n z1 z2).1
 have g:=λz1 z2=>(n z1 z2).2
 have d:=λz1 z2=>(l z1 z2).1
 have f:=λz1 z2=>(l z1 z2).2
 have c:=λz1 z2=>(k z1 z2).1
 have b:=λz1 z2=>(k z1 z2).2
 have mM:=MKM;obtain⟨j,_,i,m⟩:=h;dsimp only [aax,gm,vG]at*;simp (disch:=omega) only [RR,EGB,mM,a _ j,g _ j,d _ i,f _ i,c _ m,b _ m]
theorem apb{p1 f1 p2 f2}(d:aqt p1 f1)(j:aqj p2 f2)(a:Ask)(b:Blk)(h:b.ops.length<1000000)(e:By a.bytes)(f:a.bytes.length<1000000000):aaR.F (p1,f1,p2,f2,()) (a,b,()) (λy=>y=((mdF b a).1,(mdF b a).2,())):=by
 have mE:∀c:Blk,Co.mk .blk (c.pc,c.len,c.ops,c.fin,c.x,c.y,c.k,())=c:=λ_=>rfl
 have k:∀a:Ask,JG .ask 0 a=a.own/\iW .ask 1 .u8 a=a.bytes:=λ_=>⟨rfl,rfl⟩
 have i:=(d a.bytes e f).2;dsimp only [aaR,gm,vF];simp (disch:=omega) only [RR,k,mE,(d _ e f).1,j _ h];unfold mdF;refine⟨λg=>by rw [g];rfl,λg=> ?_⟩;rw [g,if_neg (by decide),i];unfold rdF;split<;>rfl
def apc{p1 f1 p2 f2}(e:WK p1 f1)(f:KA p2 f2)(m:aC)(h:MSh m):aa2.F (p1,f1,p2,f2,()) (m,()) (λy=>y=(newE m,())):=by
 have b:=λz1 z2=>(e z1 z2).1
 have c:=λz1 z2=>(e z1 z2).2
 have d:=λz1 z2=>(f z1 z2).1
 have a:=λz1 z2=>(f z1 z2).2
 have i:=EGM;dsimp only [aa2,gm,vG]at*;simp (disch:=omega) only [RR,i,b _ h,c _ h,d _ h,a _ h];unfold newE;exact⟨λg=>by rw [g];rfl,λg=>by rw [g];rfl⟩
def apd{p1 f1}(a:Y1 p1 f1)(n:Int)(b:Blk)(m:aC)(K:List Cac)(C:List Cer)(hm:0<=m.count/\m.count<=1000000)(c:0<=b.len/\b.len<=1000):ZP.F (p1,f1,()) (n,b,m.pc,m.save,m.aO,m.waits,m.halt,m.ins,m.count,K,C,m.regs,m.mem,m.outs,()) (λy=>y=(inB n (m.count+1) (m.count+b.len-1),b,mK K C m)):=by
 dsimp only [ZP,gm];simp (disch:=omega) only [RR,RB,a]
def aln{j:Int×arj->Bool}{f:Int×arj->Bool×arj}(p:∀(n:Int) (b:Blk) (m:aC) (K:List Cac) (C:List Cer),(0<=m.count/\m.count<=1000000)->(0<=b.len/\b.len<=1000)->j (n,b,m.pc,m.save,m.aO,m.waits,m.halt,m.ins,m.count,K,C,m.regs,m.mem,m.outs,())=true/\f (n,b,m.pc,m.save,m.aO,m.waits,m.halt,m.ins,m.count,K,C,m.regs,m.mem,m.outs,())=(inB n (m.count+1) (m.count+b.len-1),b,mK K C m))(q:List Int)(b:Blk)(m:aC)(K:List Cac)(C:List Cer)(u:q.length<1000000000)(hm:0<=m.count/\m.count<=1000000)(k:0<=b.len/\b.len<=1000):Qy.F (j,f,()) (q,b,m.pc,m.save,m.aO,m.waits,m.halt,m.ins,m.count,K,C,m.regs,m.mem,m.outs,()) (λy=>y.2=(b,mK K C m)/\(0<=y.1↔∃n∈q,m.count+1<=n/\n<=m.count+b.len-1)):=by
 dsimp only [Qy,gm];refine ay (λ(y:List Int×Int×Int×arj)=>y.1=q/\y.2.1=q.length/\0<=y.2.2.1/\y.2.2.1<=q.length/\y.2.2.2=(b,mK K C m)/\∀n∈q.take y.2.2.1.toNat,¬(m.count+1<=n/\n<=m.count+b.len-1)) (λy=>(q.length-y.2.2.1).toNat) ⟨rfl,rfl,by simp,by simp,rfl,by simp⟩ ?_;rintro⟨(s:List Int),(l:Int),(i:Int),z⟩ hI;dsimp only at hI ⊢;obtain⟨rfl,rfl,a,t,rfl,c⟩:=hI;simp (disch:=omega) only [RR,p _ b m K C hm k,dU,oP];refine⟨λg=>⟨a,g,λe=>⟨λ_=>⟨_,mem_of_getElem? (i:=i.toNat) (by rw [getElem?_eq_getElem ah,getD_lt ah]),e⟩,λ_=>a⟩,λe=>⟨⟨ah,ah,λn hn=> ?_⟩,ah⟩⟩,λg=> ?_⟩
 .have ts:=dO (d:=default) a g (l:=s) rfl;rw [<-ts,mem_append,mem_singleton]at hn;rcases hn with hn | rfl
  .exact c n hn
  .omega
 .rw [take_of_length_le ah]at c;exact⟨λh=>absurd h (by decide),λ⟨n,r,o⟩=>absurd o (c n r)⟩
def alo{c:List Int×arj->Bool}{a:List Int×arj->Int×arj}(e:∀(q:List Int) (b:Blk) (m:aC) (K:List Cac) (C:List Cer),q.length<1000000000->(0<=m.count/\m.count<=1000000)->(0<=b.len/\b.len<=1000)->c (q,b,m.pc,m.save,m.aO,m.waits,m.halt,m.ins,m.count,K,C,m.regs,m.mem,m.outs,())=true/\((a (q,b,m.pc,m.save,m.aO,m.waits,m.halt,m.ins,m.count,K,C,m.regs,m.mem,m.outs,())).2=(b,mK K C m)/\(0<=(a (q,b,m.pc,m.save,m.aO,m.waits,m.halt,m.ins,m.count,K,C,m.regs,m.mem,m.outs,())).1↔∃n∈q,m.count+1<=n/\n<=m.count+b.len-1)))(q:List Int)(b:Blk)(m:aC)(K:List Cac)(C:List Cer)(d:q.length<1000000000)(hm:0<=m.count/\m.count<=1000000)(h:0<=b.len/\b.len<=1000):QA.F (c,a,()) (q,b,m.pc,m.save,m.aO,m.waits,m.halt,m.ins,m.count,K,C,m.regs,m.mem,m.outs,()) (λy=>y=(bp (∃n∈q,m.count+1<=n/\n<=m.count+b.len-1),b,mK K C m)):=by
 obtain⟨P,⟨f,g⟩⟩:=e q b m K C d hm h;dsimp only [QA,gm];simp (disch:=omega) only [RR,P];rw [f,mD,iF g]
variable{q:List Int}
theorem ape{p1 f1 p2 f2 p3 f3 p4 f4 p5 f5 p6 f6}{S:Ask×kr->Bool}{U:Ask×kr->Blk×fA}(U1:aoB p1 f1)(Z:aoC p2 f2)(X:aqR p3 f3)(U4:aqk p4 f4)(V:aqn p5 f5)(W:Y96 p6 f6)(R:∀a b,b.ops.length<1000000->By a.bytes->a.bytes.length<1000000000->S (a,b,())=true/\U (a,b,())=((mdF b a).1,(mdF b a).2,()))(l:List Ins)(a:Ask)(m:aC)(K:List Cac)(C:List Cer)(Y:nK m.pc l)(hC:rJ C)(hK:ShK K)(hc:ShC C)(ha:By a.bytes)(hn:a.bytes.length<1000000000):aaW.F (p1,f1,p2,f2,p3,f3,p4,f4,p5,f5,p6,f6,S,U,()) (l,a,m.pc,m.save,m.aO,m.waits,m.halt,m.ins,m.count,K,C,m.regs,m.mem,m.outs,()) (λy=>y=mC (lu K ⟨l.map fF,(iX C (lower m.pc l) a).1⟩) (iX C (lower m.pc l) a).2 m):=by
 have s:=λz1 z2 z3=>(U1 z1 z2 z3).1
 have O:=λz1 z2 z3=>(U1 z1 z2 z3).2
 have H:=λz1 z2=>(Z z1 z2).1
 have N:=λz1 z2=>(Z z1 z2).2
 have F:=λz1 z2 z3 z4 d J=>(X z1 z2 z3 z4 d J).1
 have u:=λz1 z2 z3 z4 d J=>(X z1 z2 z3 z4 d J).2
 have M:=λz1 z2 z3 z4=>(U4 z1 z2 z3 z4).1
 have I:=λz1 z2 z3 z4=>(U4 z1 z2 z3 z4).2
 have x:=λz1 z2 z3 z4 d=>(V z1 z2 z3 z4 d).1
 have G:=λz1 z2 z3 z4 d=>(V z1 z2 z3 z4 d).2
 have v:=λz1 z2 z3 z4=>(W z1 z2 z3 z4).1
 have t:=λz1 z2 z3 z4=>(W z1 z2 z3 z4).2
 have L:=λz1 z2 z3 z4 d=>(R z1 z2 z3 z4 d).1
 have B:=λz1 z2 z3 z4 d=>(R z1 z2 z3 z4 d).2
 have mE:∀c:Blk,Co.mk .blk (c.pc,c.len,c.ops,c.fin,c.x,c.y,c.k,())=c:=λ_=>rfl
 have i:∀b c:Blk,Co.mk .cer (b.pc,b.len,b.ops,b.fin,b.x,b.y,b.k,c.pc,c.len,c.ops,c.fin,c.x,c.y,c.k,())=⟨b,c⟩:=λ_ _=>rfl
 have r:∀(w:List Int) (b:Blk),Co.mk .cac (w,b.pc,b.len,b.ops,b.fin,b.x,b.y,b.k,())=⟨w,b⟩:=λ_ _=>rfl
 have ln:=Y.ln;have ir:=oW Y;have sz:=ir.sz;have A:=Va (a:=a) hc (show(lower m.pc l).ops.length<1000000 by omega) hn;have Q:=Vb (a:=a) (b:=lower m.pc l) hC;have pc:(iX C (lower m.pc l) a).1.pc<=1000000:=by
  have z:=ir.pc;have zl:=ir.ln;rcases Q with q | q
  .rw [q];omega
  .rw [<-(FX q).2.2.1];omega
 have j:=s m.pc l ah;have n:=O m.pc l ah;have k:=H l ah;have p:=N l ah;generalize lower m.pc l=b at*;have T:=abZ (a:=a) (b:=b) ah hn;have o:=L a b ah ha hn;have h:=B a b ah ha hn;have f:=F K ⟨l.map fF,(iX C b a).1⟩ hK (by rw [length_map];omega) A.1 pc;have e:=u K ⟨l.map fF,(iX C b a).1⟩ hK (by rw [length_map];omega) A.1 pc;have D:=M C b (mdF b a).1 hc;have E:=I C b (mdF b a).1 hc;have P6:=v b (mdF b a).1 ah ah;have P:=t b (mdF b a).1 ah ah;have P5:=x C ⟨b,(mdF b a).1⟩ hc (show b.ops.length<1000000 by omega) T;have H5:=G C ⟨b,(mdF b a).1⟩ hc (show b.ops.length<1000000 by omega) T;dsimp only [aaW,gm,vF,map_cons,map_nil]at*;unfold iX at f e ⊢;by_cases hm:(mdF b a).2=false
 .rw [if_pos hm]at f e ⊢;simp (disch:=omega) only [RR,RB,Bool.false_and,Bool.true_and,Bool.and_true,Bool.or_true,Bool.true_or,Bool.or_false,Bool.false_or,Bool.not_true,Bool.not_false,and_self,mE,i,r,j,n,o,h,hm,k,p,f,e]
 rw [if_neg hm]at f e ⊢;rw [Bool.not_eq_false]at hm;by_cases g:bp (Ku C b (mdF b a).1)=true
 .rw [if_pos g]at f e ⊢;simp (disch:=omega) only [RR,RB,Bool.false_and,Bool.true_and,Bool.and_true,Bool.or_true,Bool.true_or,Bool.or_false,Bool.false_or,Bool.not_true,Bool.not_false,and_self,mE,i,r,j,n,o,h,hm,D,E,g,k,p,f,e]
 rw [if_neg g]at f e ⊢;rw [Bool.not_eq_true]at g;by_cases hk:chk b (mdF b a).1=true
 .rw [if_pos hk]at f e ⊢;simp (disch:=omega) only [RR,RB,Bool.false_and,Bool.true_and,Bool.and_true,Bool.or_true,Bool.true_or,Bool.or_false,Bool.false_or,Bool.not_true,Bool.not_false,and_self,mE,i,r,j,n,o,h,hm,D,E,g,P6,P,hk,P5,H5,k,p,f,e]
 .rw [if_neg hk]at f e ⊢;rw [Bool.not_eq_true]at hk;simp (disch:=omega) only [RR,RB,Bool.false_and,Bool.true_and,Bool.and_true,Bool.or_true,Bool.true_or,Bool.or_false,Bool.false_or,Bool.not_true,Bool.not_false,and_self,mE,i,r,j,n,o,h,hm,D,E,g,P6,P,hk,k,p,f,e]
theorem aqU{p1 f1 p2 f2 p3 f3}(t:akm p1 f1)(s:abP p2 f2)(r:KA p3 f3)(m:aC)(h:MSh m):aiI.F (p1,f1,p2,f2,p3,f3,()) (m,()) (λy=>y=(findF m,())):=by
 have f:=λz1=>(t z1).1
 have b:=λz1=>(t z1).2
 have l:=λz1=>(s z1).1
 have p:=λz1=>(s z1).2
 have k:=λz1 z2=>(r z1 z2).1
 have j:=λz1 z2=>(r z1 z2).2
 replace b:∀i:Int,f1 (i,())=(bp (11<=i/\i<=13),()):=λi=>by rw [b i,Prod.ext_iff];exact⟨by rw [Bool.eq_iff_iff,dU,aX],rfl⟩
 have D:∀x y z u:Int,Co.mk .ins (x,y,z,u,())=⟨x,y,z,u⟩:=λ_ _ _ _=>rfl
 dsimp only [aiI,gm,vG];simp (disch:=omega) only [RR,MRB,k _ h,j _ h];refine⟨λg=>by unfold findF;rw [g];rfl,λg=> ?_⟩;have ok:=aX.1 g;have B:0<=m.pc/\m.pc<=65535:=ok.pc;have w:=ok.m64;have v:findF m=dS m.mem 8 m.pc:=by unfold findF;rw [g,if_pos rfl]
 rw [v];generalize C:dS m.mem 8 m.pc=G;refine ay (λ(y:Int×aC×ny)=>0<=y.1/\y.1<=70000/\y.2.1=m/\y.2.2.1.length<=8/\y.2.2.1++dS m.mem (8-y.2.2.1.length) y.1=G) (λy=>(8- (y.2.2.1.length:Int)).toNat) ⟨B.1,by dsimp only;omega,rfl,by simp,by simpa using C⟩ ?_;rintro⟨(i:Int),(m:aC),(o:List Ins),⟨⟩⟩ hI;dsimp only at hI ⊢;obtain⟨H,E,rfl,F,a⟩:=hI;simp (disch:=omega) only [RR,f,b,l,p,MRB,w,length_cons,length_nil,length_append,D];refine⟨λc=> ?_,λc=> ?_⟩
 .obtain⟨n,hn⟩:∃n,8-o.length=n+1:=⟨8-o.length-1,ah⟩;rw [hn]at a;unfold dS at a;by_cases z:Wo ((m.mem).getD (i).toNat default)/\bf (bS ((m.mem).getD (i).toNat default))
  .rw [aoS z];generalize hd:bS ((m.mem).getD (i).toNat default)=d at*;have A:(⟨d.op,d.d,d.a,d.k⟩:Ins)=d:=rfl;dsimp only;rw [A];refine⟨ah,ah,λe=> ?_,λe=>⟨ah,λq=> ?_,λq=>⟨⟨ah,ah,ah,?_⟩,ah⟩⟩⟩
   .rw [if_neg (by rw [bJ (λy=>y.2.2 (by simpa using e))];decide)]at a;rw [<-a,append_nil]
   .rw [if_pos (aR ⟨ah,z,by simpa using e⟩),if_pos q]at a;rw [<-a]
   .rw [if_pos (aR ⟨ah,z,by simpa using e⟩),if_neg (by rw [q];decide)]at a;rw [show 8- (o.length+1)=n by omega,<-a,append_assoc];rfl
  .have tf:(tkI ((m.mem).getD (i).toNat default)).2.2.2.2.1=false:=by unfold tkI;rw [if_neg (by rw [bJ z];decide)]
   rw [if_neg (by rw [bJ (λy=>z y.2.1)];decide),append_nil]at a;rw [tf];refine⟨ah,ah,λ_=>by rw [<-a],λe=>by simp at e⟩
 .rw [<-a];by_cases z:o.length<8
  .obtain⟨n,hn⟩:∃n,8-o.length=n+1:=⟨8-o.length-1,ah⟩;rw [hn];unfold dS;have c:=Bool.and_eq_false_iff.1 c;rw [decide_eq_false_iff_not,decide_eq_false_iff_not]at c;rw [if_neg (by rw [bJ (λy=>by have:=y.1;omega)];decide),append_nil]
  .rw [show 8-o.length=0 by omega];unfold dS;rw [append_nil]
def afx{m:aC}{l s:Int}(h:yC m q l s=false):s<=l->m.count<=1000000-s->∃n∈q,m.count+1<=n/\n<=m.count+s-1:=λb a=>by
 refine Classical.byContradiction λg=>lS.1 h ⟨b,a,λk c d hk=>g ⟨_,hk,ah,ah⟩⟩
def KL{m:aC}{l s:Int}(h:yC m q l s=true):s<=l/\m.count<=1000000-s/\¬∃n∈q,m.count+1<=n/\n<=m.count+s-1:=by
 obtain⟨b,a,c⟩:=aX.1 h;exact⟨b,a,λ⟨n,d,e,f⟩=>c (n-m.count) ah ah (by rwa [show m.count+(n-m.count)=n by omega])⟩
end Go.TX.F
namespace Go.TX.F
open Go Go.AE Go.TX List
variable{e:Eng}{q:List Int}{b:Blk}
def agO{l:Int}{a:Ask}(ok:iO e)(c:e.aj.halt=0)(b:e.aj.count<1000000)(h:(e.aj.waits=true\/e.aj.count∈q)/\e.aj.aO=true\/gM e a=(e, -1,false)):
  goE e q l a=(⟨stepM e.aj (bp (e.aj.count∈q)),e.cache.filter (dQ (stepM e.aj (bp (e.aj.count∈q))).mem),e.bC⟩,false):=by
 have p:jg e q=⟨stepM e.aj (bp (e.aj.count∈q)),e.cache.filter (dQ (stepM e.aj (bp (e.aj.count∈q))).mem),e.bC⟩:=by unfold jg;rw [Sv ok.1 c b]
 unfold goE;split
 .rw [p]
 .rename_i w;rw [h.resolve_left w,if_pos (show((-1:Int))<0 by decide),p]
def alp{l:Int}{a:Ask}{K:List Cac}{C:List Cer}{k:Int}{b:Bool}(ok:iO e)(d:e.aj.halt=0)(g:e.aj.count<1000000)(w:¬((e.aj.waits=true\/e.aj.count∈q)/\e.aj.aO=true))(f:gM e a=(⟨e.aj,K,C⟩,k,b))(i:0<=k){B:Blk}(h:(((K).getD (k).toNat default)).blk=B)(ir:dK B)(j:B.pc=e.aj.pc){M:aC}(c:M={e.aj with waits:=e.aj.waits || bp (e.aj.count∈q)}):
  (yC e.aj q l B.len=false->goE e q l a=(⟨stepM e.aj (bp (e.aj.count∈q)),K.filter (dQ (stepM e.aj (bp (e.aj.count∈q))).mem),C⟩,b))/\
  (yC e.aj q l B.len=true->goE e q l a=(⟨oV B (B.ops.foldl (aJ B) ⟨M,[],false⟩),K.filter (dQ (oV B (B.ops.foldl (aJ B) ⟨M,[],false⟩)).mem),C⟩,b)):=by
 unfold goE;rw [if_neg w,f,if_neg (show¬k<0 by omega)];dsimp only;rw [h];refine⟨λr=> ?_,λr=> ?_⟩
 .rw [if_pos r];unfold jg;dsimp only;rw [Sv ok.1 d g]
 .rw [if_neg (by rw [r];decide),<-c,Ni ir (by rw [c];exact {ok.1 with}) (by rw [c];have:=(KL r).2.1;dsimp only;omega)]
structure afy(b:Blk)(c:Int)(s:MS):Prop where
 ok:MOK s.m
 wv:Wos s.vals
 d:(s.left=false/\s.m.count=c/\s.m.halt=0/\s.m.pc=b.pc)\/(s.left=true/\((s.m.halt=0/\c<s.m.count/\s.m.count<=c+b.len)\/(s.m.halt=3/\c<=s.m.count/\s.m.count<c+b.len)))
def afz{c:Int}{s:MS}{o:IOp}(f:dK b)(hc:0<=c/\c+b.len<=1000000)(i:evO o->0<=o.at_/\o.at_<b.len)(j:o.kind=1->0<=o.k/\o.k<=65535)(h:afy b c s):afy b c (aJ b s o):=by
 obtain⟨ok,e,d⟩:=h;have k:=f.pc;have p:=f.ln;unfold aJ;split
 .exact⟨ok,e,d⟩
 rename_i l;obtain⟨t,m,n,v⟩:=d.resolve_right λz=>l z.1
 split
 .rename_i g;have a:=i (by unfold evO;omega);exact⟨{ok with ha:=⟨show(0:Int)<=3 by decide,show(3:Int)<=4 by decide⟩,pc:=⟨show 0<=s.m.pc+o.at_ by omega,show s.m.pc+o.at_<=65535 by omega⟩,ct:=⟨show 0<=s.m.count+o.at_ by omega,show s.m.count+o.at_<=1000000 by omega⟩},e,Or.inr ⟨rfl,Or.inr ⟨rfl,show c<=s.m.count+o.at_ by omega,show s.m.count+o.at_<c+b.len by omega⟩⟩⟩
 obtain⟨r,q,u⟩:=KG (s:=s) o;have M:=abI e ok o;split
 .rename_i g;have a:=i (by unfold evO;omega);exact⟨{M with ha:=M.ha,pc:=⟨show 0<=(mM s o).pc+(o.at_+1) by omega,show(mM s o).pc+(o.at_+1)<=65535 by omega⟩,ct:=⟨show 0<=(mM s o).count+(o.at_+1) by omega,show(mM s o).count+(o.at_+1)<=1000000 by omega⟩},e,Or.inr ⟨rfl,Or.inl ⟨show(mM s o).halt=0 by omega,show c< (mM s o).count+(o.at_+1) by omega,show(mM s o).count+(o.at_+1)<=c+b.len by omega⟩⟩⟩
 .exact⟨M,e.snoc (abH e ok j),Or.inl ⟨rfl,show(mM s o).count=c by omega,show(mM s o).halt=0 by omega,show(mM s o).pc=b.pc by omega⟩⟩
def Vn{c:Int}(a:dK b)(hc:0<=c/\c+b.len<=1000000):∀(l:List IOp) (s:MS),(∀o∈l,(evO o->0<=o.at_/\o.at_<b.len)/\(o.kind=1->0<=o.k/\o.k<=65535))->afy b c s->afy b c (l.foldl (aJ b) s)
 | [],_,_,h=>h
 | o::l,s,ho,h=>Vn a hc l _ (λx d=>ho x (mem_cons_of_mem _ d)) (afz a hc (ho o (mem_cons_self ..)).1 (ho o (mem_cons_self ..)).2 h)
def alq{m:aC}(a:dK b)(hm:MOK m)(l:m.halt=0)(q:m.pc=b.pc)(hc:m.count+b.len<=1000000){x:aC}(v:oV b (b.ops.foldl (aJ b) ⟨m,[],false⟩)=x):MOK x/\1<=x.count-m.count+(if 2<=x.halt then 1 else 0)/\x.count-m.count+(if 2<=x.halt then 1 else 0)<=b.len:=by
 have t:=hm.ct;have z:=a.ln;have w:=a.pc;have f:=a.en;obtain⟨ok,y,d⟩:=Vn a ⟨t.1,hc⟩ b.ops ⟨m,[],false⟩ (λo p=>by
  obtain⟨i,u,rfl⟩:=getElem_of_mem p;have h:=a.op i ah ah;rw [show((i:Int)).toNat=i from rfl,getD_lt u]at h;exact⟨h.a1,h.k1⟩) ⟨hm,(by intro n hn;cases hn),Or.inl ⟨rfl,rfl,l,q⟩⟩
 generalize b.ops.foldl (aJ b) ⟨m,[],false⟩=s at*;subst v;unfold oV;rcases d with⟨c,g,j,A⟩ | ⟨c,d⟩
 .rw [c,if_neg (by decide)];refine⟨{ok with pc:= ?_,ct:=⟨show 0<=s.m.count+b.len by omega,show s.m.count+b.len<=1000000 by omega⟩},?_⟩
  .show Wo (if b.fin=1 then b.k else if b.fin=2 then((s.vals).getD (b.x).toNat default)else if wE (b.fin-2) ((s.vals).getD (b.x).toNat default) ((s.vals).getD (b.y).toNat default)=true then b.k else b.pc+b.len);split
   .exact f.k1 ah
   split
   .exact y.at _
   split
   .exact f.k1 ah
   .exact⟨ah,ah⟩
  .dsimp only;rw [g,j,if_neg (by decide)];omega
 .rw [c,if_pos rfl];refine⟨ok,?_⟩;rcases d with⟨e,k,r⟩ | ⟨e,k,r⟩<;>rw [e]
  .rw [if_neg (by decide)];omega
  .rw [if_pos (by decide)];omega
def ab7{left:Int}(a:Ask)(ok:iO e)(c:e.aj.halt=0)(f:e.aj.count<1000000)(u:1<=left):iO (goE e q left a).1/\1<=(goE e q left a).1.aj.count-e.aj.count+(if 2<=(goE e q left a).1.aj.halt then 1 else 0)/\(goE e q left a).1.aj.count-e.aj.count+(if 2<=(goE e q left a).1.aj.halt then 1 else 0)<=left:=by
 have hm:=ok.1;have d:∀y:Eng,y.aj=e.aj->KpE y.cache y.bC->iO (jg y q)/\1<=(jg y q).aj.count-e.aj.count+(if 2<=(jg y q).aj.halt then 1 else 0)/\(jg y q).aj.count-e.aj.count+(if 2<=(jg y q).aj.halt then 1 else 0)<=left:=λy p k=>by
  have h:=oZ hm f (bp (e.aj.count∈q));have l:=FY c (bp (e.aj.count∈q));unfold jg;rw [p,Sv hm c f];refine⟨Nj k h,?_⟩;dsimp only;rcases l with⟨g,i⟩ | ⟨g,i⟩
  .rw [if_neg ah];omega
  .rw [if_pos g];omega
 obtain⟨K,F⟩:=ab3 ok a;have fm:=BS e a;unfold goE;split
 .exact d e rfl (Vi ok)
 split
 .exact d _ fm K
 rename_i n;split
 .exact d _ fm K
 rename_i r;obtain⟨j,F2,_⟩:=F ah;generalize ((((gM e a).1.cache).getD ((gM e a).2.1).toNat default))=x at*;have r:yC e.aj q left x.blk.len=true:=by simpa using r
 obtain⟨s,t,_⟩:=KL r;have ir:=(FX j.2.2).2.1;have o:=Ni (b:=x.blk) (m:={e.aj with waits:=e.aj.waits || bp (e.aj.count∈q)}) ir {hm with} (by dsimp only;omega);have E:=alq (b:=x.blk) (m:={e.aj with waits:=e.aj.waits || bp (e.aj.count∈q)}) ir {hm with} c F2.symm (by dsimp only;omega) rfl;rw [o];dsimp only at E ⊢;exact⟨Nj K E.1,E.2.1,ah⟩
set_option maxHeartbeats 2000000 in
theorem apf{p1 f1 p2 f2 p7 f7}{Z:List Ins×Ask×ak->Bool}{f3:List Ins×Ask×ak->mG}{G:arj->Bool}{F:arj->ak}{p5:Bool×ak->Bool}{f5:Bool×ak->ak}{U:List Int×arj->Bool}{H:List Int×arj->Bool×arj}(U1:aqQ p1 f1)(v:aoR p2 f2)(U3:∀(l:List Ins) (a:Ask) (m:aC) (K:List Cac) (C:List Cer),nK m.pc l->rJ C->ShK K->ShC C->By a.bytes->a.bytes.length<1000000000->Z (l,a,m.pc,m.save,m.aO,m.waits,m.halt,m.ins,m.count,K,C,m.regs,m.mem,m.outs,())=true/\f3 (l,a,m.pc,m.save,m.aO,m.waits,m.halt,m.ins,m.count,K,C,m.regs,m.mem,m.outs,())=mC (lu K ⟨l.map fF,(iX C (lower m.pc l) a).1⟩) (iX C (lower m.pc l) a).2 m)(U4:∀(b:Blk) (m:aC) (K:List Cac) (C:List Cer),dK b->MOK m->MSh m->m.outs.length<900000000->G (b,m.pc,m.save,m.aO,m.waits,m.halt,m.ins,m.count,K,C,m.regs,m.mem,m.outs,())=true/\F (b,m.pc,m.save,m.aO,m.waits,m.halt,m.ins,m.count,K,C,m.regs,m.mem,m.outs,())=mK K C (oV b (b.ops.foldl (aJ b) ⟨m,[],false⟩)))(U5:∀(b:Bool) (m:aC) (K:List Cac) (C:List Cer),MOK m->m.ins.length<1000000000->m.outs.length<900000000->p5 (b,m.pc,m.save,m.aO,m.waits,m.halt,m.ins,m.count,K,C,m.regs,m.mem,m.outs,())=true/\f5 (b,m.pc,m.save,m.aO,m.waits,m.halt,m.ins,m.count,K,C,m.regs,m.mem,m.outs,())=mK K C (stepM m b))(U6:∀(q:List Int) (b:Blk) (m:aC) (K:List Cac) (C:List Cer),q.length<1000000000->(0<=m.count/\m.count<=1000000)->(0<=b.len/\b.len<=1000)->U (q,b,m.pc,m.save,m.aO,m.waits,m.halt,m.ins,m.count,K,C,m.regs,m.mem,m.outs,())=true/\(H (q,b,m.pc,m.save,m.aO,m.waits,m.halt,m.ins,m.count,K,C,m.regs,m.mem,m.outs,())=(bp (∃n∈q,m.count+1<=n/\n<=m.count+b.len-1),b,mK K C m)))(U7:akV p7 f7)(q:List Int)(l:Int)(a:Ask)(e:Eng)(ok:iO e)(X:e.aj.halt=0)(u:e.aj.count<1000000)(z:EgZ e)(W:q.length<1000000000)(ha:By a.bytes)(hn:a.bytes.length<1000000000):aaY.F (p1,f1,p2,f2,Z,f3,G,F,p5,f5,U,H,p7,f7,()) (q,l,a,e.aj.pc,e.aj.save,e.aj.aO,e.aj.waits,e.aj.halt,e.aj.ins,e.aj.count,e.cache,e.bC,e.aj.regs,e.aj.mem,e.aj.outs,()) (λy=>GoD (goE e q l a) y):=by
 have mM:=MKM;have mE:∀c:Blk,Co.mk .blk (c.pc,c.len,c.ops,c.fin,c.x,c.y,c.k,())=c:=λ_=>rfl
 have o:=z.o;have cw:=ok.1.ct;have kl:=z.k.1;obtain⟨P7,H7⟩:=U7 q e.aj.count W;have O:=λK C=>(U5 (bp (e.aj.count∈q)) e.aj K C ok.1 z.m.2.2.1 ah).1
 have A:=λK C=>(U5 (bp (e.aj.count∈q)) e.aj K C ok.1 z.m.2.2.1 ah).2
 have so:=oZ ok.1 u (bp (e.aj.count∈q));have I:(stepM e.aj (bp (e.aj.count∈q))).mem.length<1000000000:=by have:=so.m64;omega
 have d:∀ {m:aC} {K:List Cac} {C:List Cer} {b:Bool},goE e q l a=(⟨m,K.filter (dQ m.mem),C⟩,b)->ShK K->m.mem.length<1000000000->GoD (goE e q l a) (b,mK K C m):=λh1 h2 h3=>⟨_,_,_,_,rfl,h1,h2,h3⟩
 have P2:=(v e.cache e.aj.pc ah).1;have F2:=FC.one ((v e.cache e.aj.pc ah).2) (Sl _ _);obtain⟨P1,H1⟩:=U1 e.aj z.m;have S:=ab0 (a:=a) z.k z.c ok hn;have B1:=FW e.aj
 have f:∀(K:List Cac) (C:List Cer) (k:Int) (b:Bool),gM e a=(⟨e.aj,K,C⟩,k,b)->0<=k->¬((e.aj.waits=true\/e.aj.count∈q)/\e.aj.aO=true)->ShK K/\k<K.length/\
   (U (q,(((K).getD (k).toNat default)).blk,e.aj.pc,e.aj.save,e.aj.aO,e.aj.waits,e.aj.halt,e.aj.ins,e.aj.count,K,C,e.aj.regs,e.aj.mem,e.aj.outs,())=true)/\
   (H (q,(((K).getD (k).toNat default)).blk,e.aj.pc,e.aj.save,e.aj.aO,e.aj.waits,e.aj.halt,e.aj.ins,e.aj.count,K,C,e.aj.regs,e.aj.mem,e.aj.outs,())=(bp (∃n∈q,e.aj.count+1<=n/\n<=e.aj.count+(((K).getD (k).toNat default)).blk.len-1),(((K).getD (k).toNat default)).blk,mK K C e.aj))/\(0<=(((K).getD (k).toNat default)).blk.len/\(((K).getD (k).toNat default)).blk.len<=1000)/\
   (((l< (((K).getD (k).toNat default)).blk.len\/1000000- (((K).getD (k).toNat default)).blk.len<e.aj.count)\/bp (∃n∈q,e.aj.count+1<=n/\n<=e.aj.count+(((K).getD (k).toNat default)).blk.len-1)=true->GoD (goE e q l a) (b,mK K C (stepM e.aj (bp (e.aj.count∈q)))))/\
   (((¬l< (((K).getD (k).toNat default)).blk.len/\¬1000000- (((K).getD (k).toNat default)).blk.len<e.aj.count)/\bp (∃n∈q,e.aj.count+1<=n/\n<=e.aj.count+(((K).getD (k).toNat default)).blk.len-1)=false)->
    G ((((K).getD (k).toNat default)).blk,e.aj.pc,e.aj.save,e.aj.aO,e.aj.waits || bp (e.aj.count∈q),e.aj.halt,e.aj.ins,e.aj.count,K,C,e.aj.regs,e.aj.mem,e.aj.outs,())=true/\
    GoD (goE e q l a) (b,F ((((K).getD (k).toNat default)).blk,e.aj.pc,e.aj.save,e.aj.aO,e.aj.waits || bp (e.aj.count∈q),e.aj.halt,e.aj.ins,e.aj.count,K,C,e.aj.regs,e.aj.mem,e.aj.outs,())))):=by
  intro K C k b i k0 w;rw [i]at S;have t:=S.k;have Sr:=S.r;obtain⟨ir,j⟩:=S.b k0;dsimp only at t Sr ir j;generalize hB:(((K).getD (k).toNat default)).blk=B at*;have ln:=ir.ln;obtain⟨M,p⟩:∃M:aC,M={e.aj with waits:=e.aj.waits || bp (e.aj.count∈q)}:=⟨_,rfl⟩;obtain⟨G1,G2⟩:=alp (l:=l) ok X u w i k0 hB ir j p;have mo:MOK M:=by rw [p];exact {ok.1 with}
  have ms:MSh M:=by rw [p];exact z.m
  have s:M.outs.length<900000000:=by rw [p];dsimp only;omega
  obtain⟨P4,H4⟩:=U4 B M K C ir mo ms s;have R:=UE ir ms s;refine⟨t,Sr,(U6 q B e.aj K C W cw ah).1,(U6 q B e.aj K C W cw ah).2,ah,λg=> ?_,λg=> ?_⟩
  .refine d (G1 ?_) t I;cases r:yC e.aj q l B.len
   .rfl
   .obtain⟨r1,r2,r3⟩:=KL r;rcases g with(g | g) | g
    .omega
    .omega
    .exact absurd (aX.1 g) r3
  .have r:yC e.aj q l B.len=true:=by
    cases r:yC e.aj q l B.len
    .exact absurd (afx r ah ah) (lS.1 g.2)
    .rfl
   have E:=d (G2 r) t R.2.1;rw [<-H4]at E;rw [p]at P4 E;exact⟨P4,E⟩
 dsimp only [aaY,gm,vF,vG];simp (disch:=omega) only [RR,P7,H7,O,A,P2,mM,P1,H1,F2];refine⟨λw=> ?_,λw=> ?_⟩
 .exact d (agO ok X u (Or.inl ⟨w.1.elim (λh=>Or.inr (aX.1 h)) Or.inl,w.2⟩)) z.k I
 have w:¬((e.aj.waits=true\/e.aj.count∈q)/\e.aj.aO=true):=λg=>by
  have:((bp (e.aj.count∈q) || e.aj.waits)&&e.aj.aO)=true:=by rw [Bool.and_eq_true,Bool.or_eq_true,aX];exact⟨g.1.symm,g.2⟩
  rw [this]at w;cases w
 refine⟨λk=>⟨λn0=> ?_,λn0=> ?_⟩,λk=> ?_⟩
 .exact d (agO ok X u (Or.inr (by unfold gM;rw [if_neg ah,if_pos ah]))) z.k I
 .have bk:=(B1.2 ah).2;have i:gM e a=(⟨e.aj,lu e.cache ⟨(findF e.aj).map fF,(iX e.bC (lower e.aj.pc (findF e.aj)) a).1⟩,(iX e.bC (lower e.aj.pc (findF e.aj)) a).2⟩,((lu e.cache ⟨(findF e.aj).map fF,(iX e.bC (lower e.aj.pc (findF e.aj)) a).1⟩).length:Int)-1,true):=by
   unfold gM;rw [if_neg ah,if_neg ah]
  obtain⟨P3,H3⟩:=U3 (findF e.aj) a e.aj e.cache e.bC bk ok.2.2 z.k z.c ha hn;have V:=WQ e.cache ⟨(findF e.aj).map fF,(iX e.bC (lower e.aj.pc (findF e.aj)) a).1⟩;have pl:=BR e.cache ⟨(findF e.aj).map fF,(iX e.bC (lower e.aj.pc (findF e.aj)) a).1⟩;have kp:0< (lu e.cache ⟨(findF e.aj).map fF,(iX e.bC (lower e.aj.pc (findF e.aj)) a).1⟩).length:=by rw [Vh,length_append];exact Nat.succ_pos _
  have N:=S;rw [i]at N;generalize lu e.cache ⟨(findF e.aj).map fF,(iX e.bC (lower e.aj.pc (findF e.aj)) a).1⟩=K at*;generalize (iX e.bC (lower e.aj.pc (findF e.aj)) a).2=C at*;have P:0<=(K.length:Int)-1:=by omega
  have j:=(N.b P).2;dsimp only at j;rw [pl]at j;dsimp only at V j;rw [j]at V;have kn:=N.k.1;dsimp only at kn;have J:=(v K e.aj.pc ah).1;have D:=FC.one ((v K e.aj.pc ah).2) V;obtain⟨t0,L,Q,T,t4,Y,x⟩:=f K C _ true i P w;simp (disch:=omega) only [RR,P3,H3,J,D,CAB,RB,mE,Q,T,O,A];exact⟨P,L,Y,x⟩
 .have i:gM e a=(⟨e.aj,e.cache,e.bC⟩,fcI e.cache e.aj.pc,false):=by unfold gM;rw [if_pos ah]
  obtain⟨t0,L,Q,T,t4,Y,x⟩:=f e.cache e.bC _ false i ah w;simp (disch:=omega) only [RR,CAB,RB,mE,Q,T,O,A];exact⟨ah,L,Y,x⟩
end Go.TX.F
namespace Go.TX.F
open Go Go.AE Go.TX List
variable{e:Eng}{q:List Int}{l:List Ask}{r:List Ask}{n:Int}{x:Eng}{f:Nat}
def apg{p1 f1}{c:Sk->Bool}{d:Sk->Bool×ak}(t:aqP p1 f1)(r:∀(q:List Int) (l:Int) (a:Ask) (e:Eng),iO e->e.aj.halt=0->e.aj.count<1000000->EgZ e->q.length<1000000000->By a.bytes->a.bytes.length<1000000000->c (q,l,a,e.aj.pc,e.aj.save,e.aj.aO,e.aj.waits,e.aj.halt,e.aj.ins,e.aj.count,e.cache,e.bC,e.aj.regs,e.aj.mem,e.aj.outs,())=true/\GoD (goE e q l a) (d (q,l,a,e.aj.pc,e.aj.save,e.aj.aO,e.aj.waits,e.aj.halt,e.aj.ins,e.aj.count,e.cache,e.bC,e.aj.regs,e.aj.mem,e.aj.outs,())))(q:List Int)(l:Int)(a:Ask)(e:Eng)(ok:iO e)(g:e.aj.halt=0)(j:e.aj.count<1000000)(z:EgZ e)(f:q.length<1000000000)(u:By a.bytes)(hn:a.bytes.length<1000000000):aa0.F (p1,f1,c,d,()) (q,l,a,e.aj.pc,e.aj.save,e.aj.aO,e.aj.waits,e.aj.halt,e.aj.ins,e.aj.count,e.cache,e.bC,e.aj.regs,e.aj.mem,e.aj.outs,()) (λy=>y=((goE e q l a).2,mC (goE e q l a).1.cache (goE e q l a).1.bC (goE e q l a).1.aj)):=by
 obtain⟨i,⟨m,K,C,b,p,s,k,n⟩⟩:=r q l a e ok g j z f u hn;obtain⟨h,o⟩:=t K m.mem k n;dsimp only [aa0,gm];simp (disch:=omega) only [RR,i,p,h,o];rw [s]
def ab8{l:Int}{a:Ask}(ok:iO e)(c:e.aj.halt=0)(b:e.aj.count<1000000)(h:1<=l):Ve e q l a=goE e q l a:=by
 unfold Ve;rw [aR ok,if_neg (by decide),if_neg ah]
def agP{l:Int}{a:Ask}{N:Nat}(S:EgS e N)(f:N<700000000)(ok:iO e)(d:e.aj.halt=0)(b:e.aj.count<1000000)(h:1<=l)(c:a.bytes.length<1000000000):EgS (goE e q l a).1 (N+50):=by
 rw [<-ab8 ok d b h];exact afu S f q l c
abbrev aqV(b:arf->Bool)(a:arf->ak):Prop:=∀e,EgZ e->b (e,())=true/\a (e,())=mK e.cache e.bC e.aj
abbrev aqW(c:Sk->Bool)(b:Sk->Bool×mG):Prop:=∀(q:List Int) (l:Int) (a:Ask) (e:Eng),iO e->e.aj.halt=0->e.aj.count<1000000->EgZ e->q.length<1000000000->By a.bytes->a.bytes.length<1000000000->c (q,l,a,e.aj.pc,e.aj.save,e.aj.aO,e.aj.waits,e.aj.halt,e.aj.ins,e.aj.count,e.cache,e.bC,e.aj.regs,e.aj.mem,e.aj.outs,())=true/\b (q,l,a,e.aj.pc,e.aj.save,e.aj.aO,e.aj.waits,e.aj.halt,e.aj.ins,e.aj.count,e.cache,e.bC,e.aj.regs,e.aj.mem,e.aj.outs,())=((goE e q l a).2,mC (goE e q l a).1.cache (goE e q l a).1.bC (goE e q l a).1.aj)
structure RnI(e:Eng)(q:List Int)(n:Int)(l:List Ask)(x:Eng)(f:Nat)(r:List Ask):Prop where
 ok:iO x
 s:EgS x (e.aj.outs.length+50*(n.toNat+1-f))
 o:Az (e.aj.count+n) x<=f
 fl:f<=n.toNat+1
 run:xP q (e.aj.count+n) f x r=xP q (e.aj.count+n) (n.toNat+1) e l
 a:AsK r
def AsK.hd(h:AsK r):By (r.headD sZ).bytes/\(r.headD sZ).bytes.length<1000000000:=by
 cases r with
 | nil=>exact⟨λx a=>(by cases a),by decide⟩
 | cons x r=>exact h.2 x (mem_cons_self ..)
def AsK.tl(h:AsK r):AsK r.tail:=⟨by have:=h.1;rw [length_tail];omega,λa b=>h.2 a (mem_of_mem_tail b)⟩
def RnI.start(ok:iO e)(z:EgZ e)(a:AsK l):RnI e q n l e (n.toNat+1) l:=
 ⟨ok,by rw [Nat.sub_self];exact ao9 ok z (Nat.le_refl _),by unfold Az;split<;>omega,Nat.le_refl _,rfl,a⟩
def RnI.z(R:RnI e q n l x f r)(a:e.aj.outs.length<500000000)(hn:n<=400):EgZ x:=R.s.z ah
def RnI.stop(R:RnI e q n l x f r)(c:¬(x.aj.halt=0/\x.aj.count<1000000/\x.aj.count<e.aj.count+n)):xP q (e.aj.count+n) (n.toNat+1) e l=x:=by
 rw [<-R.run];cases f with
 | zero=>rfl
 | succ f=>unfold xP;rw [if_neg c]
def RnI.step(R:RnI e q n l x f r)(j:e.aj.outs.length<500000000)(hn:n<=400)(c:x.aj.halt=0/\x.aj.count<1000000/\x.aj.count<e.aj.count+n):
  RnI e q n l (goE x q (e.aj.count+n-x.aj.count) (r.headD sZ)).1 (f-1) (if(goE x q (e.aj.count+n-x.aj.count) (r.headD sZ)).2=true then r.tail else r)/\Az (e.aj.count+n) (goE x q (e.aj.count+n-x.aj.count) (r.headD sZ)).1<Az (e.aj.count+n) x:=by
 obtain⟨a,b,i⟩:=c;have o:=R.o;have k:=R.fl;have d:Az (e.aj.count+n) x=(e.aj.count+n-x.aj.count).toNat+1:=by unfold Az;rw [if_pos a]
 have S:=agP (q:=q) (l:=e.aj.count+n-x.aj.count) R.s ah R.ok a b ah R.a.hd.2;obtain⟨T,h,m⟩:=ab7 (r.headD sZ) (q:=q) (left:=e.aj.count+n-x.aj.count) R.ok a b ah;have run:=R.run;obtain⟨g,rfl⟩:∃g,f=g+1:=⟨f-1,ah⟩;unfold xP at run;rw [if_pos ⟨a,b,i⟩]at run;have lt:Az (e.aj.count+n) (goE x q (e.aj.count+n-x.aj.count) (r.headD sZ)).1<Az (e.aj.count+n) x:=by
  rw [d];unfold Az;split
  .rename_i h0;rw [h0,if_neg (by decide)]at h;omega
  .split at h<;>omega
 refine⟨⟨T,?_,by rw [Nat.add_sub_cancel];omega,ah,by rw [Nat.add_sub_cancel];exact run,by split;exact R.a.tl;exact R.a⟩,lt⟩;rw [show e.aj.outs.length+50*(n.toNat+1- (g+1))+50=e.aj.outs.length+50*(n.toNat+1- (g+1-1)) by omega]at S;exact S
theorem aph{p1 f1 p2 f2 p3 f3 p4 f4}(N:aqV p1 f1)(K:aqW p2 f2)(J:alb p3 f3)(M:aoL p4 f4)(e:Eng)(q:List Int)(n:Int)(l:List Ask)(z:EgZ e)(H:e.aj.outs.length<500000000)(G:q.length<1000000000)(hn: -1000<=n/\n<=1000000)(Y:AsK l):aa1.F (p1,f1,p2,f2,p3,f3,p4,f4,()) (e,q,n,l,()) (λy=>y=(rM e q n l,())):=by
 have i:=λz1 z2=>(N z1 z2).1
 have j:=λz1 z2=>(N z1 z2).2
 have u:=λz1 z2 z3 z4 m B k E v b d=>(K z1 z2 z3 z4 m B k E v b d).1
 have F:=λz1 z2 z3 z4 m B k E v b d=>(K z1 z2 z3 z4 m B k E v b d).2
 have t:=λz1 z2 z3 z4=>(J z1 z2 z3 z4).1
 have o:=λz1 z2 z3 z4=>(J z1 z2 z3 z4).2
 have C:=λz1=>(M z1).1
 have w:=λz1=>(M z1).2
 have mM:=MKM;have O:=EGM;have U:=t e z.m z.k.x z.c.d;have S:=o e z.m z.k.x z.c.d;have W:=i e z;have X:=j e z;dsimp only [aa1,gm,vG];simp (disch:=omega) only [RR,U,S,W,X,mM,O];refine⟨λg=> ?_,λg=> ?_⟩
 .rw [KI (λh=>g.elim (λg=>by rw [aR h.1]at g;cases g) ah)];rfl
 have ok:=aX.1 g.1;have cw:=ok.1.ct;have p:n<=400:=by omega
 have P:rM e q n l=xP q (e.aj.count+n) (n.toNat+1) e l:=by unfold rM;rw [aR ⟨ok,p⟩,if_pos rfl]
 rw [P];refine ay (λ(y:List Int×Int×List Ask×Int×Int×Int×Bool×Bool×Int×Int×ak)=>∃(x:Eng) (f:Nat) (r:List Ask),RnI e q n l x f r/\y=(q,n,r,e.aj.count,0,0,false,false,0,0,mK x.cache x.bC x.aj)) (λy=>Az (e.aj.count+n) ⟨⟨[],0,[],0,false,false,y.2.2.2.2.2.2.2.2.2.2.2.2.2.2.1,[],[],y.2.2.2.2.2.2.2.2.2.2.2.2.2.2.2.2.1⟩,[],[]⟩) ⟨e,_,l,.start ok z Y,rfl⟩ ?_;rintro y ⟨x,f,r,R,rfl⟩;dsimp only;have xc:=R.ok.1.ct;have Z:=R.z H p;have mA:Co.mk .ask (true,[],())=sZ:=rfl;have rl:=R.a.1;have D:=i x Z;have s:=j x Z;have Q:IntKind.i64.wrap (x.aj.count-e.aj.count)=x.aj.count-e.aj.count:=w64 ah ah;have w2:IntKind.i64.wrap (n- (x.aj.count-e.aj.count))=e.aj.count+n-x.aj.count:=by rw [w64 ah ah];omega
 simp (disch:=omega) only [RR,mM,C,w,Q,w2,mA];refine⟨λg=> ?_,λg=> ?_⟩
 .have c:x.aj.halt=0/\x.aj.count<1000000/\x.aj.count<e.aj.count+n:=⟨g.1.1,g.1.2,ah⟩;obtain⟨T,lt⟩:=R.step H p c;have A:=R.a.hd;have I:=u q (e.aj.count+n-x.aj.count) (r.headD sZ) x R.ok c.1 c.2.1 Z G A.1 A.2;have L:=F q (e.aj.count+n-x.aj.count) (r.headD sZ) x R.ok c.1 c.2.1 Z G A.1 A.2;cases r with
  | nil=>
   rw [headD_nil]at*;have z0:((0:Int)< ((0:Nat):Int))=False:=eq_false (by decide);rw [show(if(goE x q (e.aj.count+n-x.aj.count) sZ).2=true then([]:List Ask).tail else [])=[] by split<;>rfl]at T;simp (disch:=omega) only [RR,I,L,length_nil,z0,and_false];exact λ_=>⟨⟨_,_,_,T,rfl⟩,lt⟩
  | cons a r=>
   rw [headD_cons]at*;have z0:((0:Int)< ((r.length+1:Nat):Int))=True:=eq_true ah;have z1:((1:Int)<=((r.length+1:Nat):Int))=True:=eq_true ah;have V:(a::r).getD (Int.toNat 0) default=a:=rfl;have g1:drop (Int.toNat 1) (take (((r.length+1:Nat):Int)).toNat (a::r))=r:=by simp
   simp (disch:=omega) only [RR,I,L,length_cons,z0,z1,V,g1,Int.le_refl];refine⟨λh=>⟨by decide,⟨_,f-1,_,?_,rfl⟩,lt⟩,λh=>⟨⟨_,f-1,_,?_,rfl⟩,lt⟩⟩
   .rw [if_pos h]at T;exact T
   .rw [if_neg (λz=>by rw [z]at h;simp at h)]at T;exact T
 .rw [R.stop (λc=>by
   have:((decide (x.aj.halt=0)&&decide (x.aj.count<1000000))&&decide (x.aj.count-e.aj.count<n))=true:=by simp only [Bool.and_eq_true,decide_eq_true_eq];omega
   rw [this]at g;cases g)]
  simp (disch:=omega) only [RR,D,s,O]
end Go.TX.F
namespace Go.TX.F
open Go Go.AE Go.TX List
def DrM(y:Int×List Int×lT):Prop:=
 ∃(m:aC) (n:Int) (q:List Int),y=(m.pc,m.mem,m.save,m.aO,m.waits,m.halt,m.ins,m.count,n,m.regs,m.outs,q,())/\MSh m/\m.outs.length<=2000/\(-1000<=n/\n<=1000)
def DrN(y:ara):Prop:=
 ∃m:aC,y=(m.pc,m.mem,m.save,m.aO,m.waits,m.halt,m.ins,m.count,m.regs,m.outs,())/\MSh m/\m.outs.length<=2000
def afA{l:List Int}{M:Int}(a:0<=M)(h:∀x∈l, -1000<=x/\x<=M)(n:Nat): -1000<=l.getD n default/\l.getD n default<=M:=by
 by_cases c:n<l.length
 .rw [getD_lt c];exact h _ (getElem_mem _)
 .rw [getD_eq_getElem?_getD,getElem?_eq_none ah];exact⟨by decide,a⟩
def alr{p1 f1 p2 f2 p3 f3 p4 f4 p5 f5}(u:aoE p1 f1)(r:aoF p2 f2)(f:Y41 p3 f3)(t:Y39 p4 f4)(d:Y38 p5 f5)(c:List Int)(hc:By c)(g:c.length<1000000000):Qg.F (p1,f1,p2,f2,p3,f3,p4,f4,p5,f5,()) (c,()) (λy=>DrM y):=by
 obtain⟨a,h⟩:=(f c hc g).2;generalize e:(f3 (c,())).1=b at a;obtain⟨o,M⟩:=r 20 b 0 a ah ah;generalize q:f2 (20,b,0,())=y at*;have B:=M.lo;have E:=M.hi;obtain⟨m,I⟩:=u b y.2.2.2.2.2.2.2.2.2.1 a ah ah;generalize l:f1 (b,y.2.2.2.2.2.2.2.2.2.1,())=z at*;obtain⟨j,D,A,x⟩:=I;have R:=pkS a d;have P:=λn p k i=>(d n b p a k i).1
 obtain⟨s,O⟩:=t 20 b (z.2.1+1) a ah ah;have fin:∀n:Int, -1000<=n/\n<=1000->DrM (y.1,y.2.1,y.2.2.1,y.2.2.2.1,y.2.2.2.2.1,y.2.2.2.2.2.1,y.2.2.2.2.2.2.1,y.2.2.2.2.2.2.2.1,n,y.2.2.2.2.2.2.2.2.2.2.1,y.2.2.2.2.2.2.2.2.2.2.2.1,z.2.2.1,()):=λn hn=>
  ⟨⟨_,_,_,_,_,_,_,_,_,_⟩,n,z.2.2.1,rfl,⟨Nat.lt_of_le_of_lt M.r (by decide),Nat.lt_of_le_of_lt M.m (by decide),Nat.lt_of_le_of_lt M.i (by decide),Nat.lt_of_le_of_lt M.o (by decide)⟩,Nat.le_trans M.o (by decide),hn⟩
 dsimp only [Qg,gm];simp (disch:=omega) only [RR,(f c hc g).1,e,h,o,q,M.b,m,l,j,P,R,O,s,length_cons,length_nil];obtain⟨_,_,C,w⟩:=(d 60 b z.2.1 a ah ah).2;have v: -1000<= [(-1:Int),400,401].getD (f5 (3,b,z.2.1+1+1,())).1.toNat default/\ [(-1:Int),400,401].getD (f5 (3,b,z.2.1+1+1,())).1.toNat default<=1000:=afA (by decide) (by simp) _;exact⟨λ_=>fin _ v,λ_=>fin _ ah⟩
def als{p1 f1 p2 f2}(i:aoF p1 f1)(e:Y41 p2 f2)(c:List Int)(hc:By c)(d:c.length<1000000000):RF.F (p1,f1,p2,f2,()) (c,()) (λy=>DrN y):=by
 obtain⟨f,h⟩:=(e c hc d).2;generalize a:(f2 (c,())).1=b at f;obtain⟨g,M⟩:=i 6 b 0 f ah ah;dsimp only [RF,gm];simp (disch:=omega) only [RR,(e c hc d).1,a,h,g];exact⟨⟨_,_,_,_,_,_,_,_,_,_⟩,rfl,⟨Nat.lt_of_le_of_lt M.r (by decide),Nat.lt_of_le_of_lt M.m (by decide),Nat.lt_of_le_of_lt M.i (by decide),Nat.lt_of_le_of_lt M.o (by decide)⟩,Nat.le_trans M.o (by decide)⟩
def alu{p1 f1 p2 f2 p3 f3}(d:aqS p1 f1)(e:aqo p2 f2)(c:akv p3 f3)(a b:Eng)(z:EgZ a):RN.F (p1,f1,p2,f2,p3,f3,()) (a,b,()) (λy=>y=(bp (a=b),())):=by
 have mM:=MKM;dsimp only [RN,gm,vG];simp (disch:=omega) only [RR,EGB,mM,c _ b.aj z.m,d _ b.cache z.k,e _ b.bC z.c];rw [<-fT,<-fT];exact Prod.ext (iF (by cases a;cases b;simp only [Eng.mk.injEq,and_assoc])) rfl
variable{m:aC}
def JH{C:List Cer}(h:MOK m)(a:rJ C):iO ⟨m,[],C⟩:=Nj (l:=[]) ⟨by decide,λx b=>(by cases b),Pairwise.nil,a⟩ h
def Vo:rJ []:=⟨by decide,λx a=>(by cases a)⟩
def KM:AsK []:=⟨by decide,λx a=>(by cases a)⟩
def afB:¬MOK Kv:=λh=>absurd h.r4 (by decide)
def Sw(h:MOK m):newE m=⟨m,[],[]⟩:=by unfold newE;rw [aR h,if_pos rfl]
def Sy(h:¬MOK m):newE m=Sn:=by unfold newE;rw [bJ h,if_neg (by decide)];rfl
def afC:¬iO Sn:=λh=>afB h.1
def ab9(h:MSh m)(a:m.outs.length<=2000):EgZ (newE m)/\(newE m).aj.outs.length<500000000:=by
 by_cases c:MOK m
 .rw [Sw c];exact⟨⟨h,by dsimp only;omega,ShK.nil,ShC.nil⟩,by dsimp only;omega⟩
 .rw [Sy c];exact⟨⟨⟨by decide,by decide,by decide,by decide⟩,by decide,ShK.nil,ShC.nil⟩,by decide⟩
def afD{n:Int}(h:bp (MOK m)=false\/400<n)(q:List Int)(l:List Ask):rM (newE m) q n l=Sn:=by
 refine KI (λg=> ?_) q l;rcases h with h | h
 .rw [Sy (lS.1 h)]at g;exact afC g.1
 .omega
def acd(q:List Int)(d:Int):∀(f:Nat) (x:Eng) (r:List Ask) (N:Nat),iO x->EgS x N->N+50*f<600000000->AsK r->EgS (xP q d f x r) (N+50*f)
 | 0,x,r,N,_,S,_,_=>S
 | f+1,x,r,N,ok,S,hN,ha=>by
  unfold xP;split
  .rename_i c;have T:=(ab7 (r.headD sZ) (q:=q) (left:=d-x.aj.count) ok c.1 c.2.1 ah).1;have E:=agP (q:=q) (l:=d-x.aj.count) (a:=r.headD sZ) S ah ok c.1 c.2.1 ah ha.hd.2;have:=acd q d f _ (if(goE x q (d-x.aj.count) (r.headD sZ)).2=true then r.tail else r) (N+50) T E ah (by split;exact ha.tl;exact ha)
   rwa [show N+50+50*f=N+50*(f+1) by omega]at this
  .exact⟨S.m,Nat.le_trans S.o ah,S.k,S.c,S.kl,S.cl,S.w,S.v⟩
def agQ{e:Eng}(z:EgZ e)(c:e.aj.outs.length<500000000){n:Int}(q:List Int){l:List Ask}(b:AsK l):EgZ (rM e q n l)/\(rM e q n l).aj.outs.length<=e.aj.outs.length+20050:=by
 by_cases h:iO e/\n<=400
 .have R:=acd q (e.aj.count+n) (n.toNat+1) e l _ h.1 (ao9 h.1 z (Nat.le_refl _)) ah b;have a:rM e q n l=xP q (e.aj.count+n) (n.toNat+1) e l:=by unfold rM;rw [aR h,if_pos rfl]
  rw [a];exact⟨R.z ah,Nat.le_trans R.o ah⟩
 .rw [KI h];exact⟨⟨⟨by decide,by decide,by decide,by decide⟩,by decide,ShK.nil,ShC.nil⟩,Nat.zero_le _⟩
abbrev apj(b:Eng×List Int×Int×List Ask×Unit->Bool)(a:Eng×List Int×Int×List Ask×Unit->arf):Prop:=∀(e:Eng) (q:List Int) (n:Int) (l:List Ask),EgZ e->e.aj.outs.length<500000000->q.length<1000000000->(-1000<=n/\n<=1000000)->AsK l->b (e,q,n,l,())=true/\a (e,q,n,l,())=(rM e q n l,())
def alv{p2 f2 p3 f3 p4 f4 p5 f5 p6 f6 p8 f8}{p:He->Bool}{k:He->arf}{f:eu->Bool}{j:eu->Int×List Int×lT}(K:∀m,MSh m->p (m,())=true/\k (m,())=(newE m,()))(G:alb p2 f2)(E:apj p3 f3)(J:aqK p4 f4)(B:akv p5 f5)(o:Y47 p6 f6)(u:∀c,By c->c.length<1000000000->f (c,())=true/\DrM (j (c,())))(C:KA p8 f8)(c:List Int)(hc:By c):RD.F (p,k,p2,f2,p3,f3,p4,f4,p5,f5,p6,f6,f,j,p8,f8,()) (c,()) (λy=>y=(true,())):=by
 have mM:=MKM;dsimp only [RD,gm,vG];by_cases r:1048576< (c.length:Int)
 .simp (disch:=omega) only [RR,r]
 obtain⟨H,⟨m,n,q,F,d,s,hn⟩⟩:=u c hc ah;obtain⟨Z,i⟩:=ab9 d s;obtain⟨Y,M⟩:=agQ (n:=n) Z i [] KM;obtain⟨A,x⟩:=E (newE m) [] n [] Z i (by decide) ah KM;have no:=λh=>afD (m:=m) (n:=n) h [] []
 have e:MOK m->n<=400->iO (rM (newE m) [] n [])/\(rM (newE m) [] n []).aj=kV [] n m:=λl t=>by
  rw [Sw l];exact ab6 (JH l Vo) t [] []
 generalize rM (newE m) [] n []=X at*;obtain⟨D,I⟩:=G X Y.m Y.k.x Y.c.d;obtain⟨v,z⟩:=J m [] n d (by decide) ah;obtain⟨L,w⟩:=B X.aj (kV [] n m) Y.m;simp (disch:=omega) only [RR,r,H,F,mM,K m d,A,x,C m d,EGB,v,z,L,w,D,I];refine⟨λg=>⟨Or.inr (o).1,by rw [no g,(o).2];rfl⟩,λg=> ?_⟩;obtain⟨a,b⟩:=e (aX.1 g.1) ah;rw [b,aR rfl,aR a];rfl
end Go.TX.F
namespace Go.TX.F
open Go Go.AE Go.TX List
abbrev aqX(d:Eng×arf->Bool)(c:Eng×arf->fA):Prop:=∀a b,EgZ a->d (a,b,())=true/\c (a,b,())=(bp (a=b),())
def WS{e:Eng}(ok:iO e):rM e [] 0 []=e:=by
 unfold rM;rw [aR ⟨ok,by decide⟩,if_pos rfl];show xP [] (e.aj.count+0) (0+1) e []=e;unfold xP;rw [if_neg (λh=>by omega)]
def alx{p2 f2 p3 f3 p4 f4 p5 f5 p6 f6 p9 f9}{C:He->Bool}{x:He->arf}{u:eu->Bool}{w:eu->ara}{A:He->Bool}{t:He->F3}(G:∀m,MSh m->C (m,())=true/\x (m,())=(newE m,()))(N:alb p2 f2)(M:apj p3 f3)(F:aqX p4 f4)(K:akv p5 f5)(L:Y47 p6 f6)(J:∀c,By c->c.length<1000000000->u (c,())=true/\DrN (w (c,())))(B:∀m,MSh m->A (m,())=true/\t (m,())=e12 (newE m))(z:KA p9 f9)(c:List Int)(hc:By c):RP.F (C,x,p2,f2,p3,f3,p4,f4,p5,f5,p6,f6,u,w,A,t,p9,f9,()) (c,()) (λy=>y=(true,())):=by
 have mM:=MKM;have H:=EGM;dsimp only [RP,gm,vG];by_cases q:1048576< (c.length:Int)
 .simp (disch:=omega) only [RR,q]
 obtain⟨E,⟨m,D,b,I⟩⟩:=J c hc ah;obtain⟨Z,v⟩:=ab9 b I;obtain⟨o,g⟩:=M (newE m) [] 0 [] Z v (by decide) ah KM;obtain⟨f,a⟩:=F (newE m) (newE m) Z;obtain⟨p,s⟩:=N (newE m) Z.m Z.k.x Z.c.d;obtain⟨Y,_⟩:=agQ (n:=0) Z v [] KM;obtain⟨j,i⟩:=F (rM (newE m) [] 0 []) (newE m) Y;obtain⟨r,l⟩:=K (newE m).aj m Z.m;by_cases k:MOK m
 .have e:=Sw k;have ok:=JH k Vo;rw [e]at o g f a p s Y j i r l;rw [WS ok]at g j i;simp (disch:=omega) only [RR,q,E,D,mM,H,G m b,e,B m b,e12,f,a,EGB,z m b,aR k,p,s,aR ok,r,l,o,g,j,i,aR rfl,length_nil];have d:f4 (⟨m,[],[]⟩,Co.mk .eng (m.regs,m.pc,m.mem,m.save,m.aO,m.waits,m.halt,m.ins,m.outs,m.count,[],[],()),())=(true,()):=by rw [aR rfl]at a;exact a
  refine⟨f,λh=> ?_,λ_=> ?_⟩
  .rw [d]at h;simp at h
  .rw [aR trivial];rfl
 .have e:=Sy k;rw [e]at o g f a p s Y j i r l;simp (disch:=omega) only [RR,q,E,D,mM,H,G m b,e,B m b,e12,f,a,EGB,z m b,bJ k,L,aR rfl,Sn,Kv,length_nil];rw [aR rfl]at a;have d:f4 (⟨⟨[],0,[],0,false,false,0,[],[],0⟩,[],[]⟩,Co.mk .eng ([],0,[],0,false,false,0,[],[],0,[],[],()),())=(true,()):=a;refine⟨f,λh=> ?_,λ_=>rfl⟩;rw [d]at h;simp at h
end Go.TX.F
namespace Go.TX
open Go Go.AE
variable{P:Program}{f:FuncId}{v:Value}{W:World}
def enters_of{b:Func}{c:Code}(e:P.funcs[f]? =some b)(a:(b.name== "runtime.NumGoroutine")=false)(h:b.body=some c):Enters P f:=by
 intro d w;have g:b.name≠ "runtime.NumGoroutine" :=by simpa using a
 simp [callFunc,e,g,h,mark]
def Vp(P:Program):Nat->List Field->Bool
 | _,[]=>true
 | k,f::fs=> !(f.name== "_")&&f.offset==k&& (match P.underlying f.type with | some (.int _)=>true | _=>false)&&Vp P (k+1) fs
def Vq(w:World)(d:Nat)(xs a:List Int)(q:xs.length=a.length):∀(h:List Field) (k:Nat),Vp P k h=true->k+h.length=xs.length->
  (Op.eqFields (d+1) (xs.map (Value.int .i64)).toArray (a.map (Value.int .i64)).toArray h).run P w= .ok (xs.drop k==a.drop k) w
 | [],k,_,h2=>by
  rw [List.drop_eq_nil_of_le (show xs.length<=k by simp only [List.length_nil]at h2;omega),List.drop_eq_nil_of_le (show a.length<=k by simp only [List.length_nil]at h2;omega)];simp [Op.eqFields]
 | f::h,k,h1,h2=>by
  simp only [List.length_cons]at h2;simp only [Vp,Bool.and_eq_true,Bool.not_eq_true',beq_eq_false_iff_ne,beq_iff_eq]at h1;obtain⟨⟨⟨s,m⟩,i⟩,o⟩:=h1;have hk:k<xs.length:=by omega
  have b:k<a.length:=by omega
  obtain⟨j,g⟩:∃j,P.underlying f.type=some (.int j):=by
   cases g:P.underlying f.type with
   | none=>rw [g]at i;cases i
   | some z=>cases z<;>(first | exact⟨_,rfl⟩ | (rw [g]at i;cases i))
  have l:P.plainKey f.type=true:=by unfold Program.plainKey;rw [g]
  have p:=run_part_plain w l (xs:=(xs.map (Value.int .i64)).toArray) (off:=f.offset) (v:= .int .i64 xs[k]) (by rw [m];simp [hk]);have n:=run_part_plain w l (xs:=(a.map (Value.int .i64)).toArray) (off:=f.offset) (v:= .int .i64 a[k]) (by rw [m];simp [b]);have r:=Vq w d xs a q h (k+1) o ah;simp only [Op.eqFields,if_pos s,Sem.run_bind,p,n,Result.andThen_ok,run_equalIn_int w d f.type .i64 j _ _ g];have e:(xs.drop k==a.drop k)=((xs[k]==a[k])&& (xs.drop (k+1)==a.drop (k+1))):=by rw [List.drop_eq_getElem_cons hk,List.drop_eq_getElem_cons b];rfl
  rw [e];by_cases c:(xs[k]==a[k])=true
  .rw [c];simp only [Bool.not_true,Bool.false_eq_true,if_false,r,Bool.true_and]
  .have c2:(xs[k]==a[k])=false:=by simpa using c
   rw [c2];simp only [Bool.not_false,if_true,Sem.run_pure,Bool.false_and]
def aly{t:TypeId}{n:Nat}(d:P.underlying t=some (.struct (P.fieldsOf t)))(e:P.stoodInHeld t=false)(f:P.eqGuardType P.depth t=false)(c:Vp P 0 (P.fieldsOf t).toList=true)(hn:(P.fieldsOf t).size=n)(b a:List Int)(h:b.length=n)(g:a.length=n)(w:World):
  (Op.equal t (.agg (b.map (Value.int .i64)).toArray) (.agg (a.map (Value.int .i64)).toArray)).run P w= .ok (b==a) w/\
  (eqGuard .eql t (.tmp 0) (.tmp 0) (.agg (b.map (Value.int .i64)).toArray) (.agg (a.map (Value.int .i64)).toArray)).run P w= .ok () w:=by
 refine⟨?_,run_eqGuard_agg w _ _ _ _ _ _ f⟩;show(Op.equalIn (9999+1) t _ _).run P w=_;rw [run_equalIn_struct w 9999 t _ _ d e,Vq w 9998 b a ah _ 0 c (by rw [Array.length_toList];omega)];rfl
noncomputable def never (s:Sig):Ct aG s:={pre:=λ_=>false,fn:=λ_=>Classical.choice (vU _)}
def lC{E:Tab}{s:Sig}(h:Enters E.P f):dA E f (cZ (never s)) where
 enters:=h
 calls:=by
  rintro b g n K ⟨m,d,i,l,j,k,o,a,c,e⟩;exfalso;unfold sI at a;split at a
  .split at a
   .split at a
    .split at a
     .cases a;have:=c false (List.mem_append_right _ (List.mem_singleton.2 rfl));cases this
     .cases a
    .cases a
   .cases a
  .cases a
abbrev aqY:Sig:={args:=[.c (.rows true .u8)],objs:=[],res:=[.c .bool],dJ:=[]}
def entry(W:World):Ctx:={K:=λ_ b=>b<W.heap.size,ν:=λ_=>none,n:=0}
def Sz(W:World):bH (entry W) W []:=
 ⟨λl o h=>(by cases h),λl o a c b h=>(by cases h),λf b ⟨l,o,h,_⟩=>(by cases h),λf b h=>h,λb h=>h⟩
def Nn{W a:World}{c:Ctx}{b:Heap}(g:Grow (entry W) W [] c a b):RowKit.Below W.heap.size W a:=
 ⟨g.os,g.tape,g.output,g.size,λk hk=>g.kept k hk λ⟨l,o,h,_⟩=>by cases h⟩
def afE{c:Ctx}{w:World}{r:PV}{N:NM}{b:Bool}(f:bG c w v r)(a:PVR N r (.c (.d true (.bool b)))):v= .bool b:=by
 cases a with
 | one h=>
  cases h with
  | c h=>
   cases h with
   | d i _=>
    subst i;cases f with
    | c _ _ e=>cases e with
     | d _ _ _ g=>cases g;rfl
  | agg h=>cases h
def apk{E:Tab}{c:Ct aG aqY}(hc:dA E f (cZ c)){a:List Int}(p:dh (λb=>b<W.heap.size) W v (.rows 1 (aM .u8 a)))
  (k:oD E (entry W) W) (n:c.pre (a,())=true):Go.Calls E.P f #[v] W λe d=>e= .returned (.bool (c.fn (a,())).1)/\RowKit.Below W.heap.size W d:=by
 refine(hc.calls [.c (.d true (.rows 1 (aM .u8 a)))] [] 0 (λr _ _=>PVR (nmh []) r (.c (.d true (.bool (c.fn (a,())).1)))) ?_ (entry W) W [v] rfl (.cons (.c _ _ (.d true _ _ p)) .nil) (Sz W) k).mono ?_
 .refine⟨0,[.c (.d true (.rows .u8 a))],[],.cons (.one (.c (.d rfl λ_=> .inl rfl))) .nil,⟨λl o h=>(by cases h),λ_ _=>rfl⟩,rfl,_,rfl,?_,_,_,rfl,?_⟩
  .intro b hb;rcases List.mem_append.1 hb with h | h
   .cases h
   .rw [List.mem_singleton]at h;rw [h];exact n
  .intro r _ _ h _ _ _;exact h
 .rintro e d he;cases e with
  | returned u=>
   obtain⟨q,r,s,j,g,_,_,m,i⟩:=he;exact⟨by rw [afE m i],Nn g⟩
  | outgrown=>exact he.elim
  | panicked _=>exact he.elim
open Go.RowKit Go.ChangeShapes Go.WideShapes Go.ChangeAt in
def Np{H:Type}{enc:TypeId×Value->H}{t e:TypeId}(E:P.underlying t=some (.slice e))(N:P.underlying e=some (.int .u8))(hc:P.cellsOf e=1){o:Nat}{d:DataW H}{p:List MemPlace}
  (q:Value.okWide P W .any o t v) (h:DataW.Trod enc P W 0 (λ_=>true) true t v d p) (r:∀x∈p,x.block<W.heap.size):
  ∃G:List Int,dh (λb=>b<W.heap.size) W v (.rows 1 (aM .u8 G))/\∀z∈G,0<=z/\z<=255:=by
 obtain⟨O,len,u,rfl⟩:=okWide_slice E q;obtain⟨I,K⟩:=h;rcases open_ints E N hc K with⟨g,B⟩ | ⟨a,F,D,m,g,_,L,hm,y,B,f,A⟩
 .simp [Value.cells]at g;obtain⟨rfl,rfl,rfl⟩:=g;exact⟨[],.none _ _ _,λ_ h=>by cases h⟩
 .simp [Value.cells]at g;obtain⟨rfl,rfl,rfl⟩:=g;simp only [Prod.mk.injEq]at B;obtain⟨rfl,rfl⟩:=B;simp only [if_true]at y;have s:∀z∈m,0<=z/\z<=255:=λz y=>by
   obtain⟨i,k,rfl⟩:=List.getElem_of_mem y;have:=range_u8 A i
   rwa [List.getElem?_eq_getElem k]at this
  refine⟨m.take len,?_,λz h=>s z (List.mem_of_mem_take h)⟩;by_cases J:len=0
  .subst J;exact .none _ _ _
  .obtain⟨b,off,spot⟩:=a;have n:spot=none:=by simpa [Addr.add]using World.cell?_spot (f 0 ah)
   subst n;have w:b<W.heap.size:=r (.cell b off) (MemPlace.mem_row.2 ⟨0,ah,by simp⟩);have c:(aM .u8 (m.take len)).length=len:=by simp only [aM,List.length_map,List.length_take];omega
   have l:∀i,i<len->(aM .u8 (m.take len)).getD i []=[.int .u8 (m.getD i 0)]:=λi k=>by
    simp only [aM,List.getD,List.getElem?_map,List.getElem?_take_of_lt k,List.getElem?_eq_getElem (show i<m.length by omega)];rfl
   refine .rows b off u 1 len _ (λi j=> .int .u8 (m.getD i 0)) w c.symm L (λi j k M=> ?_) (λi k=> ?_) (λi j k M=> ?_)
   .rw [c]at k;have:=f i ah;rw [add_plain]at this;rw [show off+i*1+j=off+i by omega];exact this
   .rw [c]at k;rw [l i k];rfl
   .rw [c]at k;have C:j=0:=by omega
    subst C;unfold gd;rw [l i k];exact .int _ _
end Go.TX
namespace Go.TX
open Go Go.AE Go.ChangeShapes Go.WideShapes Go.ChangeAt List
theorem KN{w:World}{a:Addr}{v:Value}(h:w.cell? a=some v):a.block<w.heap.size:=by
 unfold World.cell? at h;cases hb:w.heap[a.block]? with
 | none=>rw [hb]at h;simp at h
 | some o=>exact(Array.getElem?_eq_some_iff.1 hb).1
section
variable {H:Type} {enc:TypeId×Value->H} {P:Program} {W:World} {sp:Nat->Bool} {hd:Bool}
def apl:DataW H->Bool
 | .lit (.bool b)=>b
 | _=>default
def bS:DataW H->Int
 | .lit (.int _ n)=>n
 | _=>default
def ace:DataW H->ByteArray
 | .lit (.string b)=>⟨b.toArray⟩
 | _=>default
def alz{α:Type}(f:DataW H->α):DataW H->List α
 | .slice l _=>l.map f
 | _=> []
def alA:DataW H->Form
 | .agg [a,b,n,s]=>⟨apl a,apl b,bS n,alz ace s⟩
 | _=>default
variable (enc P W sp hd) in
def ED(c:Co)(dec:DataW H->c.den)(t:TypeId):Prop:=∀a cs x,DataW.trod enc P W 0 sp hd a t cs=some x->F2 (dh (λb=>b<W.heap.size) W) cs (c.row (dec x.1))
theorem apm{α β:Type}{R:α->β->Prop}{l:List α}{m:List β}(h:F2 R l m){j:Nat}(a:α)(b:β)(c:j<m.length):R (l.getD j a) (m.getD j b):=by
 obtain⟨x,e,d⟩:=F2.get h (getElem?_eq_getElem c);rw [getD_eq_getElem?_getD,e,getD_eq_getElem?_getD,getElem?_eq_getElem c];exact d
theorem acf{c:Co}{dec:DataW H->c.den}{t e:TypeId}(J:P.underlying t=some (.slice e))(hc:P.cellsOf e=c.size)(E:0<c.size)(hE:ED enc P W sp hd c dec e){u:Nat}{cs:List Value}{x:DataW H×List MemPlace}
  (h:DataW.trod enc P W 0 sp hd u t cs=some x):∃v,cs=[v]/\dh (λb=>b<W.heap.size) W v (.rows c.size (aM c (alz dec x.1))):=by
 rcases Deep.open_slice J h with⟨rfl,rfl⟩ | ⟨a,len,z,m,n,D,N,rfl,_,L,hm,w,rfl,M⟩
 .exact⟨_,rfl,.none _ _ _⟩
 have O:len<=m:=by rw [w];split<;>omega
 have p:∀i,i<len->∃q:List Value,W.cells? 0 (a.add (i*c.size)) c.size=some q/\F2 (dh (λb=>b<W.heap.size) W) q (c.row (dec (D i))):=λi d=>by
  obtain⟨s,K,G⟩:=M i ah;exact⟨s,by rw [<-hc];exact K,hE n s _ G⟩
 obtain⟨q,y⟩:=Deep.choose_lt p;refine⟨_,rfl,?_⟩;by_cases I:len=0
 .subst I;exact .none _ _ _
 obtain⟨b,r,g⟩:=a;have cell:∀i j,i<len->j<c.size->W.cell? (((⟨b,r,g⟩:Addr).add (i*c.size)).add j)=(q i)[j]? :=λi j d o=>(World.cells?_some (y i d).1).2.2 j o
 have C:∀i,i<len->(q i).length=c.size:=λi d=>(World.cells?_some (y i d).1).2.1
 have B:=cell 0 0 ah E;rw [getElem?_eq_getElem (by rw [C 0 ah];exact E)]at B;have l:g=none:=by simpa [Addr.add]using World.cell?_spot B
 subst l;have A:b<W.heap.size:=by have:=KN B;simpa [Addr.add]using this
 have F:alz dec (.slice ((range len).map D) ((range (m-len)).map λj=>D (len+j)))=(range len).map λi=>dec (D i):=by show((range len).map D).map dec=_;rw [map_map];rfl
 dsimp only;rw [F];have f:(aM c ((range len).map λi=>dec (D i))).length=len:=by rw [aM,length_map,length_map,length_range]
 have k:∀i,i<len->(aM c ((range len).map λi=>dec (D i))).getD i []=c.row (dec (D i)):=λi d=>by
  rw [getD_eq_getElem?_getD,aM,map_map,getElem?_map,getElem?_range d];rfl
 refine .rows b r z c.size len _ (λi j=>(q i).getD j undef) A f.symm L (λi j d o=> ?_) (λi d=> ?_) (λi j d o=> ?_)
 .rw [f]at d;have:=cell i j d o;rw [add_plain,add_plain]at this;rw [this,getD_eq_getElem?_getD,getElem?_eq_getElem (by rw [C i d];exact o)];rfl
 .rw [f]at d;rw [k i d];exact sK c _
 .rw [f]at d;unfold gd;rw [k i d];exact apm (y i d).2 _ _ (by rw [sK];exact o)
theorem alB{t:TypeId}(b:P.underlying t=some .string):ED enc P W sp hd .str ace t:=by
 intro a cs x h;obtain⟨s,rfl,rfl,_⟩:=DataW.trod_string b h;have e:ace (.lit (.string s.data.toList):DataW H)=s:=by unfold ace;simp
 dsimp only;rw [e];exact .cons (.str s) .nil
theorem Vr{t i e j l:TypeId}{a b f g:Field}(D:P.underlying t=some (.struct #[a,b,f,g]))(hn:P.cellsOf t=4)(o:a.offset=0/\b.offset=1/\f.offset=2/\g.offset=3)(y:a.type=e/\b.type=e/\f.type=j/\g.type=i)
  (z:P.underlying e=some .bool) (H:P.underlying j=some (.int .i64)) (R:P.underlying i=some (.slice l)) (S:P.underlying l=some .string) (k:P.cellsOf e=1/\P.cellsOf j=1/\P.cellsOf i=1/\P.cellsOf l=1):ED enc P W sp hd .form alA t:=by
 intro w cs x h;obtain⟨J,n,rfl,rfl,u,K,d⟩:=DataW.trod_struct D h;rw [hn]at u;obtain⟨N,G,E,I⟩:=o;obtain⟨L,y1,y2,y3⟩:=y;obtain⟨p,B,M,k3⟩:=k
 match cs,u with
 | [v0,v1,v2,v3],_=>
  match J,K with
  | [x0,x1,x2,x3],_=>
   have q:=d 0 a rfl;have s:=d 1 b rfl;have m:=d 2 f rfl;have A:=d 3 g rfl;rw [L,N,p]at q;rw [y1,G,p]at s;rw [y2,E,B]at m;rw [y3,I,M]at A;obtain⟨U,C,rfl⟩:=DataW.trod_bool z (show _=some x0 from q);obtain⟨T,O,rfl⟩:=DataW.trod_bool z (show _=some x1 from s);obtain⟨V,F,rfl,_⟩:=DataW.trod_int H (show _=some x2 from m);obtain⟨v,Q,r⟩:=acf (c:= .str) (dec:=ace) R k3 (by decide) (alB S) (show _=some x3 from A);cases C;cases O;cases F;cases Q;exact .cons (.bool _) (.cons (.bool _) (.cons (.int _ _) (.cons r .nil)))
end
end Go.TX
namespace Go.TX.Seat
open Go Go.AE Go.TX Go.TX.F Go.Proofs List
set_option maxRecDepth 100000
theorem aqZ:∀t n,E.ieq t=some n->∀(d b:List Int),d.length=n->b.length=n->∀w,
  (Op.equal t (.agg (d.map (Value.int .i64)).toArray) (.agg (b.map (Value.int .i64)).toArray)).run E.P w= .ok (d==b) w/\
  (eqGuard .eql t (.tmp 0) (.tmp 0) (.agg (d.map (Value.int .i64)).toArray) (.agg (b.map (Value.int .i64)).toArray)).run E.P w= .ok () w:=by
 intro t n h;obtain⟨c,hc,rfl⟩:∃c,ieq t=some c/\c.size=n:=by
  have a:(ieq t).map (λc=>c.size)=some n:=h;cases hi:ieq t with
  | none=>rw [hi]at a;cases a
  | some c=>rw [hi]at a;cases a;exact⟨c,rfl,rfl⟩
 unfold ieq at hc;split at hc
 all_goals first | (cases hc;exact aly (by kernel_rfl) (by kernel_rfl) (by kernel_rfl) (by kernel_rfl) (by kernel_rfl)) | cases hc
theorem hE:aH E:=⟨ap3,aqZ⟩
theorem aq0:∀t c,X.ieq t=some c->(c= .ins/\E.ieq t=some 4)\/(c= .iop/\E.ieq t=some 5):=by
 intro t c h;have h:ieq t=some c:=h;have e:E.ieq t=(ieq t).map λc=>c.size:=rfl
 rw [e,h];unfold ieq at h;split at h
 all_goals first | (cases h;first | exact Or.inl ⟨rfl,rfl⟩ | exact Or.inr ⟨rfl,rfl⟩) | cases h
theorem xok:XOK X E:=⟨rfl,λg c h=>(by
    first
    | (cases h;done)
    | (dsimp only [X] at h
       split at h
       · rename_i e;cases h;unfold E;dsimp only;rw [if_pos e];rfl
       · cases h)),aq0⟩
theorem hm:E.P.follows .mixedOrders=true:=by kernel_rfl
structure HL(l:List (Nat×Sig)) where
 C:Cs (std 0) l
 h:∀p∈csl (std 0) l C,dA E p.1 (cZ p.2.2)
abbrev hn:HL []:=⟨(),λ_ h=>by cases h⟩
abbrev hk{f:FuncId}{s:Sig}{c:Ct aG s}{l:List (Nat×Sig)}(h:dA E f (cZ c))(r:HL l):HL ((f,s)::l):=⟨(c.pre,c.fn,r.C),λp a=>by
 rcases mem_cons.1 a with rfl | a
 .exact h
 .exact r.h p a⟩
structure Mt{lk:aD}{s:Sig}{an:Ann}{fn:Func}{l:List (Nat×Sig)}(f:FuncId)(g:Gt lk X E an s fn l) where
 H:HL l
 k:Fn E f (g.F H.C) (cn (g.F H.C))
section
variable {lk:aD} {s:Sig} {an:Ann} {fn:Func} {l:List (Nat×Sig)} {f:FuncId}
@[irreducible] noncomputable def Mt.c {g:Gt lk X E an s fn l} (t:Mt f g):Ct aG s:=cn (g.F t.H.C)
theorem Mt.cs{g:Gt lk X E an s fn l}(t:Mt f g){x:iD s.inp}{Q:iD s.out->Prop}(h:g.F t.H.C x Q):t.c.pre x=true/\Q (t.c.fn x):=by unfold Mt.c;exact t.k.cs h
theorem Mt.ok{g:Gt lk X E an s fn l}(t:Mt f g):dA E f (cZ t.c):=by unfold Mt.c;exact t.k.ok
@[reducible] noncomputable def hc {r:List (Nat×Sig)} {g:Gt lk X E an s fn l} (t:Mt f g) (h:HL r):HL ((f,s)::r):=hk t.ok h
theorem mkF(a:E.P.funcs[f]? =some fn)(g:Gt lk X E an s fn l)(H:HL l)
 (b:fn.body.isSome=true:=by rfl) (hn:(fn.name== "runtime.NumGoroutine")=false:=by kernel_rfl):Fn E f (g.F H.C) (cn (g.F H.C)):=ap0 hE xok hm a b (λ_=>enters_of a hn) H.h (g.h H.C)
noncomputable def mk (g:Gt lk X E an s fn l) (a:E.P.funcs[f]? =some fn) (H:HL l)
 (b:fn.body.isSome=true:=by rfl) (hn:(fn.name== "runtime.NumGoroutine")=false:=by kernel_rfl):Mt f g:=⟨H,mkF a g H b hn⟩
end
theorem acg{E:Tab}{f:FuncId}{c:Ct aG {args:=[.c (.int .u64)],objs:=[],res:=[.c (.int .i64)],dJ:=[]}}{g:Int->Int}(l:Enters E.P f)(F:(λx:Int=>(c.fn (x,())).1)=g)
  (h:∀(x:Int) (w:World),c.pre (x,())=true->Go.Calls E.P f #[.int .u64 x] w λe C=>e= .returned (.int .i64 (g x))/\C=w):dA E f (cZ c) where
 enters:=l
 calls:=by
  rintro args O n K ⟨m,u,B,j,HR,p,S,a,aep,v,U,o,hK⟩ N w H z pY G T;have A:∀b (x:Int),u=[.c (.d b (.int .u64 x))]->sI (std m) B {args:=[.c (.int .u64)],objs:=[],res:=[.c (.int .i64)],dJ:=[]} c u=some {ck:=[c.pre (x,())],ts:=[.i],y:=c.fn (x,()),touched:=[],pure:=true,k:=λy=>some (.c (.d true (.int .i64 y.1)),B)}:=by
   intro b x e;subst e;rfl
  have I:∃b x,u=[.c (.d b (.int .u64 x))]:=by
   unfold sI at a;cases u with
   | nil=>simp [pV]at a
   | cons q r=>
    cases r with
    | cons W V=>
     exfalso;simp only [pV]at a;cases hx:GK (std m) B (.c (.int .u64)) q (es0 (std m) 0 [])with
     | none=>rw [hx]at a;simp at a
     | some s=>rw [hx]at a;simp [pV]at a
    | nil=>
     simp only [pV]at a;cases q with
     | c y=>
      simp only [GK,extC]at a;cases y with
      | d b y=>
       cases y with
       | int k x=>
        by_cases hk:IntKind.u64=k
        .subst hk;exact⟨b,x,rfl⟩
        .simp [hk]at a
       | _=>simp at a
      | _=>simp at a
     | _=>simp [GK]at a
  obtain⟨b,x,rfl⟩:=I;rw [A b x rfl]at a;simp only [Option.some.injEq]at a;subst a;simp only [Option.some.injEq,Prod.mk.injEq]at o;obtain⟨rfl,rfl⟩:=o;have t:=aep _ (mem_singleton.2 rfl);have R:H=[.int .u64 x]:=by
   cases j with
   | cons i D=>
    cases D;cases pY with
    | cons P J=>
     cases J;cases i with
     | one i=>
      cases i with
      | c i=>
       cases i with
       | d L _=>
        subst L;cases P with
        | c _ _ Q=>cases Q with
         | d _ _ _ M=>cases M;rfl
      | agg i=>cases i
  subst R;refine(h x w t).mono ?_;rintro e C ⟨rfl,rfl⟩;refine⟨N,.c (.d true (.int .i64 (g x))),O,0,.refl _ _ _,G,z,.c _ _ (.d _ _ _ (.int _ _)),hK _ _ _ ?_ HR (.refl _ _ _) p⟩;rw [<-F];exact .one (.c (.d rfl λ_=> .inl rfl))
end Go.TX.Seat
noncomputable section
namespace Go.TX.F
open Go Go.AE Go.TX Go.TX.Seat Go.Proofs List
set_option maxRecDepth 100000
set_option maxHeartbeats 4000000
def SA:=mk O5 Tryz.func36 hn
def wJ:=λb c a=>SA.cs (ajx b c a:)
def nC:=mk O6 Tryz.func39 hn
def bB:=λn b p d c a=>nC.cs (ajz n b p d c a:)
def FZ:=mk O7 Tryz.func40 (hc nC hn)
def jB:=λn b p d c a=>FZ.cs (ajA bB n b p d c a:)
def SB:=mk O8 Tryz.func38 (hc nC hn)
def wK:=λb p d c a=>SB.cs (akX bB b p d c a:)
def F4:=mk O9 Tryz.func47 hn
def og:=λa=>F4.cs (aju a:)
def SE:=mk Pb Tryz.func46 (hc F4 hn)
def wL:=λl h=>SE.cs (akw og l h:)
def ach:=mk Pf Tryz.func138 (hc SE hn)
def GQ:=λw i a b=>ach.cs (akS wL w i a b:)
def SF:=mk Ph Tryz.func98 (hc nC hn)
def wM:=λb p d c a=>SF.cs (ajB bB b p d c a:)
def SG:=mk Pj Tryz.func195 (hc nC hn)
def yD:=λb p d c a=>SG.cs (ajW bB b p d c a:)
def aci:=mk Pm Tryz.func160 hn
def F6:=λa=>aci.cs (CZ a:)
def SH:=mk Pn Tryz.func48 hn
def CJ:=λa b c=>SH.cs (ajt a b c:)
def acj:=mk Po Tryz.func274 hn
def GU:=λi=>acj.cs (FQ i:)
def KO:=mk Pp Tryz.func207 (hc SH (hc acj hn))
def tq:=λi=>KO.cs (GN CJ GU i:)
def acn:=mk Pq Tryz.func206 (hc aci (hc KO hn))
def F7:=λi=>acn.cs (C8 F6 tq i:)
def SK:=mk Pv Tryz.func198 (hc SG (hc nC (hc acn hn)))
def wN:=λb p d c a=>SK.cs (ajX yD bB (λz1=>(F7 z1).1) b p d c a:)
def aco:=mk Pw Tryz.func193 (hc SK (hc nC hn))
def F8:=λt b p d e c a=>aco.cs (akZ wN bB t b p d e c a:)
def acp:=mk Px Tryz.func194 (hc nC hn)
def F9:=λt b p e c d a=>acp.cs (akY bB t b p e c d a:)
def SL:=mk Py Tryz.func197 (hc KO hn)
def yE:=λi=>SL.cs (akO tq i:)
def acr:=mk Pz Tryz.func196 (hc SL hn)
def C9:=λl a=>acr.cs (akQ yE l a:)
def acs:=mk PD Tryz.func139 (hc acr (hc SL (hc aco (hc SK (hc SG (hc acp (hc FZ (hc nC (hc SF hn)))))))))
def Da:=λb p d c a=>acs.cs (ak0 C9 yE F8 wN yD F9 jB bB wM b p d c a:)
def acu:=mk PE Tryz.func140 (hc SF hn)
def Db:=λn b p d hn c a=>acu.cs (ajG wM n b p d hn c a:)
def BU:=mk PG Tryz.func14 (hc F4 (hc SH (hc SE hn)))
def lD:=λm h=>BU.cs (akx og CJ wL m h:)
def KP:=mk PI Tryz.func56 hn
def qI:=λm h=>KP.cs (aky m h:)
def acv:=mk PK Tryz.func182 hn
def KQ:=λl n h=>acv.cs (akL l n h:)
def acw:=mk PL Tryz.func159 (hc KO (hc F4 hn))
def Ga:=λw=>acw.cs (akN tq og w:)
def acy:=mk PN Tryz.func266 hn
def Dc:=λm b=>acy.cs (akK m b:)
def KR:=mk PO Tryz.func267 hn
def qJ:=λm h=>KR.cs (akz m h:)
def Gb:=mk PU Tryz.func276 hn
def lF:=λa=>Gb.cs (ajv a:)
def acz:=mk PW Tryz.func222 (hc Gb (hc F4 hn))
def KS:=λc a b=>acz.cs (ajw og lF c a b:)
def BX:=mk PX Tryz.func307 (hc Gb hn)
def jO:=λm n h=>BX.cs (akA lF m n h:)
def acA:=mk PY Tryz.func303 (hc KR (hc BX hn))
def GV:=λm i h a=>acA.cs (akI qJ jO m i h a:)
def KT:=mk PZ Tryz.func304 (hc BX hn)
def tu:=λm d v h a b=>KT.cs (akB jO m d v h a b:)
def acB:=mk P8 Tryz.func305 (hc Gb hn)
def Gc:=λv k h b a=>acB.cs (akC lF v k h b a:)
def acC:=mk P9 Tryz.func306 (hc Gb (hc KR (hc BX (hc KT hn))))
def Gd:=λm i h b a=>acC.cs (akG lF qJ jO tu m i h b a:)
def acD:=mk Qa Tryz.func308 (hc BX (hc KT hn))
def GX:=λm i h c b hn a=>acD.cs (akH jO tu m i h c b hn a:)
def acE:=mk Qb Tryz.func268 (hc acz (hc BX (hc acD (hc acC (hc KT (hc acB (hc acA hn)))))))
def Nq:=λm i h b hn a=>acE.cs (akJ KS jO GX Gd tu Gc GV m i h b hn a:)
def acF:=mk Qc Tryz.func199 (hc acw (hc BU (hc KP (hc acE (hc KR (hc acy hn))))))
def Gf:=λm b h a=>acF.cs (akU Ga lD qI Nq qJ Dc m b h a:)
def acG:=mk Qd Tryz.func141 (hc BU (hc acF (hc KP (hc acv hn))))
def GY:=λm q n h b a=>acG.cs (akW lD Gf qI KQ m q n h b a:)
def acH:=mk Qe Tryz.func81 (hc ach (hc acG (hc acs (hc SB (hc FZ (hc nC (hc acu hn)))))))
def Gg:=λb p d c a=>acH.cs (ak1 GQ GY Da wK jB bB Db b p d c a:)
def SN:=mk Qf Tryz.func37 (hc acH (hc FZ (hc nC hn)))
def rO:=λn b p d c a=>SN.cs (ak2 Gg jB bB n b p d c a:)
def acI:=mk Qg Tryz.func11 (hc SB (hc SN (hc SA (hc FZ (hc nC hn)))))
def AA:=λc hc a=>acI.cs (alr wK rO wJ jB bB c hc a:)
def fU:=mk Qh Tryz.func87 hn
def bO:=λa b c=>fU.cs (aiX a b c:)
def qK:=mk Qi Tryz.func49 (hc fU hn)
def eZ:=λa=>qK.cs (aiY bO a:)
def acJ:=mk Qj Tryz.func86 (hc qK hn)
def Gh:=λa b=>acJ.cs (ajF eZ a b:)
def Nr:=mk Zv Tryz.func44 (hc qK (hc fU (hc acJ hn)))
def oh:=λm h=>Nr.cs (aop eZ bO Gh m h:)
def agR:=mk Zw Tryz.func60 hn
def BZ:=λe a=>agR.cs (aoP e a:)
def acK:=mk Qk Tryz.func152 hn
def tC:=λa b c=>acK.cs (ali a b c:)
def acL:=mk Zx Tryz.func91 (hc fU (hc acK hn))
def kJ:=λe mem a hm=>acL.cs (aoX bO tC e mem a hm:)
def acM:=mk Zy Tryz.func149 (hc acL hn)
def rP:=λe mem a hm b=>acM.cs (aoZ kJ e mem a hm b:)
def acN:=mk Zz Tryz.func271 hn
def uo:=λe x=>acN.cs (aoT e x:)
def acO:=mk Ql Tryz.func59 (hc agR hn)
def gJ:=λl a h=>acO.cs (ala BZ l a h:)
def acP:=mk Qm Tryz.func59 (hc acN hn)
def fK:=λl x h=>acP.cs (alc uo l x h:)
def acQ:=mk Qn Tryz.func59 (hc acM hn)
def fM:=λl mem h hm=>acQ.cs (alj rP l mem h hm:)
def acR:=mk ZA Tryz.func24 (hc acO hn)
def wO:=λl a h=>acR.cs (aoQ gJ l a h:)
def acS:=mk ZB Tryz.func65 (hc fU hn)
def wP:=λa=>acS.cs (aox bO a:)
def KU:=mk Qo Tryz.func166 (hc fU hn)
def tF:=λa=>KU.cs (ai0 bO a:)
def Vt:=mk ZE Tryz.func104 (hc fU (hc KU hn))
def tH:=λi=>Vt.cs (aow bO tF i:)
def alC:=mk aiB Tryz.func61 (hc acS (hc Vt (hc fU hn)))
def AB:=λb l a=>alC.cs (aqz wP tH bO b l a:)
def acT:=mk ZF Tryz.func117 (hc fU hn)
def qj:=λo=>acT.cs (anM bO o:)
def Ca:=mk Qp Tryz.func106 (hc acT hn)
def gy:=λg x y k d e f c i j a b h=>Ca.cs (akn qj g x y k d e f c i j a b h:)
def acU:=mk Qq Tryz.func105 (hc Ca hn)
def tJ:=λv i d e f c g j a b h=>acU.cs (akr gy v i d e f c g j a b h:)
def acV:=mk Qr Tryz.func107 (hc Ca hn)
def zu:=λk d e f c g i a b h=>acV.cs (ako gy k d e f c g i a b h:)
def acW:=mk Qs Tryz.func108 (hc Ca hn)
def zw:=λk d e f c g i a b h=>acW.cs (akp gy k d e f c g i a b h:)
def acX:=mk Qt Tryz.func109 (hc Ca hn)
def AJ:=λd x y e f g c i j a b h=>acX.cs (akq gy d x y e f g c i j a b h:)
def acY:=mk Qu Tryz.func62 (hc acX (hc acW (hc acU (hc Ca (hc acV hn)))))
def wQ:=λi B a h b c=>acY.cs (aks AJ zw tJ gy zu i B a h b c:)
def Ji:=mk ZG Tryz.func63 hn
def dV:=λb a=>Ji.cs (an0 b a:)
def alD:=mk aiC Tryz.func25 (hc alC (hc Ji (hc acY hn)))
def uw:=λb l a=>alD.cs (aqA AB dV wQ b l a:)
def Ns:=mk ZH Tryz.func116 (hc fU hn)
def jU:=λo=>Ns.cs (anK bO o:)
def SQ:=mk Qv Tryz.func167 (hc fU hn)
def CK:=λa=>SQ.cs (aiZ bO a:)
def agS:=mk ZI Tryz.func224 (hc fU hn)
def wR:=λo=>agS.cs (anL bO o:)
end Go.TX.F
end
noncomputable section
namespace Go.TX.F
open Go Go.AE Go.TX Go.TX.Seat Go.Proofs List
set_option maxRecDepth 100000
set_option maxHeartbeats 4000000
def acZ:=mk ZJ Tryz.func168 (hc agS (hc fU hn))
def mW:=λb x n d c a=>acZ.cs (anN wR bO b x n d c a:)
def agT:=mk ZK Tryz.func110 (hc acZ (hc Ns (hc qK (hc fU (hc SQ (hc KU hn))))))
def xQ:=λb i d c a e=>agT.cs (anO mW jU eZ bO CK tF b i d c a e:)
def Nt:=mk ZL Tryz.func122 hn
def fJ:=λb=>Nt.cs (anP b:)
def agU:=mk ZM Tryz.func111 (hc Nt (hc acZ (hc qK (hc fU hn))))
def wS:=λb a=>agU.cs (anQ fJ mW eZ bO b a:)
def CO:=mk ZN Tryz.func69 (hc agU (hc agT (hc fU hn)))
def jh:=λb a=>CO.cs (anR wS xQ bO b a:)
def ac0:=mk Qw Tryz.func112 hn
def jZ:=λa b c=>ac0.cs (ajZ a b c:)
def ac1:=mk ZO Tryz.func70 (hc ac0 hn)
def yF:=λa b c=>ac1.cs (anW jZ a b c:)
def agV:=mk ZP Tryz.func146 (hc fU hn)
def rQ:=λn b m K C hm a=>agV.cs (apd bO n b m K C hm a:)
def agW:=mk ZQ Tryz.func278 hn
def AL:=λa n=>agW.cs (ani a n:)
def ac2:=mk Qx Tryz.func205 (hc agW hn)
def ji:=λa n b=>ac2.cs (ai4 AL a n b:)
def ac3:=mk Qy Tryz.func205 (hc agV hn)
def mX:=λq b m K C a hm c=>ac3.cs (aln rQ q b m K C a hm c:)
def ac4:=mk Qz Tryz.func145 (hc ac2 hn)
def iq:=λa n b=>ac4.cs (ai5 (λz1 z2 z3=>(ji z1 z2 z3).1) (λz1 z2 z3=>(ji z1 z2 z3).2) a n b:)
def ac5:=mk QA Tryz.func145 (hc ac3 hn)
def lG:=λq b m K C a hm c=>ac5.cs (alo mX q b m K C a hm c:)
def ac6:=mk ZR Tryz.func225 (hc ac4 hn)
def uz:=λa n b=>ac6.cs (anj (λz1 z2 z3=>(iq z1 z2 z3).1) (λz1 z2 z3=>(iq z1 z2 z3).2) a n b:)
def alE:=mk aiD Tryz.func283 hn
def uD:=λa=>alE.cs (aqa a:)
def afF:=mk aiE Tryz.func232 (hc alE hn)
def lH:=λa b=>afF.cs (aqb uD a b:)
def alF:=mk aiF Tryz.func233 hn
def AO:=λa b=>alF.cs (aqd a b:)
def ac7:=mk QB Tryz.func284 (hc afF hn)
def qL:=λa b c=>ac7.cs (ai1 lH a b c:)
def Gi:=mk QC Tryz.func234 (hc alF (hc afF (hc ac7 hn)))
def iV:=λa b c=>Gi.cs (ai2 lH qL AO a b c:)
def afG:=mk aiG Tryz.func285 (hc alE hn)
def wT:=λa b=>afG.cs (aqc uD a b:)
def ac8:=mk QD Tryz.func236 (hc afG hn)
def pz:=λa b=>ac8.cs (ai3 wT a b:)
def agX:=mk ZT Tryz.func238 hn
def Gj:=λm=>agX.cs (ank m:)
def ac9:=mk QE Tryz.func286 (hc agX hn)
def gV:=λa b=>ac9.cs (ai6 (G:=(λm:au=>0<m.atoms.length/\m.atoms.getD 0 default<0)) Gj a b:)
def ada:=mk QF Tryz.func237 (hc ac9 hn)
def gB:=λa b=>ada.cs (ai7 (G:=(λm:au=>0<m.atoms.length/\m.atoms.getD 0 default<0)) gV a b:)
def CP:=mk ZU Tryz.func176 (hc fU (hc ac6 (hc ac8 (hc Gi (hc ada hn)))))
def iI:=λa b=>CP.cs (anl bO uz pz iV gB a b:)
def adb:=mk ZV Tryz.func170 (hc fU (hc SQ (hc ac6 (hc CP (hc KU hn)))))
def lI:=λa n b=>adb.cs (anx bO CK uz iI tF a n b:)
def Vu:=mk ZW Tryz.func173 (hc alF (hc afF (hc Gi hn)))
def nD:=λa b c=>Vu.cs (anm AO lH iV a b c:)
def zy:=mk QG Tryz.func126 (hc Vu hn)
def dD:=λa b c=>zy.cs (ai8 nD a b c:)
def agY:=mk ZX Tryz.func228 (hc zy hn)
def xR:=λa b c=>agY.cs (anu dD a b c:)
def agZ:=mk ZY Tryz.func227 (hc agY hn)
def wU:=λa b c=>agZ.cs (anv xR a b c:)
def ade:=mk QH Tryz.func226 (hc agZ hn)
def gW:=λa b c d=>ade.cs (aje wU a b c d:)
def adf:=mk Z0 Tryz.func171 (hc ade hn)
def o8:=λa b c d=>adf.cs (anw gW a b c d:)
def adg:=mk QI Tryz.func235 hn
def iY:=λa=>adg.cs (ajd a:)
def adh:=mk Z4 Tryz.func174 (hc adb (hc adf (hc adg hn)))
def qm:=λt a c b=>adh.cs (anA lI o8 iY t a c b:)
def adi:=mk Z5 Tryz.func175 (hc fU hn)
def wV:=λa=>adi.cs (anp bO a:)
def SX:=mk QJ Tryz.func121 (hc adi (hc adh hn))
def rR:=λc k t b a=>SX.cs (ajR wV qm c k t b a:)
def SY:=mk QK Tryz.func113 (hc SX hn)
def qo:=λt b c a=>SY.cs (ajS rR t b c a:)
def Gm:=mk QL Tryz.func88 hn
def jC:=λa b=>Gm.cs (ajb a b:)
def Vv:=mk Z6 Tryz.func169 (hc Gm hn)
def jk:=λa b=>Vv.cs (anr jC a b:)
def adk:=mk Z7 Tryz.func114 (hc Vv hn)
def nL:=λa b=>adk.cs (ant jk a b:)
def ag0:=mk Z8 Tryz.func71 (hc adk (hc SY hn))
def GZ:=ag0.cs (anT nL qo:)
def ag1:=mk Z9 Tryz.func115 (hc adb (hc adf hn))
def KV:=λa b=>ag1.cs (anz lI o8 a b:)
def adl:=mk QM Tryz.func118 hn
def iR:=λa c b=>adl.cs (ajT a c b:)
def Vw:=mk aac Tryz.func119 (hc fU hn)
def nG:=λa=>Vw.cs (ano bO a:)
def Cc:=mk QN Tryz.func150 hn
def jm:=λa=>Cc.cs (ai9 a:)
def Ce:=mk QO Tryz.func131 (hc qK (hc Cc hn))
def lJ:=λc a b=>Ce.cs (aja eZ jm c a b:)
def adn:=mk aad Tryz.func178 (hc CP hn)
def yG:=λa b=>adn.cs (anq iI a b:)
def zB:=mk QS Tryz.func311 (hc Gi hn)
def AP:=λa b c=>zB.cs (ajc iV a b c:)
def ado:=mk QT Tryz.func339 (hc zB hn)
def iJ:=λa b d hd e c f=>ado.cs (ajh AP a b d hd e c f:)
def adp:=mk QU Tryz.func348 hn
def jo:=λa b n d c g e h f=>adp.cs (ajf a b n d c g e h f:)
def Cg:=mk QV Tryz.func346 (hc adp hn)
def jP:=λa m b d c g e h f=>Cg.cs (ajg jo a m b d c g e h f:)
def cK:Nat->Ct aG OQ
 | 0=>never OQ
 | k+1=>cn (Fg.F (zB.c.pre,zB.c.fn,Cg.c.pre,Cg.c.fn,(cK k).pre,(cK k).fn,()))
def kK:∀k:Nat,dA E 340 (cZ (cK k))/\∀(a m b:Int) (d:List au),Fq a m b d->b-a<k->(cK k).pre (a,m,b,d,())=true/\Mrg d ((cK k).fn (a,m,b,d,())).1 a b
 | 0=>⟨lC (enters_of Tryz.func340 (by kernel_rfl) rfl),λa m b d c f=>(by have h:=c.h2;have g:=c.h3;omega)⟩
 | k+1=>by
  have e:=kK k;have t:Fn E 340 (Fg.F (zB.c.pre,zB.c.fn,Cg.c.pre,Cg.c.fn,(cK k).pre,(cK k).fn,())) (cK (k+1)):=mkF Tryz.func340 Fg (hc zB (hc Cg (hk e.1 hn)));exact⟨t.ok,λa m b d c f=>t.cs (aji AP jP (k:Int) e.2 a m b d c ah)⟩
def alG:Ct aG OQ:=cK 1000000000
def alH:dA E 340 (cZ alG):=(kK 1000000000).1
def ag2{a m b:Int}{d:List au}(h:Fq a m b d):b-a< ((1000000000:Nat):Int):=by have f:=h.sh.1;have e:=h.h1;have c:=h.h4;omega
def alI:=λa m b d h=>((kK 1000000000).2 a m b d h (ag2 h)).1
def alJ:=λa m b d h=>((kK 1000000000).2 a m b d h (ag2 h)).2
def adq:=mk QW Tryz.func324 (hc ado (hk alH hn))
def jQ:=λn d hd hn=>adq.cs (ajj iJ (λz1 z2 z3 z4 a=>⟨alI z1 z2 z3 z4 a,alJ z1 z2 z3 z4 a⟩) n d hd hn:)
def ads:=mk QX Tryz.func310 (hc adq hn)
def fO:=λd hd=>ads.cs (ajk jQ d hd:)
end Go.TX.F
end
noncomputable section
namespace Go.TX.F
open Go Go.AE Go.TX Go.TX.Seat Go.Proofs List
set_option maxRecDepth 100000
set_option maxHeartbeats 4000000
def S9:=mk QY Tryz.func279 (hc Gi (hc CP (hc Cc (hc Gm (hc ads hn)))))
def Gn:=λl a hc=>S9.cs (ajl iV iI jm jC fO l a hc:)
def adt:=mk QZ Tryz.func312 hn
def iZ:=λn a b=>adt.cs (ajm n a b:)
def adu:=mk Q0 Tryz.func280 (hc adt hn)
def iP:=λa b c d=>adu.cs (ajn iZ a b c d:)
def ag3:=mk aae Tryz.func229 (hc CP (hc S9 (hc adu hn)))
def G5:=λa b c d=>ag3.cs (anC iI Gn iP a b c d:)
def adw:=mk Q5 Tryz.func313 hn
def uK:=λn a b=>adw.cs (ajo n a b:)
def adx:=mk Q6 Tryz.func281 (hc adw hn)
def rT:=λa b c d=>adx.cs (ajp uK a b c d:)
def ady:=mk Q7 Tryz.func325 (hc afG hn)
def kN:=λa b d hd e c=>ady.cs (ajC wT a b d hd e c:)
def alK:Ct aG YP:=never YP
def alL:dA E 326 (cZ alK):=lC (enters_of Tryz.func326 (by kernel_rfl) rfl)
def alM:Ct aG YQ:=never YQ
def alN:dA E 327 (cZ alM):=lC (enters_of Tryz.func327 (by kernel_rfl) rfl)
def alO:Ct aG OU:=never OU
def alP:dA E 328 (cZ alO):=lC (enters_of Tryz.func328 (by kernel_rfl) rfl)
def alQ:Ct aG YR:=never YR
def alR:dA E 329 (cZ alQ):=lC (enters_of Tryz.func329 (by kernel_rfl) rfl)
def alS:Ct aG OV:=never OV
def alT:dA E 330 (cZ alS):=lC (enters_of Tryz.func330 (by kernel_rfl) rfl)
def alU:Ct aG OW:=never OW
def alV:dA E 331 (cZ alU):=lC (enters_of Tryz.func331 (by kernel_rfl) rfl)
def alW:Ct aG OX:=never OX
def alX:dA E 332 (cZ alW):=lC (enters_of Tryz.func332 (by kernel_rfl) rfl)
def nH:Ct aG Fe:=never Fe
def nI:dA E 314 (cZ nH):=lC (enters_of Tryz.func314 (by kernel_rfl) rfl)
def adz:=mk Q8 Tryz.func314 (hc afG (hc ady (hk alL (hk alN (hk alP (hk alR (hk alT (hk alV (hk alX (hk nI hn))))))))))
def om:=λa b k d hd e c=>adz.cs (ajD kN _ _ _ _ _ _ _ _ _ _ _ _ _ _ _ _ a b k d hd e c:)
def adA:Ct aG YS:={pre:=λx=>decide ((0:Int)<=x.1)&&decide ((x.1:Int)<=18446744073709551615),fn:=λx=>((Lib.bitLen (x.1:Int).toNat:Int),())}
def alY(n:Int)(a:0<=n)(b:n<=18446744073709551615):adA.pre (n,())=true:=by
 show(decide _&&decide _)=true;simp only [Bool.and_eq_true,decide_eq_true_eq];exact⟨a,b⟩
def alZ:dA E 315 (cZ adA):=
 acg (enters_of Tryz.func315 (by kernel_rfl) rfl) rfl λx w h=>by
  have a:(decide ((0:Int)<=x)&&decide (x<=18446744073709551615))=true:=h;simp only [Bool.and_eq_true,decide_eq_true_eq]at a;exact bits_Len x w a.1 a.2
def adB:=mk Q9 Tryz.func282 (hc adz (hk alZ hn))
def uL:=λa b=>adB.cs (ajE om alY a b:)
def adC:=mk aaf Tryz.func231 (hc CP (hc Cc (hc S9 (hc adx (hc adB hn)))))
def yH:=λa b c d=>adC.cs (anD iI jm Gn rT uL a b c d:)
def ag4:=mk aag Tryz.func230 (hc CP (hc Vw (hc qK (hc adC hn))))
def Df:=λa n b=>ag4.cs (anE iI nG eZ yH a n b:)
def adD:=mk Ra Tryz.func172 (hc zy (hc Vw (hc Ce (hc ag3 (hc adC (hc ag4 (hc adn hn)))))))
def G6:=λa x y c b=>adD.cs (ajq dD nG lJ G5 yH Df yG a x y c b:)
def ag5:=mk aah Tryz.func120 (hc Vu (hc adD (hc adh (hc adi hn))))
def Ch:=λt a x y c d b=>ag5.cs (anF nD G6 qm wV t a x y c d b:)
def Ci:=mk Rb Tryz.func132 (hc qK hn)
def jR:=λr a b=>Ci.cs (ajP eZ r a b:)
def adE:=mk Rc Tryz.func239 (hc Vv hn)
def AQ:=λa b=>adE.cs (ajQ jk a b:)
def ag6:=mk aai Tryz.func177 (hc Vv (hc adE hn))
def xS:=λs a=>ag6.cs (anS jk AQ s a:)
def ag7:=mk aaj Tryz.func123 (hc adn (hc CP (hc Vu (hc ag6 (hc zy (hc Ci hn))))))
def G7:=λs n c b a=>ag7.cs (anU yG iI nD xS dD jR s n c b a:)
def ag8:=mk aak Tryz.func72 (hc Nt (hc CO (hc acT (hc Ns (hc Vw (hc ag7 (hc ag1 (hc adk (hc ag5 (hc SX (hc SY (hc adl hn))))))))))))
def G8:=λt b a c=>ag8.cs (anV fJ jh qj jU nG G7 KV nL Ch rR qo iR t b a c:)
def adF:=mk Rf Tryz.func180 (hc zy hn)
def zC:=λa b c=>adF.cs (aj0 dD a b c:)
def adG:=mk Rh Tryz.func179 (hc adF hn)
def bY:=λa b c=>adG.cs (aj1 zC a b c:)
def Ta:=mk Ri Tryz.func127 (hc adG hn)
def rU:=λa b c=>Ta.cs (aj2 bY a b c:)
def ag9:=mk aal Tryz.func125 (hc zy (hc Ta hn))
def Cj:=λa b c=>ag9.cs (anX dD rU a b c:)
def adH:=mk Rj Tryz.func124 (hc ag9 hn)
def bW:=λa b c=>adH.cs (aj3 Cj a b c:)
def aha:=mk aam Tryz.func73 (hc zy (hc Ta (hc adH hn)))
def Gp:=λa b c=>aha.cs (anY dD rU bW a b c:)
def Vx:=mk aan Tryz.func28 (hc CO (hc ac1 (hc ag0 (hc ag8 (hc aha hn)))))
def o9:=λb c a hc=>Vx.cs (anZ jh yF GZ G8 Gp b c a hc:)
def Nu:=mk aao Tryz.func64 (hc Vt (hc qK hn))
def lK:=λw=>Nu.cs (aoG tH eZ w:)
def apn:=mk aiH Tryz.func33 (hc Nu hn)
def Gq:=λw h=>apn.cs (aqT lK w h:)
def ahb:=mk aap Tryz.func53 (hc alD (hc alC (hc apn (hc acL (hc acR (hc Vx hn))))))
def KW:=λl mem h hm=>ahb.cs (ao2 uw AB Gq kJ wO o9 l mem h hm:)
def ahc:=mk aaq Tryz.func93 (hc Vx hn)
def Gr:=λq b a=>ahc.cs (aob o9 q b a:)
def ahd:=mk aar Tryz.func269 (hc ac1 hn)
def Dh:=λq b c d a=>ahd.cs (aoa yF q b c d a:)
def adI:=mk Rk Tryz.func153 (hc ahd hn)
def gX:=λl b c h=>adI.cs (aj6 Dh l b c h:)
def adJ:=mk Rl Tryz.func153 (hc ahc hn)
def gF:=λl h=>adJ.cs (aj7 Gr l h:)
def adK:=mk Rm Tryz.func92 (hc adI hn)
def gG:=λl b c h=>adK.cs (aj8 gX l b c h:)
def adL:=mk Rn Tryz.func92 (hc adJ hn)
def fG:=λl h=>adL.cs (aj9 gF l h:)
def ahe:=mk aas Tryz.func54 (hc adL hn)
def KY:=λl h=>ahe.cs (aod fG l h:)
def Vy:=mk aat Tryz.func18 (hc ahb (hc ahe (hc Nr hn)))
def tK:=λe b a c=>Vy.cs (ao3 KW KY oh e b a c:)
def Vz:=mk aau Tryz.func45 (hc Gm hn)
def jq:=λm h=>Vz.cs (aor jC m h:)
def ahf:=mk aav Tryz.func142 (hc Ji (hc Gm hn))
def uM:=λe a b=>ahf.cs (aoV dV jC e a b:)
def KZ:=mk Ro Tryz.func82 (hc ahf hn)
def lM:=λl h=>KZ.cs (ale uM l h:)
end Go.TX.F
end
noncomputable section
namespace Go.TX.F
open Go Go.AE Go.TX Go.TX.Seat Go.Proofs List
set_option maxRecDepth 100000
set_option maxHeartbeats 4000000
def ahg:=mk aaw Tryz.func143 (hc Ji hn)
def wW:=λq b a=>ahg.cs (aoe dV q b a:)
def Tc:=mk Rp Tryz.func83 (hc ahg hn)
def qp:=λl h=>Tc.cs (akb wW l h:)
def ahh:=mk aax Tryz.func41 (hc Vz (hc KZ (hc Tc hn)))
def xU:=λe h=>ahh.cs (apa jq lM qp e h:)
def adM:=mk aay Tryz.func42 hn
def nM:=λm=>adM.cs (aoI m:)
def apo:=mk aiI Tryz.func26 (hc acS (hc Nu (hc Nr hn)))
def Gs:=λm h=>apo.cs (aqU wP lK oh m h:)
def ahi:=mk aaz Tryz.func151 hn
def wX:=λe c lt f b ins d regs mem a h=>ahi.cs (aos e c lt f b ins d regs mem a h:)
def adN:=mk aaA Tryz.func151 hn
def kL:=λe c lt f b ins d K C regs mem a h=>adN.cs (ao4 e c lt f b ins d K C regs mem a h:)
def ahj:=mk aaB Tryz.func89 (hc ahi (hc Ce (hc Ci (hc Cc hn))))
def tL:=λi m h b hn a=>ahj.cs (aoJ wX lJ jR jm i m h b hn a:)
def ahk:=mk aaC Tryz.func89 (hc adN (hc Ce (hc Ci (hc Cc hn))))
def pE:=λi m K C h b hn a=>ahk.cs (ao6 kL lJ jR jm i m K C h b hn a:)
def ahl:=mk aaD Tryz.func51 (hc Nu (hc ahj hn))
def xV:=λb m h hn a=>ahl.cs (aoK lK tL b m h hn a:)
def ahm:=mk aaE Tryz.func51 (hc Nu (hc ahk hn))
def tN:=λb m K C h hn a=>ahm.cs (ao7 lK pE b m K C h hn a:)
def adO:=mk Rq Tryz.func90 hn
def tO:=λl n h=>adO.cs (ak3 l n h:)
def Td:=mk Rs Tryz.func52 (hc adO hn)
def jF:=λl n h=>Td.cs (ak4 tO l n h:)
def ahn:=mk aaF Tryz.func66 hn
def Di:=λa b e d c f=>ahn.cs (aol a b e d c f:)
def apq:=mk aiJ Tryz.func67 hn
def G9:=λa b c d=>apq.cs (aqp a b c d:)
def aho:=mk aaG Tryz.func68 (hc CO hn)
def Gu:=λb a=>aho.cs (aom jh b a:)
def ahp:=mk aaH Tryz.func27 (hc apq (hc aho (hc ahn hn)))
def Hg:=λl b a=>ahp.cs (aon G9 Gu Di l b a:)
def adP:=mk aaI Tryz.func133 (hc Nt (hc Ns hn))
def lU:=λnm b len fin x y k a h=>adP.cs (an2 fJ jU nm b len fin x y k a h:)
def adQ:=mk aaJ Tryz.func128 (hc adP hn)
def nN:=λb a ok hk=>adQ.cs (an3 lU b a ok hk:)
def ahq:=mk aaK Tryz.func129 (hc Nt (hc Ns hn))
def xW:=λb ok=>ahq.cs (an6 fJ jU b ok:)
def ahr:=mk aaL Tryz.func74 (hc adQ (hc ahq (hc CO hn)))
def Gw:=λb a=>ahr.cs (an8 nN xW jh b a:)
def ahs:=mk aaM Tryz.func75 (hc adQ (hc CO hn))
def Gx:=λb a=>ahs.cs (an7 nN jh b a:)
def aht:=mk aaN Tryz.func130 hn
def AU:=λi c d e b f g a h=>aht.cs (an1 i c d e b f g a h:)
def ahu:=mk aaO Tryz.func76 (hc Ji (hc CO (hc aht (hc Ce (hc Ci hn)))))
def Dj:=λb a=>ahu.cs (an4 dV jh AU lJ jR b a:)
def ahv:=mk aaP Tryz.func77 (hc Ji (hc adP (hc CO hn)))
def Gy:=λb a=>ahv.cs (an5 dV lU jh b a:)
def ahw:=mk aaQ Tryz.func30 (hc ahu (hc ahv (hc ahr (hc ahs hn))))
def Hl:=λb a=>ahw.cs (an9 Dj Gy Gw Gx b a:)
def ahx:=mk aaR Tryz.func200 (hc ahp (hc ahw hn))
def zD:=λa b h c d=>ahx.cs (apb Hg Hl a b h c d:)
def ahy:=mk aaS Tryz.func201 (hc adK hn)
def Ho:=λl b c h=>ahy.cs (aoc gG l b c h:)
def adR:=mk Rt Tryz.func270 hn
def pq:=λl n a c b=>adR.cs (akc l n a c b:)
def ahz:=mk aaT Tryz.func202 (hc Tc (hc adR hn))
def Hq:=λl q h b a=>ahz.cs (aoh qp pq l q h b a:)
def adS:=mk Rv Tryz.func148 (hc acN (hc acP hn))
def gH:=λl x h=>adS.cs (ald uo fK l x h:)
def adT:=mk Rw Tryz.func148 (hc acM (hc acQ hn))
def fH:=λl mem h hm=>adT.cs (alk rP fM l mem h hm:)
def adU:=mk Rx Tryz.func272 hn
def oq:=λl n a c b=>adU.cs (alf l n a c b:)
def ahA:=mk aaU Tryz.func203 (hc KZ (hc adU (hc adS hn)))
def Hr:=λl e h b a c=>ahA.cs (aoW lM oq gH l e h b a c:)
def ahB:=mk aaV Tryz.func273 (hc Vt hn)
def Ht:=λi=>ahB.cs (aoH tH i:)
def apr:=mk aiK Tryz.func204 (hc ahB hn)
def Dk:=λl a=>apr.cs (aqH Ht l a:)
def ahC:=mk aaW Tryz.func144 (hc alD (hc apr (hc ahA (hc ahy (hc ahz (hc Vx (hc ahx hn)))))))
def zF:=λl a m K C c b hK hc d hn=>ahC.cs (ape uw Dk Hr Ho Hq o9 zD l a m K C c b hK hc d hn:)
def ahD:=mk aaX Tryz.func147 (hc adN (hc Ce (hc Ci (hc fU hn))))
def uN:=λb m K C c hm d a=>ahD.cs (ao8 kL lJ jR bO b m K C c hm d a:)
def ahE:=mk aaY Tryz.func84 (hc apo (hc acR (hc ahC (hc ahD (hc ahm (hc ac5 (hc Td hn)))))))
def uO:=λq l a e ok c d z b f hn=>ahE.cs (apf Gs wO zF uN tN lG jF q l a e ok c d z b f hn:)
def ahF:=mk aaZ Tryz.func85 (hc KZ (hc adT hn))
def Gz:=λl mem h hm=>ahF.cs (ao1 lM fH l mem h hm:)
def ahG:=mk aa0 Tryz.func43 (hc ahF (hc ahE hn))
def zG:=λq l a e ok f b z c d hn=>ahG.cs (apg Gz uO q l a e ok f b z c d hn:)
def adV:=mk aa1 Tryz.func12 (hc ahh (hc ahG (hc Vy (hc adM hn))))
def yI:=λe q n l z a b hn c=>adV.cs (aph xU zG tK nM e q n l z a b hn c:)
def adW:=mk aa2 Tryz.func13 (hc Vz (hc Nr hn))
def yJ:=λm h=>adW.cs (apc jq oh m h:)
def Te:=mk Ry Tryz.func15 (hc qK hn)
def CQ:=Te.cs (ajr eZ:)
def Tf:=mk Rz Tryz.func50 hn
def yK:=λa b c=>Tf.cs (ajs a b c:)
def K4:=mk RA Tryz.func16 (hc Tf hn)
def qM:=λa b h=>K4.cs (aki yK a b h:)
def ahH:=mk aa3 Tryz.func17 (hc Vz (hc adM (hc ahl (hc Nr (hc Td hn)))))
def Hu:=λm q n h b a=>ahH.cs (aoM jq nM xV oh jF m q n h b a:)
def adX:=mk RD Tryz.func3 (hc adW (hc Vy (hc adV (hc ahH (hc K4 (hc Te (hc acI (hc BU hn))))))))
def qw:=λc hc=>adX.cs (alv yJ tK yI Hu qM CQ AA lD c hc:)
def al0:=λc hc=>(qw c hc).1
def al1:=λc hc=>(qw c hc).2
def adY:=mk RF Tryz.func19 (hc SN (hc SA hn))
def AV:=λc hc a=>adY.cs (als rO wJ c hc a:)
def Tg:=mk RG Tryz.func29 hn
def wY:=λa b c=>Tg.cs (aj5 a b c:)
def adZ:=mk RH Tryz.func35 (hc Tg (hc Tf hn))
def GA:=λa b c=>adZ.cs (alh wY yK a b c:)
def ad1:=mk RL Tryz.func55 (hc Tg hn)
def GD:=λa b c=>ad1.cs (akd wY a b c:)
def ad2:=mk RN Tryz.func20 (hc adZ (hc ad1 (hc K4 hn)))
def K6:=λa b z=>ad2.cs (alu GA GD qM a b z:)
def ad3:=mk RO Tryz.func21 (hc BU (hc KP hn))
def Hw:=λm h=>ad3.cs (ak8 lD qI m h:)
def ad4:=mk RP Tryz.func4 (hc adW (hc Vy (hc adV (hc ad2 (hc K4 (hc Te (hc adY (hc ad3 (hc BU hn)))))))))
def uE:=λc hc=>ad4.cs (alx yJ tK yI K6 qM CQ AV Hw lD c hc:)
def al2:=λc hc=>(uE c hc).1
def al3:=λc hc=>(uE c hc).2
end Go.TX.F
end
noncomputable section
namespace Go.TX.F
open Go Go.AE Go.TX Go.TX.Seat Go.Proofs List
set_option maxRecDepth 100000
set_option maxHeartbeats 4000000
end Go.TX.F
end
noncomputable section
namespace Go.TX.F
open Go Go.AE Go.TX Go.TX.Seat Go.Proofs List
set_option maxRecDepth 100000
set_option maxHeartbeats 4000000
end Go.TX.F
end
