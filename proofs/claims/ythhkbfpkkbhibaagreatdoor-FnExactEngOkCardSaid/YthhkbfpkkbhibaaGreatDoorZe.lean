/- For every input the law returns true, and the input reads as it did. No condition. -/
import Derived.Test.YthhkbfpkkbhibaaGreatDoorZd
import Derived.ChangeSlices
import Derived.ChangeSame
import Derived.JoinedOf
import Derived.JoinedAt
import Derived.Handed
import Derived.Below
import Derived.Carry
import Derived.OpenShut
import Derived.ChangeKeysEq
import Derived.Deep.Slices
import Derived.OpenVars
import Derived.LaidMore
import Derived.MakeChecks
import Derived.Deep.Strs
import Derived.Test.YthhkbfpkkbhibaaGreatDoorY
import Derived.Test.YthhkbfpkkbhibaaGreatDoorRows
import Derived.Test.YthhkbfpkkbhibaaGreatDoorTie
import Derived.Test.YthhkbfpkkbhibaaGreatDoorCards
import Derived.SevenTiedAt
set_option maxHeartbeats 1000000
set_option linter.all false
set_option linter.unusedSectionVars false
set_option linter.unusedVariables false
set_option linter.unusedSimpArgs false
namespace Go.TX.F
open Go Go.AE Go.TX
def CAB:(∀e:Cac,iR .cac 0 .i64 e=e.words)/\(∀e:Cac,bV .cac 1 e=e.blk.pc)/\(∀e:Cac,bV .cac 2 e=e.blk.len)/\(∀e:Cac,iR .cac 3 .iop e=e.blk.ops)/\(∀e:Cac,bV .cac 4 e=e.blk.fin)/\(∀e:Cac,bV .cac 5 e=e.blk.x)/\(∀e:Cac,bV .cac 6 e=e.blk.y)/\(∀e:Cac,bV .cac 7 e=e.blk.k):=
 ⟨λ_=>rfl,λ_=>rfl,λ_=>rfl,λ_=>rfl,λ_=>rfl,λ_=>rfl,λ_=>rfl,λ_=>rfl⟩
def CAM:(∀e:Cac,Co.mk .cac (e.words,e.blk.pc,e.blk.len,e.blk.ops,e.blk.fin,e.blk.x,e.blk.y,e.blk.k,())=e)/\(∀x:Cac,([x].length:Int)=1):=⟨λ_=>rfl,λ_=>rfl⟩
def ShK(l:List Cac):Prop:=l.length<1000/\∀x∈l,x.words.length<1000/\x.blk.ops.length<1000000/\x.blk.pc<=1000000
def ShK.at{l:List Cac}(h:ShK l)(i:Nat):(l.getD i default).words.length<1000/\(l.getD i default).blk.ops.length<1000000/\(l.getD i default).blk.pc<=1000000:=by
 by_cases c:i<l.length
 .rw [getD_lt c];exact h.2 _ (List.getElem_mem _)
 .rw [List.getD_eq_getElem?_getD,List.getElem?_eq_none ah];exact⟨by decide,by decide,by decide⟩
def ShX(l:List Cac):Prop:=l.length<1000000000/\∀x∈l,x.words.length<1000000000/\x.blk.ops.length<1000000000
def ShK.x{l:List Cac}(h:ShK l):ShX l:=⟨by have:=h.1;omega,λq g=>by have:=h.2 q g;omega⟩
def ShX.at{l:List Cac}(h:ShX l)(i:Nat):(l.getD i default).words.length<1000000000/\(l.getD i default).blk.ops.length<1000000000:=by
 by_cases c:i<l.length
 .rw [getD_lt c];exact h.2 _ (List.getElem_mem _)
 .rw [List.getD_eq_getElem?_getD,List.getElem?_eq_none ah];exact⟨by decide,by decide⟩
def ShK.sub{l r:List Cac}(h:ShK l)(n:r.length<1000)(s:∀x∈r,x∈l):ShK r:=⟨n,λx hx=>h.2 x (s x hx)⟩
def FC(l:List Cac)(pc k:Int):Prop:=(k= -1/\∀j:Int,0<=j->j<l.length->(((l).getD (j).toNat default)).blk.pc≠pc)\/(0<=k/\k<l.length/\(((l).getD (k).toNat default)).blk.pc=pc/\∀j:Int,0<=j->j<k->(((l).getD (j).toNat default)).blk.pc≠pc)
def FC.one{l:List Cac}{pc k m:Int}(h:FC l pc k)(g:FC l pc m):k=m:=by
 rcases h with⟨a,b⟩ | ⟨a,b,c,d⟩<;>rcases g with⟨a',b'⟩ | ⟨a',b',c',d'⟩
 .omega
 .exact absurd c' (b _ a' b')
 .exact absurd c (b' _ a b)
 .rcases Int.lt_trichotomy k m with h | h | h
  .exact absurd c (d' _ a h)
  .exact h
  .exact absurd c' (d _ a' h)
def There(w mem:List Int)(pc:Int):Prop:=∀k:Int,0<=k->k<w.length->pc+k<mem.length/\((mem).getD (pc+k).toNat default)=((w).getD (k).toNat default)
def aag(w mem:List Int)(pc:Int)(hw:w.length<1000)(hm:mem.length<1000000000)(p0:0<=pc)(p1:pc<=1000000):OM.F () (w,mem,pc,()) (λy=>y=(bp (There w mem pc),())):=by
 dsimp only [OM,gm];refine ak (λ(y:List Int×List Int×Int×Int×Unit)=>y.1=w/\y.2.1=mem/\y.2.2.1=pc/\0<=y.2.2.2.1/\y.2.2.2.1<=w.length/\∀k:Int,0<=k->k<y.2.2.2.1->pc+k<mem.length/\((mem).getD (pc+k).toNat default)=((w).getD (k).toNat default)) (λy=>(w.length-y.2.2.2.1).toNat) ⟨rfl,rfl,rfl,by simp,by simp,λj h0 h1=>absurd h1 (by simp;omega)⟩ ?_;rintro⟨(w:List Int),(mem:List Int),(pc:Int),(i:Int),⟨⟩⟩ hI;dsimp only at hI ⊢;obtain⟨rfl,rfl,rfl,h1,h2,h3⟩:=hI;simp (disch:=omega) only [RR];refine⟨λg=>⟨ah,ah,ah,ah,λe=> ?_,λe=>⟨⟨ah,ah,λj j0 j1=> ?_⟩,ah⟩⟩,λg=> ?_⟩
 .rw [aR];intro q;obtain⟨q1,q2⟩:=q i h1 g;rcases e with e | e
  .omega
  .exact e q2
 .by_cases c:j<i
  .exact h3 j j0 c
  .rw [show j=i by omega];exact⟨ah,e.2⟩
 .rw [aU];exact λj j0 j1=>h3 j j0 ah
abbrev cE(e : Cac) : Int × Int × Int × Int × Int × Int × List Int × List IOp × Unit := (e.blk.pc, e.blk.len, e.blk.fin, e.blk.x, e.blk.y, e.blk.k, e.words, e.blk.ops, ())
noncomputable def Cj (mem:List Int) (x:Cac):Bool:=bp (0<=x.blk.pc/\There x.words mem x.blk.pc)
def Ck{α:Type}{d:α}{P:α->Bool}{l:List α}{i:Int}(h0:0<=i)(h:i<l.length):(l.take (i+1).toNat).filter P=(l.take i.toNat).filter P++(if P (l.getD i.toNat d)=true then [l.getD i.toNat d]else []):=by
 rw [show(i+1).toNat=i.toNat+1 by omega,List.take_succ_eq_append_getElem ah,getD_lt ah,List.filter_append]
 congr 1
 rw [List.filter_cons,List.filter_nil]
structure auL(pp:Cac×Unit->Bool)(ff:Cac×Unit->Int×Int×Int×Int×Int×Int×List Int×List IOp×Unit):Prop where
 hp:∀e,e.words.length<1000->e.blk.ops.length<1000000->pp (e,())=true
 hf:∀e,e.words.length<1000->e.blk.ops.length<1000000->ff (e,())=cE e
structure atl(pp:List Int×List Int×Int×Unit->Bool)(ff:List Int×List Int×Int×Unit->Bool×Unit):Prop where
 hp:∀w mem pc,w.length<1000->mem.length<1000000000->0<=pc->pc<=1000000->pp (w,mem,pc,())=true
 hf:∀w mem pc,w.length<1000->mem.length<1000000000->0<=pc->pc<=1000000->ff (w,mem,pc,())=(bp (There w mem pc),())
noncomputable def iG:List Int->List Ins
 | []=> []
 | w::r=>if bp (Wo w/\dO (jm w))=true then jm w::iG r else []
def Jl:∀w:List Int,(iG w).length<=w.length
 | []=>Nat.le_refl _
 | w::r=>by
  have:=Jl r;unfold iG;split<;>simp only [List.length_cons,List.length_nil]<;>omega
def uW:∀(a b:List Int),(∀w∈a,Wo w/\dO (jm w))->iG (a++b)=a.map jm++iG b
 | [],b,_=>rfl
 | w::a,b,h=>by
  rw [List.cons_append,iG,if_pos (aU (h w (by simp))),uW a b (λx hx=>h x (by simp [hx]))];rfl
theorem aju{p1 f1}(U1:apD p1 f1)(w:List Int)(h:w.length<1000000000):Ni.F (p1,f1,()) (w,()) (λy=>y=(iG w,())):=by
 have e:∀x y z u:Int,Co.mk .ins (x,y,z,u,())=⟨x,y,z,u⟩:=λ_ _ _ _=>rfl
 dsimp only [Ni,gm];refine ak (λ(y:List Int×Int×List Ins×Unit)=>y.1=w/\0<=y.2.1/\y.2.1<=w.length/\y.2.2.1=(w.take y.2.1.toNat).map jm/\∀x∈w.take y.2.1.toNat,Wo x/\dO (jm x)) (λy=>(w.length-y.2.1).toNat) ⟨rfl,by simp,by simp,by simp,by simp⟩ ?_;rintro⟨(w:List Int),(i:Int),(o:List Ins),⟨⟩⟩ hI;dsimp only at hI ⊢;obtain⟨rfl,h1,h2,rfl,h3⟩:=hI;simp (disch:=omega) only [RR,U1.hp,U1.hf];have tl:=List.length_take_le' i.toNat w;refine⟨λg=>⟨h1,g,?_⟩,λg=> ?_⟩
 .have dr:w=w.take i.toNat++(w.getD i.toNat default::w.drop (i.toNat+1)):=by
   rw [getD_lt ah,<-List.drop_eq_getElem_cons ah,List.take_append_drop]
  unfold tkI;by_cases c:Wo (w.getD i.toNat default)/\dO (jm (w.getD i.toNat default))
  .rw [if_pos (aU c)];simp (disch:=omega) only [RR,e];have ts:=bK (d:=default) h1 g (l:=w) rfl;have ml:((w.take i.toNat).map jm).length=i.toNat:=by rw [List.length_map,List.length_take];omega
   refine⟨by rw [ml];simp only [List.length_cons,List.length_nil];omega,⟨ah,ah,by rw [<-ts,List.map_append];rfl,λx hx=> ?_⟩,ah⟩;rw [<-ts,List.mem_append,List.mem_singleton]at hx;exact hx.elim (h3 x) (λq=>q▸c)
  .rw [if_neg (by rw [aR c];decide)];simp (disch:=omega) only [RR]
   conv=>rhs;rw [dr]
   rw [uW _ _ h3,iG,if_neg (by rw [aR c];decide),List.append_nil]
   done
 .rw [List.take_of_length_le ah]at h3 ⊢;have:=uW w [] h3;rw [List.append_nil]at this;rw [this];simp [iG]
def neP(pc:Int)(x:Cac):Bool:= !decide (x.blk.pc=pc)
def apK(l:List Cac)(e:Cac):List Cac:=(l.filter (neP e.blk.pc)++ [e]).drop ((l.filter (neP e.blk.pc)).length+1-4)
def nH(x:Cac):Prop:=(iG x.words).length=x.words.length/\qC x.blk.pc (iG x.words)/\chk (lower x.blk.pc (iG x.words)) x.blk=true
structure apL(pp:List Int×Unit->Bool)(ff:List Int×Unit->List Ins×Unit):Prop where
 hp:∀w,w.length<1000000000->pp (w,())=true
 hf:∀w,w.length<1000000000->ff (w,())=(iG w,())
theorem ajv{p1 f1 p2 f2 p3 f3 p4 f4}(U1:ati p1 f1)(U2:apG p2 f2)(U3:apL p3 f3)(U4:Y96 p4 f4)(e:Cac)(hw:e.words.length<1000000000)(ho:e.blk.ops.length<1000000000):OL.F (p1,f1,p2,f2,p3,f3,p4,f4,()) (e,()) (λy=>y=(bp (nH e),())):=by
 have mE:∀c:Blk,Co.mk .blk (c.pc,c.len,c.ops,c.fin,c.x,c.y,c.k,())=c:=λ_=>rfl
 have tl:=Jl e.words;have P1:=U1.hp e.blk.pc (iG e.words) ah;have H1:=U1.hf e.blk.pc (iG e.words) ah;have P2:=U2.hp e.blk.pc (iG e.words) ah;have H2:=U2.hf e.blk.pc (iG e.words) ah;have lw:=aea H1;rw [H1]at lw;have P4:=U4.hp (lower e.blk.pc (iG e.words)) e.blk (by have:((lower e.blk.pc (iG e.words)).ops.length:Int)<=5000:=lw;omega) ah;have H4:=U4.hf (lower e.blk.pc (iG e.words)) e.blk (by have:((lower e.blk.pc (iG e.words)).ops.length:Int)<=5000:=lw;omega) ah;dsimp only [OL,gm,qX];simp (disch:=omega) only [RR,CAB,mE,U3.hp _ hw,U3.hf _ hw,P1,H1,P2,H2,P4,H4];have eq:bp (nH e)=(decide (((iG e.words).length:Int)=e.words.length)&&bp (qC e.blk.pc (iG e.words))&&chk (lower e.blk.pc (iG e.words)) e.blk):=by
  rw [Bool.eq_iff_iff,aN,Bool.and_eq_true,Bool.and_eq_true,aN,decide_eq_true_eq];exact⟨λ⟨a,b,c⟩=>⟨⟨ah,b⟩,c⟩,λ⟨⟨a,b⟩,c⟩=>⟨ah,b,c⟩⟩
 exact⟨λ_=>by rw [eq],λg=>⟨g,by rw [eq,g];rfl⟩⟩
def BD(l:List Cac)(mem:List Int):Prop:=l.length<=4/\(∀j:Int,0<=j->j<l.length->nH ((l).getD (j).toNat default)/\There (((l).getD (j).toNat default)).words mem (((l).getD (j).toNat default)).blk.pc)/\∀i j:Int,0<=i->i<j->j<l.length->(((l).getD (i).toNat default)).blk.pc≠(((l).getD (j).toNat default)).blk.pc
def ajw{p2 f2}{p1:Cac×Unit->Bool}{f1:Cac×Unit->Bool×Unit}(hp1:∀e,e.words.length<1000000000->e.blk.ops.length<1000000000->p1 (e,())=true)(hf1:∀e,e.words.length<1000000000->e.blk.ops.length<1000000000->f1 (e,())=(bp (nH e),()))(U2:atl p2 f2)(l:List Cac)(mem:List Int)(h:ShX l)(hm:mem.length<1000000000):OO.F (p1,f1,p2,f2,()) (l,mem,()) (λy=>y=(bp (BD l mem),())):=by
 have hl:=h.1;dsimp only [OO,gm,qX];simp (disch:=omega) only [RR,CAB];refine⟨λg=>by rw [aR (λe=>by have:=e.1;omega)],λg=> ?_⟩;refine ak (λ(y:List Cac×List Int×Int×Unit)=>y.1=l/\y.2.1=mem/\0<=y.2.2.1/\y.2.2.1<=l.length/\(∀j:Int,0<=j->j<y.2.2.1->nH ((l).getD (j).toNat default)/\There (((l).getD (j).toNat default)).words mem (((l).getD (j).toNat default)).blk.pc)/\∀i j:Int,0<=i->i<j->j<y.2.2.1->(((l).getD (i).toNat default)).blk.pc≠(((l).getD (j).toNat default)).blk.pc) (λy=>(l.length-y.2.2.1).toNat) ⟨rfl,rfl,by simp,by simp,λj h0 h1=>absurd h1 (by simp;omega),λi j h0 h1 h2=>absurd h2 (by simp;omega)⟩ ?_;rintro⟨(l':List Cac),(mem':List Int),(i:Int),⟨⟩⟩ hI;dsimp only at hI ⊢;obtain⟨rfl,rfl,i1,i2,i3,i4⟩:=hI;obtain⟨a1,a2⟩:=h.at i.toNat;by_cases c:i<l'.length
 .by_cases d:nH ((l').getD (i).toNat default)
  .have pc:=d.2.1.pc;have dl:=d.1;have d8:=d.2.1.ln;have P2:=U2.hp _ mem' _ (show(((l').getD (i).toNat default)).words.length<1000 by omega) hm pc.1 ah;have H2:=U2.hf _ mem' _ (show(((l').getD (i).toNat default)).words.length<1000 by omega) hm pc.1 ah;simp (disch:=omega) only [RR,CAB,c,hp1 _ a1 a2,hf1 _ a1 a2,aU d,P2,H2];refine⟨i1,i1,i1,λe=> ?_,λe=> ?_⟩
   .rw [aR];intro q;rw [aU (q.2.1 i i1 c).2]at e;cases e
   have th:=aN.1 e;refine ak (λ(y:List Cac×List Int×Int×Int×Unit)=>y.1=l'/\y.2.1=mem'/\y.2.2.1=i/\0<=y.2.2.2.1/\y.2.2.2.1<=i/\∀j:Int,0<=j->j<y.2.2.2.1->(((l').getD (j).toNat default)).blk.pc≠(((l').getD (i).toNat default)).blk.pc) (λy=>(i-y.2.2.2.1).toNat) ⟨rfl,rfl,rfl,by simp,i1,λj h0 h1=>absurd h1 (by simp;omega)⟩ ?_;rintro⟨(u:List Cac),(v:List Int),(w:Int),(k:Int),⟨⟩⟩ hJ;dsimp only at hJ ⊢;obtain⟨rfl,rfl,rfl,k1,k2,k3⟩:=hJ;simp (disch:=omega) only [RR];refine⟨λg1=>⟨k1,ah,i1,c,λq=> ?_,λq=>⟨⟨ah,ah,λj j0 j1=> ?_⟩,ah⟩⟩,λg1=>⟨⟨ah,ah,λj j0 j1=> ?_,λa b b0 b1 b2=> ?_⟩,ah⟩⟩
   .rw [aR];exact λz=>z.2.2 k w k1 g1 c q
   .by_cases y:j<k
    .exact k3 j j0 y
    .rw [show j=k by omega];exact q
   .by_cases y:j<w
    .exact i3 j j0 y
    .rw [show j=w by omega];exact⟨d,th⟩
   .by_cases y:b<w
    .exact i4 a b b0 b1 y
    .rw [show b=w by omega];exact k3 a b0 ah
  .simp (disch:=omega) only [RR,CAB,c,hp1 _ a1 a2,hf1 _ a1 a2,aR d];refine⟨i1,?_,λe=>e.1.elim⟩;rw [aR];exact λz=>d (z.2.1 i i1 c).1
 .simp (disch:=omega) only [RR,CAB,c];rw [aU];exact⟨ah,λj j0 j1=>i3 j j0 ah,λa b a0 a1 a2=>i4 a b a0 a1 ah⟩
def EGB:(∀e:Eng,iR .eng 0 .i64 e=e.aM.regs)/\(∀e:Eng,bV .eng 1 e=e.aM.pc)/\(∀e:Eng,iR .eng 2 .i64 e=e.aM.mem)/\(∀e:Eng,bV .eng 3 e=e.aM.save)/\(∀e:Eng,Km .eng 4 e=e.aM.kg)/\(∀e:Eng,Km .eng 5 e=e.aM.waits)/\(∀e:Eng,bV .eng 6 e=e.aM.halt)/\(∀e:Eng,iR .eng 7 .i64 e=e.aM.ins)/\(∀e:Eng,iR .eng 8 .i64 e=e.aM.outs)/\(∀e:Eng,bV .eng 9 e=e.aM.count)/\(∀e:Eng,iR .eng 10 .cac e=e.cache)/\(∀e:Eng,iR .eng 11 .cer e=e.dS):=
 ⟨λ_=>rfl,λ_=>rfl,λ_=>rfl,λ_=>rfl,λ_=>rfl,λ_=>rfl,λ_=>rfl,λ_=>rfl,λ_=>rfl,λ_=>rfl,λ_=>rfl,λ_=>rfl⟩
theorem MKM:∀m:bq,Co.mk .aM (m.regs,m.pc,m.mem,m.save,m.kg,m.waits,m.halt,m.ins,m.outs,m.count,())=m:=λ_=>rfl
def Uz(e:Eng):Prop:=MOK e.aM/\BD e.cache e.aM.mem/\Fe e.dS
structure apM(pp:List Cac×List Int×Unit->Bool)(ff:List Cac×List Int×Unit->Bool×Unit):Prop where
 hp:∀l mem,ShX l->mem.length<1000000000->pp (l,mem,())=true
 hf:∀l mem,ShX l->mem.length<1000000000->ff (l,mem,())=(bp (BD l mem),())
def ajx{p1 f1 p2 f2 p3 f3}(U1:apM p1 f1)(U2:ao7 p2 f2)(U3:apt p3 f3)(e:Eng)(h1:MSh e.aM)(h2:ShX e.cache)(h3:ShD e.dS):PN.F (p1,f1,p2,f2,p3,f3,()) (e,()) (λy=>y=(bp (Uz e),())):=by
 obtain⟨hp1,hf1⟩:=U1;obtain⟨hp2,hf2⟩:=U2;obtain⟨hp3,hf3⟩:=U3;have mM:=MKM;have P1:=hp1 _ e.aM.mem h2 h1.2.1;have H1:=hf1 _ e.aM.mem h2 h1.2.1;dsimp only [PN,gm,BZ]at*;simp (disch:=omega) only [RR,EGB,mM,hp3 _ h1,hf3 _ h1,P1,H1,hp2 _ h3,hf2 _ h3];unfold Uz;rw [gY,gY,Bool.and_assoc]
abbrev e12(e : Eng) : List Int × Int × Int × Bool × Bool × Int × List Int × List Int × Int × List Cer × List Int × List Cac × Unit := (e.aM.regs, e.aM.pc, e.aM.save, e.aM.kg, e.aM.waits, e.aM.halt, e.aM.ins, e.aM.outs, e.aM.count, e.dS, e.aM.mem, e.cache, ())
structure auM(pp:List Cac×List Int×Unit->Bool)(ff:List Cac×List Int×Unit->List Cac×Unit):Prop where
 hp:∀l mem,ShK l->mem.length<1000000000->pp (l,mem,())=true
 hf:∀l mem,ShK l->mem.length<1000000000->ff (l,mem,())=(l.filter (Cj mem),())
def apN(e:Cac)(pc:Int):ahO.F () (e,pc,()) (λy=>y=(decide (e.blk.pc=pc),pc,())):=by
 dsimp only [ahO,gm];simp (disch:=omega) only [RR,CAB]
def ajy{p1:Cac×Int×Unit->Bool}{f1:Cac×Int×Unit->Bool×Int×Unit}(hp1:∀e pc,p1 (e,pc,())=true)(hf1:∀e pc,f1 (e,pc,())=(decide (e.blk.pc=pc),pc,()))(l:List Cac)(pc:Int)(h:l.length<1000000000):PE.F (p1,f1,()) (l,pc,()) (λy=>y.2.1=pc/\FC l pc y.1):=by
 dsimp only [PE,gm];refine ak (λ(y:List Cac×Int×Int×Int×Unit)=>y.1=l/\y.2.1=l.length/\0<=y.2.2.1/\y.2.2.1<=l.length/\y.2.2.2.1=pc/\∀j:Int,0<=j->j<y.2.2.1->(((l).getD (j).toNat default)).blk.pc≠pc) (λy=>(l.length-y.2.2.1).toNat) ⟨rfl,rfl,by simp,by simp,rfl,λj h0 h1=>absurd h1 (by simp;omega)⟩ ?_;rintro⟨(l:List Cac),(n:Int),(i:Int),(pc:Int),⟨⟩⟩ hI;dsimp only at hI ⊢;obtain⟨rfl,rfl,h1,h2,rfl,h3⟩:=hI;simp (disch:=omega) only [RR,CAB,hp1,hf1];refine⟨λg=>⟨h1,g,λe=>Or.inr ⟨h1,g,e,h3⟩,λe=>⟨⟨ah,ah,λj j0 j1=> ?_⟩,ah⟩⟩,λg=>Or.inl ⟨rfl,λj j0 j1=>h3 j j0 ah⟩⟩;by_cases c:j<i
 .exact h3 j j0 c
 .rw [show j=i by omega];exact e
def atm{p1:List Cac×Int×Unit->Bool}{f1:List Cac×Int×Unit->Int×Int×Unit}(hp1:∀l pc,l.length<1000000000->p1 (l,pc,())=true)(hf1:∀l pc,l.length<1000000000->(f1 (l,pc,())).2.1=pc/\FC l pc (f1 (l,pc,())).1)(l:List Cac)(pc:Int)(h:l.length<1000000000):ahP.F (p1,f1,()) (l,pc,()) (λy=>FC l pc y.1):=by
 dsimp only [ahP,gm];simp (disch:=omega) only [RR,hp1 _ pc h];exact(hf1 _ pc h).2
structure atn(pp:List Cac×Int×Unit->Bool)(ff:List Cac×Int×Unit->Int×Unit):Prop where
 hp:∀l pc,l.length<1000000000->pp (l,pc,())=true
 hf:∀l pc,l.length<1000000000->FC l pc (ff (l,pc,())).1
def lvS(m:bq)(b:Blk)(n h:Int):bq:={m with pc:=b.pc+n,count:=m.count+n,halt:=h}
def evR(m:bq)(b:Blk)(o:IOp)(x y:Int):bq×Int×Bool:=
 if o.kind=7 then({m with outs:=m.outs++ [x]},0,false)
 else if o.kind=6 then({m with ins:=m.ins.drop 1},m.ins.getD 0 0,false)
 else if 64<=x then(lvS m b o.at_ 3,0,true)
 else if o.kind=4 then(m,((m.mem).getD (x).toNat default),false)
 else if b.pc+o.at_<x/\x<b.pc+b.len then(lvS {m with mem:=m.mem.set x.toNat y} b (o.at_+1) 0,0,true)
 else({m with mem:=m.mem.set x.toNat y},0,false)
noncomputable def iq (mem:List Int):Nat->Int->List Ins
 | 0,_=> []
 | n+1,p=>if bp (p<64/\(Wo ((mem).getD (p).toNat default)/\dO (jm ((mem).getD (p).toNat default)))/\(jm ((mem).getD (p).toNat default)).op≠0)=true then(if bp (11<=(jm ((mem).getD (p).toNat default)).op/\(jm ((mem).getD (p).toNat default)).op<=13)=true then [jm ((mem).getD (p).toNat default)]else jm ((mem).getD (p).toNat default)::iq mem n (p+1))else []
noncomputable def findF (m:bq):List Ins:=if bp (MOK m)=true then iq m.mem 8 m.pc else []
def zm(mem:List Int):∀(n:Nat) (p:Int),(iq mem n p).length<=n/\(0< (iq mem n p).length->p+(iq mem n p).length<=64)/\
  ∀i:Nat,i< (iq mem n p).length->dO ((iq mem n p).getD i default)/\((iq mem n p).getD i default).op≠0/\(11<=((iq mem n p).getD i default).op/\((iq mem n p).getD i default).op<=13->i+1=(iq mem n p).length)
 | 0,_=>⟨Nat.le_refl _,λh=>absurd h (by simp [iq]),λi hi=>absurd hi (by simp [iq])⟩
 | n+1,p=>by
  obtain⟨r1,r2,r3⟩:=zm mem n (p+1);unfold iq;split
  .rename_i g;obtain⟨g1,⟨g2,g3⟩,g4⟩:=aN.1 g;split
   .refine⟨by simp,λ_=>by simp;omega,λi hi=> ?_⟩;have:i=0:=by simp at hi;omega
    subst this;exact⟨g3,g4,λ_=>by simp⟩
   .rename_i e;have e':=fT.1 (by simpa using e);refine⟨by simp;omega,λ_=> ?_,λi hi=> ?_⟩
    .by_cases z:0< (iq mem n (p+1)).length
     .have:=r2 z;simp;omega
     .simp;omega
    .cases i with
     | zero=>exact⟨g3,g4,λq=>absurd q e'⟩
     | succ i=>
      have:=r3 i (by simpa using hi);exact⟨this.1,this.2.1,λq=>by have:=this.2.2 q;simp;omega⟩
  .exact⟨by simp,λh=>absurd h (by simp),λi hi=>absurd hi (by simp)⟩
structure auN(pp:bq×Unit->Bool)(ff:bq×Unit->List Ins×Unit):Prop where
 hp:∀m,MSh m->pp (m,())=true
 hf:∀m,MSh m->ff (m,())=(findF m,())
structure auO(pp:List Cac×Cac×Unit->Bool)(ff:List Cac×Cac×Unit->List Cac×Unit):Prop where
 hp:∀l e,ShK l->e.words.length<1000->e.blk.ops.length<1000000->pp (l,e,())=true
 hf:∀l e,ShK l->e.words.length<1000->e.blk.ops.length<1000000->ff (l,e,())=(apK l e,())
structure TuD(b l:List Int)(p:Int)(y:List Int×Int×List Int×Unit):Prop where
 b:y.1=b
 p:p<=y.2.1/\y.2.1<=p+20
 l:By y.2.2.1/\y.2.2.1.length<=l.length+1
structure AsD(b:List Int)(p:Int)(y:Bool×List Int×Int×List Int×Unit):Prop where
 b:y.2.1=b
 p:p<=y.2.2.1/\y.2.2.1<=p+2000000
 l:By y.2.2.2.1/\y.2.2.2.1.length<200000000
structure SJ(b:Blk)(m0:bq)(i:Nat)(S:MS):Prop where
 r:RJ b m0 i S
 p:S.m.pc=m0.pc
 h:S.m.halt=m0.halt
 c:S.m.count=m0.count
abbrev yS(b : Blk)(i : Int)(S : MS) : Int × Blk × Int × Int × Bool × Bool × Int × Int × Int × Int × Bool × Bool × Int × List Int × Int × List Int × List Int × List Int × List Int × Unit := (i, b, 0, 0, false, false, 0, 0, S.m.pc, S.m.save, S.m.kg, S.m.waits, S.m.halt, S.m.ins, S.m.count, S.vals, S.m.regs, S.m.mem, S.m.outs, ())
def SIv(b:Blk)(m0:bq)(y:Int×Blk×Int×Int×Bool×Bool×Int×Int×Int×Int×Bool×Bool×Int×List Int×Int×List Int×List Int×List Int×List Int×Unit):Prop:=∃(i:Nat) (S:MS),i<=b.ops.length/\SJ b m0 i S/\y=yS b i S
def SIv.next{b:Blk}{m0:bq}{i:Nat}{S:MS}{o:IOp}{y:Int×Blk×Int×Int×Bool×Bool×Int×Int×Int×Int×Bool×Bool×Int×List Int×Int×List Int×List Int×List Int×List Int×Unit}(h:SJ b m0 i S)(hi:i<b.ops.length)(ho:b.ops.getD i default=o)(k1:o.kind=1->0<=o.k/\o.k<=65535)
  (c1:¬((o.kind=4\/o.kind=5)/\64<=vx S o)) (c2:¬(o.kind=5/\b.pc+o.at_+1<=vx S o/\vx S o<=b.pc+b.len-1))
  (e:y=yS b ((i:Int)+1) ⟨mM S o,S.vals++ [mV S o],false⟩):SIv b m0 y/\(b.ops.length-y.1).toNat< (b.ops.length- (i:Int)).toNat:=by
 subst e;have k:=aeb (s:=S) o;exact⟨⟨i+1,_,hi,⟨h.r.next hi ho k1 c1 c2,k.1.trans h.p,k.2.1.trans h.h,k.2.2.trans h.c⟩,rfl⟩,by dsimp only;omega⟩
theorem EGM:∀e:Eng,Co.mk .eng (e.aM.regs,e.aM.pc,e.aM.mem,e.aM.save,e.aM.kg,e.aM.waits,e.aM.halt,e.aM.ins,e.aM.outs,e.aM.count,e.cache,e.dS,())=e:=λ_=>rfl
structure FnS(e:Eng)(y:Eng×Int×Bool):Prop where
 l:y.1.cache.length<=e.cache.length+4/\(e.cache.length<=4->y.1.cache.length<=4)/\(e.dS.length<=3->y.1.dS.length<=3)
 w:(∀x∈e.cache,0<x.words.length)->∀x∈y.1.cache,0<x.words.length
 k:ShK y.1.cache
 c:ShC y.1.dS
 r:y.2.1<y.1.cache.length
 b:0<=y.2.1->iK (((y.1.cache).getD (y.2.1).toNat default)).blk/\(((y.1.cache).getD (y.2.1).toNat default)).blk.pc=e.aM.pc
abbrev e13(y : Eng × Bool) : List Int × Int × Int × Bool × Bool × Int × List Int × List Int × Int × Bool × List Cer × List Int × List Cac × Unit := (y.1.aM.regs, y.1.aM.pc, y.1.aM.save, y.1.aM.kg, y.1.aM.waits, y.1.aM.halt, y.1.aM.ins, y.1.aM.outs, y.1.aM.count, y.2, y.1.dS, y.1.aM.mem, y.1.cache, ())
structure apO(pp:Eng×Unit->Bool)(ff:Eng×Unit->Bool×Unit):Prop where
 hp:∀e,MSh e.aM->ShX e.cache->ShD e.dS->pp (e,())=true
 hf:∀e,MSh e.aM->ShX e.cache->ShD e.dS->ff (e,())=(bp (Uz e),())
structure EgS(e:Eng)(n:Nat):Prop where
 m:MSh e.aM
 o:e.aM.outs.length<=n
 k:ShK e.cache
 c:ShC e.dS
 kl:e.cache.length<=4
 cl:e.dS.length<=3
 w:∀x∈e.cache,0<x.words.length
 v:∀x∈e.cache,0<=x.blk.pc/\x.blk.pc<e.aM.mem.length
def EnD(b:List Int)(p:Int)(y:List Int×Int×Int×Bool×Bool×Int×List Int×List Int×Int×List Int×Int×List Cer×List Int×List Cac×Unit):Prop:=
 ∃(e:Eng) (p':Int),EgS e 1000/\p<=p'/\p'<=p+30000000/\y=(e.aM.regs,e.aM.pc,e.aM.save,e.aM.kg,e.aM.waits,e.aM.halt,e.aM.ins,e.aM.outs,e.aM.count,b,p',e.dS,e.aM.mem,e.cache,())
def ShK.nil:ShK []:=⟨by decide,λx hx=>by cases hx⟩
def ShC.nil:ShC []:=⟨by decide,λx hx=>by cases hx⟩
def KpD(b:List Int)(p:Int)(y:List Int×List Int×Int×List Cac×Unit):Prop:=
 ∃(e:Eng) (p':Int),EgS e 1000/\p<=p'/\p'<=p+30000000/\y=(e.aM.mem,b,p',e.cache,())
structure auP(pp:List Int×Int×Unit->Bool)(ff:List Int×Int×Unit->List Int×Int×Int×Bool×Bool×Int×List Int×List Int×Int×List Int×Int×List Cer×List Int×List Cac×Unit):Prop where
 hp:∀b p,Bt b->0<=p->p<300000000->pp (b,p,())=true
 hf:∀b p,Bt b->0<=p->p<300000000->EnD b p (ff (b,p,()))
structure auQ(pp:List Int×Int×Unit->Bool)(ff:List Int×Int×Unit->List Int×List Int×Int×List Cac×Unit):Prop where
 hp:∀b p,Bt b->0<=p->p<100000000->pp (b,p,())=true
 hf:∀b p,Bt b->0<=p->p<100000000->KpD b p (ff (b,p,()))
def PuD(y:List Cac×Cac×Unit):Prop:=ShK y.1/\y.2.1.words.length<1000/\y.2.1.blk.ops.length<1000000/\y.2.1.blk.pc<=1000000
def ShK.add{l:List Cac}(h:ShK l)(n:l.length<999){x:Cac}(h1:x.words.length<1000)(h2:x.blk.ops.length<1000000)(h3:x.blk.pc<=1000000):ShK (l++ [x]):=by
 refine⟨by rw [List.length_append,List.length_singleton];omega,λc hc=> ?_⟩;rw [List.mem_append,List.mem_singleton]at hc;rcases hc with g | rfl
 .exact h.2 c g
 .exact⟨h1,h2,h3⟩
structure auR(pp:Cac×Cac×Unit->Bool)(ff:Cac×Cac×Unit->Bool×Cac×Unit):Prop where
 hp:∀e x,pp (e,x,())=true
 hf:∀e x,ff (e,x,())=(decide (e.blk.pc=x.blk.pc),x,())
structure Li(P:Cac->Bool)(l L:List Cac)(i j:Int):Prop where
 i0:0<=i
 ij:i<=j
 jl:j<=l.length
 len:L.length=l.length
 a:L.take i.toNat=(l.take j.toNat).filter P
 b:∀k:Nat,j<=k->L.getD k default=l.getD k default
def Li.keep{P:Cac->Bool}{l L:List Cac}{i j:Int}(h:Li P l L i j)(hj:j<l.length)(hp:P ((L).getD (j).toNat default)=true):Li P l (L.set i.toNat ((L).getD (j).toNat default)) (i+1) (j+1):=by
 obtain⟨i0,ij,jl,len,a,b⟩:=h;have ej:((L).getD (j).toNat default)=((l).getD (j).toNat default):=b j.toNat ah;rw [ej]at hp ⊢;refine⟨ah,ah,ah,by rw [List.length_set];exact len,?_,λk hk=> ?_⟩
 .rw [Ck (d:=default) ah hj,if_pos hp,<-a,show(i+1).toNat=i.toNat+1 by omega,List.take_succ_eq_append_getElem (by rw [List.length_set];omega),List.getElem_set_self,List.take_set_of_le (Nat.le_refl _)]
 .rw [<-b k ah,List.getD_eq_getElem?_getD,List.getD_eq_getElem?_getD,List.getElem?_set_ne ah,<-List.getD_eq_getElem?_getD]
def Li.skip{P:Cac->Bool}{l L:List Cac}{i j:Int}(h:Li P l L i j)(hj:j<l.length)(hp:P ((L).getD (j).toNat default)=false):Li P l L i (j+1):=by
 obtain⟨i0,ij,jl,len,a,b⟩:=h;have ej:((L).getD (j).toNat default)=((l).getD (j).toNat default):=b j.toNat ah;rw [ej]at hp;refine⟨ah,ah,ah,len,?_,λk hk=>b k ah⟩;rw [Ck (d:=default) ah hj,if_neg (by rw [hp];decide),List.append_nil,a]
def Li.fin{P:Cac->Bool}{l L:List Cac}{i j:Int}(h:Li P l L i j)(hj:¬j<l.length):L.take i.toNat=l.filter P:=by
 rw [h.a,List.take_of_length_le (by have:=h.jl;omega)]
structure auS(pp:List Cac×Unit->Bool)(ff:List Cac×Unit->List Cac×Unit):Prop where
 hp:∀l,ShK l->pp (l,())=true
 hf:∀l,ShK l->ff (l,())=(l,())
structure auT(pp:List Cac×Cac×Unit->Bool)(ff:List Cac×Cac×Unit->List Cac×Unit):Prop where
 hp:∀l e,ShK l->e.words.length<1000->e.blk.ops.length<1000000->e.blk.pc<=1000000->pp (l,e,())=true
 hf:∀l e,ShK l->e.words.length<1000->e.blk.ops.length<1000000->e.blk.pc<=1000000->ff (l,e,())=(apK l e,())
structure auU(pp:List Cac×List Cac×Unit->Bool)(ff:List Cac×List Cac×Unit->Bool×Unit):Prop where
 hp:∀a b,ShK a->pp (a,b,())=true
 hf:∀a b,ShK a->ff (a,b,())=(bp (a=b),())
structure auV(pp:List Int×Unit->Bool)(ff:List Int×Unit->List Cac×Cac×Unit):Prop where
 hp:∀c,By c->c.length<1000000000->pp (c,())=true
 hf:∀c,By c->c.length<1000000000->PuD (ff (c,()))
def aah(a b:List Int)(ha:a.length<1000000000):OX.F () (a,b,()) (λy=>y=(bp (a=b),())):=by
 dsimp only [OX,gm];simp (disch:=omega) only [RR];refine⟨λh=> ?_,λh=> ?_⟩
 .rw [aR (λe=>h (by rw [e]))]
 have hl:a.length=b.length:=by omega
 refine ak (λ(y:List Int×List Int×Int×Int×Unit)=>y.1=a/\y.2.1=b/\y.2.2.1=a.length/\0<=y.2.2.2.1/\y.2.2.2.1<=a.length/\All y.2.2.2.1 (λi=>a.getD i.toNat default=b.getD i.toNat default)) (λy=>(a.length-y.2.2.2.1).toNat) ⟨rfl,rfl,rfl,by simp,by simp,All.zero⟩ ?_;rintro⟨(l1:List Int),(l2:List Int),(n:Int),(i:Int),⟨⟩⟩ hI;dsimp only at hI ⊢;obtain⟨rfl,rfl,rfl,h1,h2,h3⟩:=hI;simp (disch:=omega) only [RR];refine⟨λh4=>⟨h1,h4,h1,ah,λh5=> ?_,λh5=>⟨⟨ah,ah,h3.snoc h5⟩,ah⟩⟩,λh4=> ?_⟩
 .rw [aR];intro e;rw [e]at h5;exact h5 rfl
 .rw [aU (jy hl (h3.le ah))]
def GQ{w mem:List Int}{pc:Int}(p0:0<=pc)(hw:0<w.length):There w mem pc↔pc+w.length<=mem.length/\(mem.take (pc+w.length).toNat).drop pc.toNat=w:=by
 have gt:∀k:Nat,k<w.length->pc+w.length<=mem.length->((mem.take (pc+w.length).toNat).drop pc.toNat).getD k default=((mem).getD (pc+k).toNat default):=λk hk h=>by
  rw [List.getD_eq_getElem?_getD,List.getElem?_drop,List.getElem?_take_of_lt ah,<-List.getD_eq_getElem?_getD,show pc.toNat+k=(pc+k).toNat by omega]
 refine⟨λh=> ?_,λ⟨h,e⟩ k k0 k1=>⟨ah,?_⟩⟩
 .have e:=(h ((w.length:Int)-1) ah ah).1;have hl:pc+w.length<=mem.length:=by omega
  refine⟨hl,List.ext_getElem (by rw [List.length_drop,List.length_take];omega) λn h1 h2=> ?_⟩;have:=(h n ah ah).2;rw [<-gt n h2 hl,getD_lt h1,Int.toNat_natCast,getD_lt h2]at this;exact this
 .have:=gt k.toNat ah h;rw [e,show pc+((k.toNat:Nat):Int)=pc+k by omega]at this;exact this.symm
def ato{p1 f1 p2 f2}(U1:Y1 p1 f1)(U2:Y32 p2 f2)(e:Cac)(mem:List Int)(hw:e.words.length<1000000000)(hm:mem.length<1000000000):ahH.F (p1,f1,p2,f2,()) (e,mem,()) (λy=>y=(Cj mem e,())):=by
 dsimp only [ahH,gm];simp (disch:=omega) only [RR,CAB,U1.hp,U1.hf];refine⟨λz=> ?_,λz=> ?_⟩
 .refine Prod.ext ?_ rfl;show decide (0<=e.blk.pc)=Cj mem e;rw [Bool.eq_iff_iff,decide_eq_true_eq,Cj,aN];exact⟨λh=>⟨h,λk k0 k1=>by omega⟩,λh=>h.1⟩
 .by_cases c:inB e.blk.pc 0 (mem.length-e.words.length)=true
  .obtain⟨c0,c1⟩:=bM.1 c;have w:IntKind.i64.wrap (e.blk.pc+e.words.length)=e.blk.pc+e.words.length:=w64 ah ah;have dl:(List.drop e.blk.pc.toNat (List.take (e.blk.pc+e.words.length).toNat mem)).length<1000000000:=by rw [List.length_drop,List.length_take];omega
   rw [w,c,U2.hf _ _ dl];refine⟨Or.inr c0,Or.inr ah,Or.inr ah,Or.inr (U2.hp _ _ dl),?_⟩;rw [Bool.true_and];refine Prod.ext (iU ?_) rfl;rw [GQ c0 ah];exact⟨λh=>⟨c0,ah,h⟩,λh=>h.2.2⟩
  .have c':inB e.blk.pc 0 (mem.length-e.words.length)=false:=by simpa using c
   rw [c'];refine⟨Or.inl rfl,Or.inl rfl,Or.inl rfl,Or.inl rfl,?_⟩;rw [Bool.false_and];refine Prod.ext (aR λh=>c (bM.2 ⟨h.1,?_⟩)).symm rfl;have:=((GQ h.1 ah).1 h.2).1;omega
structure atp(pp:Cac×List Int×Unit->Bool)(ff:Cac×List Int×Unit->Bool×Unit):Prop where
 hp:∀e mem,e.words.length<1000000000->mem.length<1000000000->pp (e,mem,())=true
 hf:∀e mem,e.words.length<1000000000->mem.length<1000000000->ff (e,mem,())=(Cj mem e,())
structure auW(pp:Cac×List Int×Unit->Bool)(ff:Cac×List Int×Unit->Bool×List Int×Unit):Prop where
 hp:∀e mem,e.words.length<1000->mem.length<1000000000->e.blk.pc<=1000000->pp (e,mem,())=true
 hf:∀e mem,e.words.length<1000->mem.length<1000000000->e.blk.pc<=1000000->ff (e,mem,())=(!Cj mem e,mem,())
structure EoD(b:List Int)(p:Int)(y:Eng×List Int×Int×Unit):Prop where
 m:MSh y.1.aM
 o:y.1.aM.outs.length<=2000
 k:ShK y.1.cache
 kl:y.1.cache.length<=10
 c:ShC y.1.dS
 cl:y.1.dS.length<=10
 b:y.2.1=b
 lo:p<=y.2.2.1
 hi:y.2.2.1<=p+40000000
def ShK.set{l:List Cac}(h:ShK l)(i:Nat){x:Cac}(h1:x.words.length<1000)(h2:x.blk.ops.length<1000000)(h3:x.blk.pc<=1000000):ShK (l.set i x):=by
 refine⟨by rw [List.length_set];exact h.1,λc hc=> ?_⟩;rcases List.mem_or_eq_of_mem_set hc with g | rfl
 .exact h.2 c g
 .exact⟨h1,h2,h3⟩
def afo:∀w:List Int,iG w=GN w
 | []=>rfl
 | w::r=>by unfold iG GN;rw [afo r]
def nH.e{x:Cac}(h:nH x):aaf x:=by
 unfold nH at h;rw [afo]at h;exact⟨h.1,h.2.1,h.2.2⟩
def There.c{x:Cac}{mem:List Int}(p:0<=x.blk.pc)(h:There x.words mem x.blk.pc):apI x mem:=⟨p,λt ht=>h t ah ah⟩
structure KpE(l:List Cac)(cs:List Cer):Prop where
 n:l.length<=4
 r:∀x∈l,nH x
 u:l.Pairwise λa b=>a.blk.pc≠b.blk.pc
 p:Fe cs
structure TuL(e:Eng)(q:List Int)(left:Int)(x:Eng)(k:Nat):Prop where
 ok:Uz x
 k1:1<=k
 kl:(k:Int)<=left
 run:ajt q k e.aM=x.aM
 cnt:(k:Int)=x.aM.count-e.aM.count+(if 2<=x.aM.halt then 1 else 0)
def SF(l:List Cac)(mem:List Int)(j:Int):Prop:=Cj mem ((l).getD (j).toNat default)=true/\nH ((l).getD (j).toNat default)/\FC l (((l).getD (j).toNat default)).blk.pc j
def SG(l:List Cac)(mem:List Int):BD l mem↔l.length<=4/\∀j:Int,0<=j->j<l.length->SF l mem j:=by
 refine⟨λ⟨h1,h2,h3⟩=>⟨h1,λj j0 j1=> ?_⟩,λ⟨h1,h2⟩=>⟨h1,λj j0 j1=> ?_,λi j i0 ij j1 e=> ?_⟩⟩
 .obtain⟨a,b⟩:=h2 j j0 j1;exact⟨aU ⟨a.2.1.pc.1,b⟩,a,Or.inr ⟨j0,j1,rfl,λi i0 i1=>h3 i j i0 i1 j1⟩⟩
 .obtain⟨a,b,_⟩:=h2 j j0 j1;exact⟨b,(aN.1 (show bp _=true from a)).2⟩
 .obtain⟨_,_,c⟩:=h2 j ah j1;rcases c with⟨c,_⟩ | ⟨_,_,_,c⟩
  .omega
  .exact c i i0 ij e
def afp(l:List Int)(m:Int)(h:l.length<9223372036854775808)(h0:0<=m)(h1:m<=1048576):Xm.F () (l,m,()) (λy=>y=(szL l.length m,())):=by
 dsimp only [Xm,gm];simp (disch:=omega) only [RR];unfold szL;refine⟨λg=>by rw [if_pos g],λg=>by rw [if_neg ah]⟩
def aai(l:List Int)(h:l.length<1000000000):OP.F () (l,()) (λy=>y=(l,())):=by
 dsimp only [OP,gm];simp (disch:=omega) only [RR];refine⟨ah,ah,ak (λ(y:List Int×Int×List Int×Unit)=>y.1=l/\0<=y.2.1/\y.2.1<=l.length/\y.2.2.1=l.take y.2.1.toNat++List.replicate (l.length-y.2.1.toNat) 0) (λy=>(l.length-y.2.1).toNat) ⟨rfl,by simp,by simp,rfl⟩ ?_⟩;rintro⟨(l:List Int),(i:Int),(o:List Int),⟨⟩⟩ hI;dsimp only at hI ⊢;obtain⟨rfl,h1,h2,rfl⟩:=hI;have ml:=Dh (l:=l) (z:=(0:Int)) (i:=i.toNat) ah;simp (disch:=omega) only [RR,ml];refine⟨λg=>⟨ah,ah,ah,ah,ah,ah,⟨ah,ah,set_mid h1 g rfl⟩,ah⟩,λg=> ?_⟩;rw [List.take_of_length_le ah,show l.length-i.toNat=0 by omega];simp
def afq(a b:List Int)(hlen:a.length<1000000000):YC.F () (a,b,()) (λy=>y=(bp (a=b),())):=by
 dsimp only [YC,gm];simp (disch:=omega) only [RR];refine⟨λh=> ?_,λh=> ?_⟩
 .rw [aR (λe=>h (by rw [e]))]
 have hl:a.length=b.length:=by omega
 refine ak (λ(y:List Int×List Int×Int×Unit)=>y.1=a/\y.2.1=b/\0<=y.2.2.1/\y.2.2.1<=a.length/\All y.2.2.1 (λi=>a.getD i.toNat default=b.getD i.toNat default)) (λy=>(a.length-y.2.2.1).toNat) ⟨rfl,rfl,by simp,by simp,All.zero⟩ ?_;rintro⟨(l1:List Int),(l2:List Int),(i:Int),⟨⟩⟩ hI;dsimp only at hI ⊢;obtain⟨rfl,rfl,h1,h2,h3⟩:=hI;simp (disch:=omega) only [RR,aN,fT];refine⟨λh4=>⟨ah,ah,ah,ah,λh5=> ?_,λh5=>⟨⟨ah,ah,h3.snoc h5⟩,ah⟩⟩,λh4=> ?_⟩
 .rw [aR];intro e;rw [e]at h5;exact h5 rfl
 .rw [aU (jy hl (h3.le ah))]
def szC(q:Cac)(m:Int):Int:=if szL q.words.length m<0 then-1 else szL q.blk.ops.length (szL q.words.length m)
def ShJ(q:Cac):Prop:=q.words.length<9223372036854775808/\q.blk.ops.length<9223372036854775808
def Qn{q:Cac}{m:Int}(h1:m<=1048576):(szC q m<0->szC q m= -1)/\(0<=szC q m->q.words.length<1000000000/\q.blk.ops.length<1000000000/\szC q m<=1048576):=by
 unfold szC;have s1:=iW (n:=q.words.length) h1;split
 .exact⟨λ_=>rfl,λ_=>by omega⟩
 .have g:=s1.2 ah;have s2:=iW (n:=q.blk.ops.length) g.2;exact⟨s2.1,λk=>by have:=s2.2 k;omega⟩
structure apP(pp:List Int×Int×Unit->Bool)(ff:List Int×Int×Unit->Int×Unit):Prop where
 hp:∀l m,l.length<9223372036854775808->0<=m->m<=1048576->pp (l,m,())=true
 hf:∀l m,l.length<9223372036854775808->0<=m->m<=1048576->ff (l,m,())=(szL l.length m,())
theorem apQ{p1 f1 p2 f2}(U1:apP p1 f1)(U2:ape p2 f2)(q:Cac)(m:Int)(h:ShJ q)(h0:0<=m)(h1:m<=1048576):Xp.F (p1,f1,p2,f2,()) (q,m,()) (λy=>y=(szC q m,())):=by
 obtain⟨hp1,hf1⟩:=U1;obtain⟨hp2,hf2⟩:=U2;have mB:∀c:Blk,Co.mk .blk (c.pc,c.len,c.ops,c.fin,c.x,c.y,c.k,())=c:=λ_=>rfl
 dsimp only [Xp,gm,qX,List.cons_append,List.nil_append,List.map_cons,List.map_nil]at*;have s1:=iW (n:=q.words.length) h1;simp (disch:=omega) only [RR,CAB,mB,hp1 q.words m h.1 h0 h1,hf1 q.words m h.1 h0 h1];unfold szC;refine⟨λg=>by rw [if_pos g],λg=> ?_⟩;rw [if_neg ah];obtain⟨u1,u2⟩:=s1.2 ah;have g:0<=szL q.words.length m:=by omega
 have s2:=iW (n:=q.blk.ops.length) u2;simp (disch:=omega) only [RR,mB,hp2 q.blk _ h.2 g u2,hf2 q.blk _ h.2 g u2];exact λg=>by rw [s2.1 g]
def BF:List Cac->Int->Int
 | [],m=>m
 | q::l,m=>if szC q m<0 then-1 else BF l (szC q m)
def aaj(l:List Cac){i:Nat}(h:l.length<=i)(m:Int):BF (l.drop i) m=m:=by rw [List.drop_eq_nil_of_le h];rfl
def UA(l:List Cac){i:Nat}(h:i<l.length)(m:Int):BF (l.drop i) m=if szC (l.getD i default) m<0 then-1 else BF (l.drop (i+1)) (szC (l.getD i default) m):=by
 rw [List.drop_eq_getElem_cons h,getD_lt h];rfl
def SH:∀(l:List Cac) (m:Int),m<=1048576->(BF l m<0->m<0\/BF l m= -1)/\(0<=BF l m->∀q∈l,q.words.length<1000000000/\q.blk.ops.length<1000000000)
 | [],m,_=>⟨λh=>Or.inl h,λ_ q hq=>by cases hq⟩
 | q::l,m,h=>by
  have s:=Qn (q:=q) h;rw [BF];split
  .exact⟨λ_=>Or.inr rfl,λg=>by omega⟩
  .have g:=s.2 ah;have ih:=SH l (szC q m) g.2.2;refine⟨λk=> ?_,λk c hc=> ?_⟩
   .rcases ih.1 k with e | e
    .omega
    .exact Or.inr e
   .rcases List.mem_cons.1 hc with rfl | hc
    .exact⟨g.1,g.2.1⟩
    .exact ih.2 k c hc
def Fu(l:List Cac)(m:Int):Int:=if m-l.length<0 then-1 else BF l (m-l.length)
def apR{p1:Cac×Int×Unit->Bool}{f1:Cac×Int×Unit->Int×Unit}(hp1:∀q m,ShJ q->0<=m->m<=1048576->p1 (q,m,())=true)(hf1:∀q m,ShJ q->0<=m->m<=1048576->f1 (q,m,())=(szC q m,()))(l:List Cac)(m:Int)(h:l.length<9223372036854775808/\∀q∈l,ShJ q)(h0:0<=m)(h1:m<=1048576):Xq.F (p1,f1,()) (l,m,()) (λy=>y=(Fu l m,())):=by
 obtain⟨hl,hq⟩:=h;dsimp only [Xq,gm];simp (disch:=omega) only [RR];unfold Fu;refine⟨λg=>by rw [if_pos g],λg=> ?_⟩;rw [if_neg ah];refine ak (λ(y:List Cac×Int×Int×Unit)=>y.1=l/\0<=y.2.1/\y.2.1<=1048576/\0<=y.2.2.1/\y.2.2.1<=l.length/\BF l (m-l.length)=BF (l.drop y.2.2.1.toNat) y.2.1) (λy=>(l.length-y.2.2.1).toNat) ⟨rfl,by dsimp only;omega,by dsimp only;omega,by simp,by simp,rfl⟩ ?_;rintro⟨(l:List Cac),(k:Int),(i:Int),⟨⟩⟩ hI;dsimp only at hI ⊢;obtain⟨rfl,k1,k2,i1,i2,e⟩:=hI;rw [e];have A:i<l.length->ShJ (((l).getD (i).toNat default)):=λc=>hq _ (cO i1 c)
 by_cases c:i<l.length
 .have s:=Qn (q:=((l).getD (i).toNat default)) k2;rw [UA l ah];simp (disch:=omega) only [RR,c,hp1 _ k (A c) k1 k2,hf1 _ k (A c) k1 k2];refine⟨i1,λg=>by rw [if_pos g],λg=>⟨⟨ah,by have:=s.2 ah;omega,ah,ah,?_⟩,ah⟩⟩;rw [if_neg ah,show(i+1).toNat=i.toNat+1 by omega]
 .simp (disch:=omega) only [RR,c,aaj l (show l.length<=i.toNat by omega)]
def SK:∀(l:List Cac) (m:Int),m<=1048576->BF l m<=1048576
 | [],m,h=>h
 | q::l,m,h=>by
  rw [BF];split
  .decide
  .exact SK l _ ((Qn h).2 ah).2.2
def SL{l:List Cac}{m:Int}(h1:m<=1048576):(Fu l m<0->Fu l m= -1)/\(0<=Fu l m->ShX l/\Fu l m<=1048576):=by
 unfold Fu;split
 .exact⟨λ_=>rfl,λ_=>by omega⟩
 .have s:=SH l (m-l.length) ah;exact⟨λk=>(s.1 k).resolve_left ah,λk=>⟨⟨ah,s.2 k⟩,SK l _ ah⟩⟩
def Lj{l:List Cer}{m:Int}(h1:m<=1048576):(Ci l m<0->Ci l m= -1)/\(0<=Ci l m->ShD l):=by
 unfold Ci;split
 .exact⟨λ_=>rfl,λ_=>by omega⟩
 .have s:=SA l (m-l.length) ah;exact⟨λk=>(s.1 k).resolve_left ah,λk=>⟨ah,s.2 k⟩⟩
structure apS(pp:List Int×Unit->Bool)(ff:List Int×Unit->List Int×Unit):Prop where
 hp:∀l,l.length<1000000000->pp (l,())=true
 hf:∀l,l.length<1000000000->ff (l,())=(l,())
theorem ajz{p1 f1 p2 f2}(U1:apS p1 f1)(U2:Y99 p2 f2)(q:Cac)(h1:q.words.length<1000000000)(h2:q.blk.ops.length<1000000000):OV.F (p1,f1,p2,f2,()) (q,()) (λy=>y=cE q):=by
 have mE:∀c:Blk,Co.mk .blk (c.pc,c.len,c.ops,c.fin,c.x,c.y,c.k,())=c:=λ_=>rfl
 dsimp only [OV,gm,qX];simp (disch:=omega) only [RR,CAB,mE,U1.hp _ h1,U1.hf _ h1,U2.hp _ h2,U2.hf _ h2]
def ajA{p1:Cac×Unit->Bool}{f1:Cac×Unit->Int×Int×Int×Int×Int×Int×List Int×List IOp×Unit}(hp1:∀q,q.words.length<1000000000->q.blk.ops.length<1000000000->p1 (q,())=true)(hf1:∀q,q.words.length<1000000000->q.blk.ops.length<1000000000->f1 (q,())=cE q)(l:List Cac)(h:ShX l):OW.F (p1,f1,()) (l,()) (λy=>y=(l,())):=by
 have hl:=h.1;have mC:=CAM;dsimp only [OW,gm,qX,List.cons_append,List.nil_append,List.map_cons,List.map_nil]at*;simp (disch:=omega) only [RR];refine⟨ah,ah,ak (λ(y:List Cac×Int×List Cac×Unit)=>y.1=l/\0<=y.2.1/\y.2.1<=l.length/\y.2.2.1=l.take y.2.1.toNat++List.replicate (l.length-y.2.1.toNat) ⟨[],⟨0,0,[],0,0,0,0⟩⟩) (λy=>(l.length-y.2.1).toNat) ⟨rfl,by simp,by simp,rfl⟩ ?_⟩;rintro⟨(l:List Cac),(i:Int),(o:List Cac),⟨⟩⟩ hI;dsimp only at hI ⊢;obtain⟨rfl,i1,i2,rfl⟩:=hI;have a:=h.at i.toNat;have ml:=Dh (l:=l) (z:=(⟨[],⟨0,0,[],0,0,0,0⟩⟩:Cac)) (i:=i.toNat) ah;simp (disch:=omega) only [RR,hp1 _ a.1 a.2,hf1 _ a.1 a.2,mC,ml];refine⟨λg=>⟨ah,ah,ah,ah,ah,ah,⟨ah,ah,set_mid i1 g rfl⟩,ah⟩,λg=> ?_⟩;rw [List.take_of_length_le ah,show l.length-i.toNat=0 by omega];simp
theorem apT{p1 f1 p2 f2}(U1:Y32 p1 f1)(U2:Y94 p2 f2)(a b:Cac)(h1:a.words.length<1000000000)(h2:a.blk.ops.length<1000000000):YG.F (p1,f1,p2,f2,()) (a,b,()) (λy=>y=(bp (a=b),())):=by
 have mE:∀c:Blk,Co.mk .blk (c.pc,c.len,c.ops,c.fin,c.x,c.y,c.k,())=c:=λ_=>rfl
 dsimp only [YG,gm,qX];simp (disch:=omega) only [RR,CAB,mE,U1.hp _ b.words h1,U1.hf _ b.words h1,U2.hp _ b.blk h2,U2.hf _ b.blk h2,aN,fT];refine⟨λe=> ?_,λe=>⟨λf=> ?_,λf=> ?_⟩⟩
 .rw [aR (λg=>e (by rw [g]))]
 .rw [aR (λg=>f (by rw [g]))]
 .rw [aU (by cases a;cases b;dsimp only at e f;rw [e,f])]
def apU{p1:Cac×Cac×Unit->Bool}{f1:Cac×Cac×Unit->Bool×Unit}(hp1:∀a b,a.words.length<1000000000->a.blk.ops.length<1000000000->p1 (a,b,())=true)(hf1:∀a b,a.words.length<1000000000->a.blk.ops.length<1000000000->f1 (a,b,())=(bp (a=b),()))(a b:List Cac)(hD:ShX a):YH.F (p1,f1,()) (a,b,()) (λy=>y=(bp (a=b),())):=by
 have hlen:=hD.1;dsimp only [YH,gm];simp (disch:=omega) only [RR];refine⟨λh=> ?_,λh=> ?_⟩
 .rw [aR (λe=>h (by rw [e]))]
 have hl:a.length=b.length:=by omega
 refine ak (λ(y:List Cac×List Cac×Int×Unit)=>y.1=a/\y.2.1=b/\0<=y.2.2.1/\y.2.2.1<=a.length/\All y.2.2.1 (λi=>a.getD i.toNat default=b.getD i.toNat default)) (λy=>(a.length-y.2.2.1).toNat) ⟨rfl,rfl,by simp,by simp,All.zero⟩ ?_;rintro⟨(l1:List Cac),(l2:List Cac),(i:Int),⟨⟩⟩ hI;dsimp only at hI ⊢;obtain⟨rfl,rfl,h1,h2,h3⟩:=hI;have A:=hD.at i.toNat;simp (disch:=omega) only [RR,hp1 _ (((l2).getD (i).toNat default)) A.1 A.2,hf1 _ (((l2).getD (i).toNat default)) A.1 A.2,aN,fT];refine⟨λh4=>⟨ah,ah,ah,ah,λh5=> ?_,λh5=>⟨⟨ah,ah,h3.snoc h5⟩,ah⟩⟩,λh4=> ?_⟩
 .rw [aR];intro e;rw [e]at h5;exact h5 rfl
 .rw [aU (jy hl (h3.le ah))]
theorem atq{p1 f1}(U1:apD p1 f1)(w:List Int)(h:w.length<1000000000):ahG.F (p1,f1,()) (w,()) (λy=>y=(iG w,())):=by
 have e:∀x y z u:Int,Co.mk .ins (x,y,z,u,())=⟨x,y,z,u⟩:=λ_ _ _ _=>rfl
 dsimp only [ahG,gm];simp only [RR];refine ak (λ(y:List Int×Int×Int×List Ins×Unit)=>y.1=w/\y.2.1=w.length/\0<=y.2.2.1/\y.2.2.1<=w.length/\y.2.2.2.1=(w.take y.2.2.1.toNat).map jm/\∀x∈w.take y.2.2.1.toNat,Wo x/\dO (jm x)) (λy=>(w.length-y.2.2.1).toNat) ⟨rfl,rfl,by simp,by simp,by simp,by simp⟩ ?_;rintro⟨(w:List Int),(n:Int),(i:Int),(o:List Ins),⟨⟩⟩ hI;dsimp only at hI ⊢;obtain⟨rfl,rfl,h1,h2,rfl,h3⟩:=hI;simp (disch:=omega) only [RR,U1.hp,U1.hf];have tl:=List.length_take_le' i.toNat w;refine⟨λg=>⟨h1,g,?_⟩,λg=> ?_⟩
 .have dr:w=w.take i.toNat++(w.getD i.toNat default::w.drop (i.toNat+1)):=by
   rw [getD_lt ah,<-List.drop_eq_getElem_cons ah,List.take_append_drop]
  unfold tkI;by_cases c:Wo (w.getD i.toNat default)/\dO (jm (w.getD i.toNat default))
  .rw [if_pos (aU c)];simp (disch:=omega) only [RR,e];have ts:=bK (d:=default) h1 g (l:=w) rfl;have ml:((w.take i.toNat).map jm).length=i.toNat:=by rw [List.length_map,List.length_take];omega
   refine⟨by rw [ml];simp only [List.length_cons,List.length_nil];omega,⟨ah,ah,by rw [<-ts,List.map_append];rfl,λx hx=> ?_⟩,ah⟩;rw [<-ts,List.mem_append,List.mem_singleton]at hx;exact hx.elim (h3 x) (λq=>q▸c)
  .rw [if_neg (by rw [aR c];decide)];simp (disch:=omega) only [RR]
   conv=>rhs;rw [dr]
   rw [uW _ _ h3,iG,if_neg (by rw [aR c];decide),List.append_nil]
   done
 .rw [List.take_of_length_le ah]at h3 ⊢;have:=uW w [] h3;rw [List.append_nil]at this;rw [this];simp [iG]
theorem apV{p1 f1 p2 f2 p3 f3 p4 f4 p5 f5 p6 f6}(U1:atf p1 f1)(U2:apz p2 f2)(U3:apL p3 f3)(U4:atp p4 f4)(U5:atn p5 f5)(U6:Y96 p6 f6)(l:List Cac)(mem:List Int)(h:ShX l)(hm:mem.length<1000000000):YB.F (p1,f1,p2,f2,p3,f3,p4,f4,p5,f5,p6,f6,()) (l,mem,()) (λy=>y=(bp (BD l mem),())):=by
 have mE:∀c:Blk,Co.mk .blk (c.pc,c.len,c.ops,c.fin,c.x,c.y,c.k,())=c:=λ_=>rfl
 have mC:=CAM;have hl:=h.1;dsimp only [YB,gm,qX];refine ak (λ(y:List Cac×List Int×List Cac×Int×Int×Unit)=>y.1=l/\y.2.1=mem/\y.2.2.1=l/\y.2.2.2.1=l.length/\0<=y.2.2.2.2.1/\y.2.2.2.2.1<=l.length/\∀j:Int,0<=j->j<y.2.2.2.2.1->SF l mem j) (λy=>(l.length-y.2.2.2.2.1).toNat) ⟨rfl,rfl,rfl,rfl,by simp,by simp,λj h0 h1=>absurd h1 (by simp;omega)⟩ ?_;rintro⟨(l0:List Cac),(mem':List Int),(l':List Cac),(n:Int),(i:Int),⟨⟩⟩ hI;dsimp only at hI ⊢;obtain⟨rfl,rfl,rfl,rfl,i1,i2,i3⟩:=hI;obtain⟨a1,a2⟩:=h.at i.toNat;have tl:=Jl (((l').getD (i).toNat default)).words;have P3:=U3.hp (((l').getD (i).toNat default)).words a1;have H3:=U3.hf (((l').getD (i).toNat default)).words a1;have P4:=U4.hp ((l').getD (i).toNat default) mem' a1 hm;have H4:=U4.hf ((l').getD (i).toNat default) mem' a1 hm;have P2:=U2.hp (((l').getD (i).toNat default)).blk.pc (iG (((l').getD (i).toNat default)).words) ah;have H2:=U2.hf (((l').getD (i).toNat default)).blk.pc (iG (((l').getD (i).toNat default)).words) ah;have P1:=U1.hp (((l').getD (i).toNat default)).blk.pc (iG (((l').getD (i).toNat default)).words) ah;have H1:=U1.hf (((l').getD (i).toNat default)).blk.pc (iG (((l').getD (i).toNat default)).words) ah;have lw:((lower (((l').getD (i).toNat default)).blk.pc (iG (((l').getD (i).toNat default)).words)).ops.length:Int)<=5000:=Lh _ _;have P6:=U6.hp (lower (((l').getD (i).toNat default)).blk.pc (iG (((l').getD (i).toNat default)).words)) (((l').getD (i).toNat default)).blk ah a2;have H6:=U6.hf (lower (((l').getD (i).toNat default)).blk.pc (iG (((l').getD (i).toNat default)).words)) (((l').getD (i).toNat default)).blk ah a2;have P5:=U5.hp l' (((l').getD (i).toNat default)).blk.pc hl;have F5:=U5.hf l' (((l').getD (i).toNat default)).blk.pc hl;generalize hk:(f5 (l',(((l').getD (i).toNat default)).blk.pc,())).1=k at F5;by_cases c:i<l'.length
 .simp (disch:=omega) only [RR,CAB,mE,c,P1,H1,P2,H2,P3,H3,P4,H4,P5,hk,P6,H6];have key:SF l' mem' i↔((Cj mem' ((l').getD (i).toNat default)=true/\((iG (((l').getD (i).toNat default)).words).length:Int)=(((l').getD (i).toNat default)).words.length)/\bp (qC (((l').getD (i).toNat default)).blk.pc (iG (((l').getD (i).toNat default)).words))=true)/\chk (lower (((l').getD (i).toNat default)).blk.pc (iG (((l').getD (i).toNat default)).words)) (((l').getD (i).toNat default)).blk=true/\k=i:=
   ⟨λ⟨o1,⟨o2,o3,o4⟩,o5⟩=>⟨⟨⟨o1,ah⟩,aU o3⟩,o4,FC.one F5 o5⟩,λ⟨⟨⟨o1,o2⟩,o3⟩,o4,o5⟩=>⟨o1,⟨ah,aN.1 o3,o4⟩,o5▸F5⟩⟩
  have bad:¬SF l' mem' i->((false,()):Bool×Unit)=(bp (BD l' mem'),()):=λn=>by rw [aR (λz=>n (((SG l' mem').1 z).2 i i1 c))]
  refine⟨i1,λg=>⟨λe=>bad (λo=> ?_),λe=>⟨⟨ah,ah,λj j0 j1=> ?_⟩,ah⟩⟩,λg=>⟨g,bad (λo=> ?_),λz=>z.1.elim⟩⟩
  .obtain⟨⟨⟨o1,o2⟩,o3⟩,o4,o5⟩:=key.1 o;rcases e with(((e | e) | e) | e) | e
   .rw [o1]at e;cases e
   .exact e o2
   .rw [o3]at e;cases e
   .rw [o4]at e;cases e
   .exact e o5
  .by_cases z:j<i
   .exact i3 j j0 z
   .rw [show j=i by omega];exact key.2 ⟨e.1.1,e.1.2,e.2⟩
  .obtain⟨⟨⟨o1,o2⟩,o3⟩,_⟩:=key.1 o;rcases g with(e | e) | e
   .rw [o1]at e;cases e
   .exact e o2
   .rw [o3]at e;cases e
 .simp (disch:=omega) only [RR,c];refine Prod.ext (Bool.eq_iff_iff.2 ?_) rfl;rw [decide_eq_true_eq,aN,SG];exact⟨λg=>⟨ah,λj j0 j1=>i3 j j0 ah⟩,λg=>by have:=g.1;omega⟩
structure atr(pp:List Cac×List Cac×Unit->Bool)(ff:List Cac×List Cac×Unit->Bool×Unit):Prop where
 hp:∀a b,ShX a->pp (a,b,())=true
 hf:∀a b,ShX a->ff (a,b,())=(bp (a=b),())
structure att(pp:List Cac×Int×Unit->Bool)(ff:List Cac×Int×Unit->Int×Unit):Prop where
 hp:∀l m,(l.length<9223372036854775808/\∀q∈l,ShJ q)->0<=m->m<=1048576->pp (l,m,())=true
 hf:∀l m,(l.length<9223372036854775808/\∀q∈l,ShJ q)->0<=m->m<=1048576->ff (l,m,())=(Fu l m,())
structure atu(pp:List Cac×Unit->Bool)(ff:List Cac×Unit->List Cac×Unit):Prop where
 hp:∀l,ShX l->pp (l,())=true
 hf:∀l,ShX l->ff (l,())=(l,())
def ShM(m:bq):Prop:=m.regs.length<9223372036854775808/\m.mem.length<9223372036854775808/\m.ins.length<9223372036854775808/\m.outs.length<9223372036854775808
def szM(m:bq)(k:Int):Int:=if szL m.regs.length k<0 then-1 else if szL m.mem.length (szL m.regs.length k)<0 then-1 else if szL m.ins.length (szL m.mem.length (szL m.regs.length k))<0 then-1 else szL m.outs.length (szL m.ins.length (szL m.mem.length (szL m.regs.length k)))
def aak{m:bq}{k:Int}(h1:k<=1048576):(szM m k<0->szM m k= -1)/\(0<=szM m k->MSh m/\szM m k<=1048576):=by
 unfold szM;have s1:=iW (n:=m.regs.length) h1;split
 .exact⟨λ_=>rfl,λ_=>by omega⟩
 have g1:=s1.2 ah;have s2:=iW (n:=m.mem.length) g1.2;split
 .exact⟨λ_=>rfl,λ_=>by omega⟩
 have g2:=s2.2 ah;have s3:=iW (n:=m.ins.length) g2.2;split
 .exact⟨λ_=>rfl,λ_=>by omega⟩
 have g3:=s3.2 ah;have s4:=iW (n:=m.outs.length) g3.2;exact⟨s4.1,λk=>by have:=s4.2 k;exact⟨⟨ah,ah,ah,ah⟩,ah⟩⟩
def aec(e:Eng):Prop:=ShM e.aM/\(e.cache.length<9223372036854775808/\∀x∈e.cache,ShJ x)/\(e.dS.length<9223372036854775808/\∀q∈e.dS,ShI q)
def szE(e:Eng)(k:Int):Int:=if szM e.aM k<0 then-1 else if Fu e.cache (szM e.aM k)<0 then-1 else Ci e.dS (Fu e.cache (szM e.aM k))
abbrev apW(e : Eng) : Int × Int × Bool × Bool × Int × Int × List Int × List Int × List Int × List Int × List Cac × List Cer × Unit := (e.aM.pc, e.aM.save, e.aM.kg, e.aM.waits, e.aM.halt, e.aM.count, e.aM.regs, e.aM.mem, e.aM.ins, e.aM.outs, e.cache, e.dS, ())
def ajB{e:Eng}{k:Int}(h1:k<=1048576):0<=szE e k->MSh e.aM/\ShX e.cache/\ShD e.dS:=by
 unfold szE;have s1:=aak (m:=e.aM) h1;split
 .intro h;omega
 have g1:=s1.2 ah;have s2:=SL (l:=e.cache) g1.2;split
 .intro h;omega
 have g2:=s2.2 ah;exact λh=>⟨g1.1,g2.1,(Lj g2.2).2 h⟩
def ajC{p1 f1}(U1:apP p1 f1)(m:bq)(k:Int)(h:ShM m)(h0:0<=k)(h1:k<=1048576):PG.F (p1,f1,()) (m,k,()) (λy=>y=(szM m k,())):=by
 have s1:=iW (n:=m.regs.length) h1;dsimp only [PG,gm];simp (disch:=omega) only [RR,MRB,U1.hp m.regs k h.1 h0 h1,U1.hf m.regs k h.1 h0 h1];unfold szM;refine⟨λg=>by rw [if_pos g],λg=> ?_⟩;rw [if_neg ah];obtain⟨u1,v1⟩:=s1.2 ah;have g1:0<=szL m.regs.length k:=by omega
 have s2:=iW (n:=m.mem.length) v1;simp (disch:=omega) only [RR,U1.hp m.mem _ h.2.1 g1 v1,U1.hf m.mem _ h.2.1 g1 v1];refine⟨λg=>by rw [if_pos g],λg=> ?_⟩;rw [if_neg ah];obtain⟨u2,v2⟩:=s2.2 ah;have g2:0<=szL m.mem.length (szL m.regs.length k):=by omega
 have s3:=iW (n:=m.ins.length) v2;simp (disch:=omega) only [RR,U1.hp m.ins _ h.2.2.1 g2 v2,U1.hf m.ins _ h.2.2.1 g2 v2];refine⟨λg=>by rw [if_pos g],λg=> ?_⟩;rw [if_neg ah];obtain⟨u3,v3⟩:=s3.2 ah;have g3:0<=szL m.ins.length (szL m.mem.length (szL m.regs.length k)):=by omega
 have s4:=iW (n:=m.outs.length) v3;simp (disch:=omega) only [RR,U1.hp m.outs _ h.2.2.2 g3 v3,U1.hf m.outs _ h.2.2.2 g3 v3];exact λg=>by rw [s4.1 g]
def ajD{p1 f1}(U1:apS p1 f1)(m:bq)(h:MSh m):PO.F (p1,f1,()) (m,()) (λy=>y=m10 m):=by
 dsimp only [PO,gm];simp (disch:=omega) only [RR,MRB,U1.hp _ h.1,U1.hf _ h.1,U1.hp _ h.2.1,U1.hf _ h.2.1,U1.hp _ h.2.2.1,U1.hf _ h.2.2.1,U1.hp _ h.2.2.2,U1.hf _ h.2.2.2]
def apX{p1 f1}(U1:Y32 p1 f1)(a b:bq)(h:MSh a):YQ.F (p1,f1,()) (a,b,()) (λy=>y=(bp (a=b),())):=by
 obtain⟨hp1,hf1⟩:=U1;have no:∀ {p:Prop},¬p->(a=b->p)->((false,()):Bool×Unit)=(bp (a=b),()):=λe h=>by rw [aR (λg=>e (h g))]
 dsimp only [YQ,gm];simp (disch:=omega) only [RR,MRB,hp1 _ b.regs h.1,hf1 _ b.regs h.1,hp1 _ b.mem h.2.1,hf1 _ b.mem h.2.1,hp1 _ b.ins h.2.2.1,hf1 _ b.ins h.2.2.1,hp1 _ b.outs h.2.2.2,hf1 _ b.outs h.2.2.2,aN,fT];refine⟨λe=>no e (λg=>by rw [g]),λatv=>⟨λe=>no e (λg=>by rw [g]),λauX=>⟨λe=>no e (λg=>by rw [g]),λatW=>⟨λe=>no e (λg=>by rw [g]),λatw=>⟨λe=>no (p:=(a.kg==b.kg)=true) (λz=>by rw [z]at e;cases e) (λg=>by rw [g];exact beq_self_eq_true _),λajE=>⟨λe=>no (p:=(a.waits==b.waits)=true) (λz=>by rw [z]at e;cases e) (λg=>by rw [g];exact beq_self_eq_true _),λaed=>⟨λe=>no e (λg=>by rw [g]),λatx=>⟨λe=>no e (λg=>by rw [g]),λaoX=>⟨λe=>no e (λg=>by rw [g]),λaty=>⟨λe=>no e (λg=>by rw [g]),λar8=> ?_⟩⟩⟩⟩⟩⟩⟩⟩⟩⟩;have e4:=eq_of_beq ajE;have e5:=eq_of_beq aed;rw [aU (by cases a;cases b;dsimp only at*;simp_all)]
def apY{p1 f1 p2 f2}(U1:att p1 f1)(U2:as9 p2 f2){p3:bq×Int×Unit->Bool}{f3:bq×Int×Unit->Int×Unit}(hp3:∀m k,ShM m->0<=k->k<=1048576->p3 (m,k,())=true)(hf3:∀m k,ShM m->0<=k->k<=1048576->f3 (m,k,())=(szM m k,()))(e:Eng)(k:Int)(h:aec e)(h0:0<=k)(h1:k<=1048576):YK.F (p1,f1,p2,f2,p3,f3,()) (e,k,()) (λy=>y=(szE e k,())):=by
 obtain⟨hp1,hf1⟩:=U1;obtain⟨hp2,hf2⟩:=U2;have mM:=MKM;have s1:=aak (m:=e.aM) h1;dsimp only [YK,gm,BZ]at*;simp (disch:=omega) only [RR,EGB,mM,hp3 e.aM k h.1 h0 h1,hf3 e.aM k h.1 h0 h1];unfold szE;refine⟨λg=>by rw [if_pos g],λg=> ?_⟩;rw [if_neg ah];obtain⟨u1,v1⟩:=s1.2 ah;have g1:0<=szM e.aM k:=by omega
 have s2:=SL (l:=e.cache) v1;simp (disch:=omega) only [RR,hp1 e.cache _ h.2.1 g1 v1,hf1 e.cache _ h.2.1 g1 v1];refine⟨λg=>by rw [if_pos g],λg=> ?_⟩;rw [if_neg ah];obtain⟨u2,v2⟩:=s2.2 ah;have g2:0<=Fu e.cache (szM e.aM k):=by omega
 have s3:=Lj (l:=e.dS) v2;simp (disch:=omega) only [RR,hp2 e.dS _ h.2.2 g2 v2,hf2 e.dS _ h.2.2 g2 v2];exact λg=>by rw [s3.1 g]
def ajF{p1 f1 p2 f2 p3 f3}(U1:atu p1 f1)(U2:ata p2 f2)(U3:atc p3 f3)(e:Eng)(h1:MSh e.aM)(h2:ShX e.cache)(h3:ShD e.dS):PX.F (p1,f1,p2,f2,p3,f3,()) (e,()) (λy=>y=apW e):=by
 obtain⟨hp1,hf1⟩:=U1;obtain⟨hp2,hf2⟩:=U2;obtain⟨hp3,hf3⟩:=U3;have mM:=MKM;dsimp only [PX,gm,BZ]at*;simp (disch:=omega) only [RR,EGB,mM,hp3 _ h1,hf3 _ h1,hp1 _ h2,hf1 _ h2,hp2 _ h3,hf2 _ h3]
def apZ{p1 f1 p2 f2 p3 f3}(U1:atr p1 f1)(U2:as8 p2 f2)(U3:atg p3 f3)(a b:Eng)(h1:MSh a.aM)(h2:ShX a.cache)(h3:ShD a.dS):YT.F (p1,f1,p2,f2,p3,f3,()) (a,b,()) (λy=>y=(bp (a=b),())):=by
 obtain⟨hp1,hf1⟩:=U1;obtain⟨hp2,hf2⟩:=U2;obtain⟨hp3,hf3⟩:=U3;have no:∀ {p:Prop},¬p->(a=b->p)->((false,()):Bool×Unit)=(bp (a=b),()):=λe h=>by rw [aR (λg=>e (h g))]
 have mM:=MKM;dsimp only [YT,gm,BZ]at*;simp (disch:=omega) only [RR,EGB,mM,hp3 _ b.aM h1,hf3 _ b.aM h1,hp1 _ b.cache h2,hf1 _ b.cache h2,hp2 _ b.dS h3,hf2 _ b.dS h3,aN,fT];refine⟨λe=>no e (λg=>by rw [g]),λe0=>⟨λe=>no e (λg=>by rw [g]),λe1=>⟨λe=>no e (λg=>by rw [g]),λe2=> ?_⟩⟩⟩;rw [aU (by cases a;cases b;dsimp only at e0 e1 e2;rw [e0,e1,e2])]
def ap0{p1 f1 p2 f2 p3 f3}(U1:apM p1 f1)(U2:ao7 p2 f2)(U3:apt p3 f3)(e:Eng)(h1:MSh e.aM)(h2:ShX e.cache)(h3:ShD e.dS):YP.F (p1,f1,p2,f2,p3,f3,()) (e,()) (λy=>y=(bp (Uz e),())):=by
 obtain⟨hp1,hf1⟩:=U1;obtain⟨hp2,hf2⟩:=U2;obtain⟨hp3,hf3⟩:=U3;have mM:=MKM;have P1:=hp1 _ e.aM.mem h2 h1.2.1;have H1:=hf1 _ e.aM.mem h2 h1.2.1;dsimp only [YP,gm,BZ]at*;simp (disch:=omega) only [RR,EGB,mM,hp3 _ h1,hf3 _ h1,P1,H1,hp2 _ h3,hf2 _ h3];unfold Uz;rw [gY,gY,Bool.and_assoc]
def ap1{p1 f1 p5 f5}(U1:apO p1 f1){p2:Eng×Eng×Unit->Bool}{f2:Eng×Eng×Unit->Bool×Unit}(hp2:∀a b,MSh a.aM->ShX a.cache->ShD a.dS->p2 (a,b,())=true)(hf2:∀a b,MSh a.aM->ShX a.cache->ShD a.dS->f2 (a,b,())=(bp (a=b),())){p3:Eng×Int×Unit->Bool}{f3:Eng×Int×Unit->Int×Unit}(hp3:∀e k,aec e->0<=k->k<=1048576->p3 (e,k,())=true)(hf3:∀e k,aec e->0<=k->k<=1048576->f3 (e,k,())=(szE e k,())){p4:Eng×Unit->Bool}{f4:Eng×Unit->Int×Int×Bool×Bool×Int×Int×List Int×List Int×List Int×List Int×List Cac×List Cer×Unit}(hp4:∀e,MSh e.aM->ShX e.cache->ShD e.dS->p4 (e,())=true)(hf4:∀e,MSh e.aM->ShX e.cache->ShD e.dS->f4 (e,())=apW e)(U5:apO p5 f5)(e:Eng)(h:aec e):YU.F (p1,f1,p2,f2,p3,f3,p4,f4,p5,f5,()) (e,()) (λy=>y=(true,())):=by
 obtain⟨hp1,hf1⟩:=U1;obtain⟨hp5,hf5⟩:=U5;have mG:=EGM;dsimp only [YU,gm,BZ]at*;have s:=ajB (e:=e) (k:=1048576) ah;simp (disch:=omega) only [RR,hp3 e 1048576 h ah ah,hf3 e 1048576 h ah ah];intro g;obtain⟨D1,D2,D3⟩:=s ah;simp (disch:=omega) only [RR,mG,hp4 e D1 D2 D3,hf4 e D1 D2 D3,hp5 e D1 D2 D3,hf5 e D1 D2 D3,hp1 e D1 D2 D3,hf1 e D1 D2 D3,hp2 e e D1 D2 D3,hf2 e e D1 D2 D3];simp [bp]
end Go.TX.F
namespace Go.TX
open Go Go.AE
def enters_of{P:Program}{f:FuncId}{fn:Func}{c:Code}(hf:P.funcs[f]? =some fn)(hname:(fn.name== "runtime.NumGoroutine")=false)(hb:fn.body=some c):Enters P f:=by
 intro args w;have h1:fn.name≠ "runtime.NumGoroutine" :=by simpa using hname
 simp [callFunc,hf,h1,hb,mark]
def SN(P:Program):Nat->List Field->Bool
 | _,[]=>true
 | k,f::fs=> !(f.name== "_")&&f.offset==k&& (match P.underlying f.type with | some (.int _)=>true | _=>false)&&SN P (k+1) fs
def SQ{P:Program}(w:World)(d:Nat)(xs ys:List Int)(hl:xs.length=ys.length):∀(fs:List Field) (k:Nat),SN P k fs=true->k+fs.length=xs.length->
  (Op.eqFields (d+1) (xs.map (Value.int .i64)).toArray (ys.map (Value.int .i64)).toArray fs).run P w= .ok (xs.drop k==ys.drop k) w
 | [],k,_,h2=>by
  rw [List.drop_eq_nil_of_le (show xs.length<=k by simp only [List.length_nil]at h2;omega),List.drop_eq_nil_of_le (show ys.length<=k by simp only [List.length_nil]at h2;omega)];simp [Op.eqFields]
 | f::fs,k,h1,h2=>by
  simp only [List.length_cons]at h2;simp only [SN,Bool.and_eq_true,Bool.not_eq_true',beq_eq_false_iff_ne,beq_iff_eq]at h1;obtain⟨⟨⟨n1,n2⟩,n3⟩,n4⟩:=h1;have hk:k<xs.length:=by omega
  have hk':k<ys.length:=by omega
  obtain⟨kd,hu⟩:∃kd,P.underlying f.type=some (.int kd):=by
   cases hu:P.underlying f.type with
   | none=>rw [hu]at n3;cases n3
   | some z=>cases z<;>(first | exact⟨_,rfl⟩ | (rw [hu]at n3;cases n3))
  have pk:P.plainKey f.type=true:=by unfold Program.plainKey;rw [hu]
  have p1:=run_part_plain w pk (xs:=(xs.map (Value.int .i64)).toArray) (off:=f.offset) (v:= .int .i64 xs[k]) (by rw [n2];simp [hk]);have p2:=run_part_plain w pk (xs:=(ys.map (Value.int .i64)).toArray) (off:=f.offset) (v:= .int .i64 ys[k]) (by rw [n2];simp [hk']);have ih:=SQ w d xs ys hl fs (k+1) n4 ah;simp only [Op.eqFields,if_pos n1,Sem.run_bind,p1,p2,Result.andThen_ok,run_equalIn_int w d f.type .i64 kd _ _ hu];have e:(xs.drop k==ys.drop k)=((xs[k]==ys[k])&& (xs.drop (k+1)==ys.drop (k+1))):=by rw [List.drop_eq_getElem_cons hk,List.drop_eq_getElem_cons hk'];rfl
  rw [e];by_cases c:(xs[k]==ys[k])=true
  .rw [c];simp only [Bool.not_true,Bool.false_eq_true,if_false,ih,Bool.true_and]
  .have c2:(xs[k]==ys[k])=false:=by simpa using c
   rw [c2];simp only [Bool.not_false,if_true,Sem.run_pure,Bool.false_and]
def ajG{P:Program}{t:TypeId}{n:Nat}(hu:P.underlying t=some (.struct (P.fieldsOf t)))(hs:P.stoodInHeld t=false)(hg:P.eqGuardType P.depth t=false)(hf:SN P 0 (P.fieldsOf t).toList=true)(hn:(P.fieldsOf t).size=n)(xs ys:List Int)(hx:xs.length=n)(hy:ys.length=n)(w:World):
  (Op.equal t (.agg (xs.map (Value.int .i64)).toArray) (.agg (ys.map (Value.int .i64)).toArray)).run P w= .ok (xs==ys) w/\
  (eqGuard .eql t (.tmp 0) (.tmp 0) (.agg (xs.map (Value.int .i64)).toArray) (.agg (ys.map (Value.int .i64)).toArray)).run P w= .ok () w:=by
 refine⟨?_,run_eqGuard_agg w _ _ _ _ _ _ hg⟩;show(Op.equalIn (9999+1) t _ _).run P w=_;rw [run_equalIn_struct w 9999 t _ _ hu hs,SQ w 9998 xs ys ah _ 0 hf (by rw [Array.length_toList];omega)];rfl
noncomputable def never (s:Sig):Ct aD s:={pre:=λ_=>false,fn:=λ_=>Classical.choice (uM _)}
def kG{E:Tab}{f:FuncId}{s:Sig}(h:Enters E.P f):dN E f (dK (never s)) where
 enters:=h
 calls:=by
  rintro args hh n K ⟨m,vs,h2,h3,h4,h5,cr,h6,h7,h8⟩;exfalso;unfold rz at h6;split at h6
  .split at h6
   .split at h6
    .split at h6
     .cases h6;have:=h7 false (List.mem_append_right _ (List.mem_singleton.2 rfl));cases this
     .cases h6
    .cases h6
   .cases h6
  .cases h6
def entry(W:World):Ctx:={K:=λ_ b=>b<W.heap.size,ν:=λ_=>none,n:=0}
def Qo(W:World):bI (entry W) W []:=
 ⟨λl o h=>(by cases h),λl o l' o' b h=>(by cases h),λf b ⟨l,o,h,_⟩=>(by cases h),λf b h=>h,λb h=>h⟩
def Ll{W W':World}{c':Ctx}{h':Heap}(g:Grow (entry W) W [] c' W' h'):RowKit.Below W.heap.size W W':=
 ⟨g.os,g.tape,g.output,g.size,λk hk=>g.kept k hk λ⟨l,o,h,_⟩=>by cases h⟩
def aee{c:Ctx}{w:World}{v:Value}{r:PV}{N:NM}{b:Bool}(h1:bF c w v r)(h2:PVR N r (.c (.d true (.bool b)))):v= .bool b:=by
 cases h2 with
 | one h=>
  cases h with
  | c h=>
   cases h with
   | d h3 _=>
    subst h3;cases h1 with
    | c _ _ h4=>cases h4 with
     | d _ _ _ h5=>cases h5;rfl
  | agg h=>cases h
end Go.TX
namespace Go.TX
open Go Go.AE Go.ChangeShapes Go.WideShapes Go.ChangeAt
inductive DS:Sh->D->Prop
 | int (k:IntKind) (n:Int):DS (.int k) (.int k n)
 | ops (xs:List IOp):xs.length<9223372036854775808->DS (.rows .iop) (.rows 5 (aL .iop xs))
section
variable {H:Type} (enc:TypeId×Value->H) (P:Program) (W:World)
abbrev tr(fuel:Nat)(t:TypeId)(cs:List Value):Option (DataW H×List MemPlace):=DataW.trod enc P W 0 (λ_=>true) true fuel t cs
abbrev inW(W:World)(p:List MemPlace):Prop:=∀x∈p,x.block<W.heap.size
def CO(s:Sh)(t:TypeId):Prop:=∀fuel cs x,tr enc P W fuel t cs=some x->inW W x.2->∃v d,cs=[v]/\bZ (λb=>b<W.heap.size) W v d/\DS s d
def EO(c:Co)(G:c.den->Prop)(t:TypeId):Prop:=∀fuel cs x,tr enc P W fuel t cs=some x->inW W x.2->∃z:c.den,F2 (bZ (λb=>b<W.heap.size) W) cs (c.row z)/\G z
variable {enc P W}
theorem ajH{k:IntKind}{t:TypeId}(ht:P.underlying t=some (.int k)):CO enc P W (.int k) t:=by
 intro fuel cs x h _;obtain⟨n,rfl,rfl,_⟩:=DataW.trod_int ht h;exact⟨_,_,rfl,.int k n,.int k n⟩
theorem ajI{α β:Type}{R:α->β->Prop}{l:List α}{m:List β}(h:F2 R l m){j:Nat}(a:α)(b:β)(hj:j<m.length):R (l.getD j a) (m.getD j b):=by
 obtain⟨x,h1,h2⟩:=F2.get h (List.getElem?_eq_getElem hj);rw [List.getD_eq_getElem?_getD,h1,List.getD_eq_getElem?_getD,List.getElem?_eq_getElem hj];exact h2
theorem qD{c:Co}{G:c.den->Prop}{t e:TypeId}(ht:P.underlying t=some (.slice e))(hc:P.cellsOf e=c.size)(hs:0<c.size)(hE:EO enc P W c G e){fuel:Nat}{cs:List Value}{x:DataW H×List MemPlace}
  (h:tr enc P W fuel t cs=some x) (hp:inW W x.2):∃v xs,cs=[v]/\bZ (λb=>b<W.heap.size) W v (.rows c.size (aL c xs))/\xs.length<9223372036854775808/\∀z∈xs,G z:=by
 rcases Deep.open_slice ht h with⟨rfl,rfl⟩ | ⟨a,len,cap,m,n,D,Pl,rfl,_,hl,hm,hmm,rfl,hx⟩
 .exact⟨_,[],rfl,.none _ _ _,Nat.zero_lt_of_ne_zero (by decide),λ_ h=>by cases h⟩
 have em:m=cap:=by simpa using hmm
 have each:∀i,i<len->∃q:List Value×c.den,W.cells? 0 (a.add (i*c.size)) c.size=some q.1/\F2 (bZ (λb=>b<W.heap.size) W) q.1 (c.row q.2)/\G q.2:=λi hi=>by
  obtain⟨cs',h1,h2⟩:=hx i ah;obtain⟨z,z1,z2⟩:=hE n cs' _ h2 (λp hp'=>hp p (List.mem_append_right _ (List.mem_flatMap.2 ⟨i,List.mem_range.2 ah,hp'⟩)));exact⟨(cs',z),by rw [<-hc];exact h1,z1,z2⟩
 obtain⟨q,hq⟩:=Deep.choose_lt each;have ml:(maxLen:Nat)=9223372036854775807:=by decide
 refine⟨_,(List.range len).map λi=>(q i).2,rfl,?_,by rw [List.length_map,List.length_range];omega,λz hz=> ?_⟩
 .by_cases h0:len=0
  .subst h0;exact .none _ _ _
  obtain⟨b,off,spot⟩:=a;have cell:∀i j,i<len->j<c.size->W.cell? (((⟨b,off,spot⟩:Addr).add (i*c.size)).add j)=(q i).1[j]? :=λi j hi hj=>(World.cells?_some (hq i hi).1).2.2 j hj
  have ql:∀i,i<len->(q i).1.length=c.size:=λi hi=>(World.cells?_some (hq i hi).1).2.1
  have hspot:spot=none:=by
   have:=cell 0 0 ah hs;rw [List.getElem?_eq_getElem (by rw [ql 0 ah];exact hs)]at this;simpa [Addr.add]using World.cell?_spot this
  subst hspot;have hbW:b<W.heap.size:=hp (.cell b (off+0)) (List.mem_append_left _ (MemPlace.mem_row.2 ⟨0,by rw [hc];exact Nat.mul_pos ah hs,rfl⟩));have len':(aL c ((List.range len).map λi=>(q i).2)).length=len:=by rw [aL,List.length_map,List.length_map,List.length_range]
  have hget:∀i,i<len->(aL c ((List.range len).map λi=>(q i).2)).getD i []=c.row (q i).2:=λi hi=>by
   rw [List.getD_eq_getElem?_getD,aL,List.map_map,List.getElem?_map,List.getElem?_range hi];rfl
  refine .rows b off cap c.size len _ (λi j=>(q i).1.getD j undef) hbW len'.symm hl (λi j hi hj=> ?_) (λi hi=> ?_) (λi j hi hj=> ?_)
  .rw [len']at hi;have:=cell i j hi hj;rw [add_plain,add_plain]at this;rw [this,List.getD_eq_getElem?_getD,List.getElem?_eq_getElem (by rw [ql i hi];exact hj)];rfl
  .rw [len']at hi;rw [hget i hi];exact mF c _
  .rw [len']at hi;unfold gd;rw [hget i hi];exact ajI (hq i hi).2.1 _ _ (by rw [mF];exact hj)
 .obtain⟨i,hi,rfl⟩:=List.mem_map.1 hz;exact(hq i (List.mem_range.1 hi)).2.2
def fsB(P:Program)(tR:Option TypeId):Nat->List Field->List Sh->Bool
 | _,[],[]=>true
 | k,f::fs,s::S=>f.offset==k&&P.cellsOf f.type==1&& (match s with | .int q=>(match P.underlying f.type with | some (.int q')=>decide (q'=q) | _=>false) | .rows .iop=>some f.type==tR | _=>false)&&fsB P tR (k+1) fs S
 | _,_,_=>false
theorem aal{tR:Option TypeId}{k:Nat}{f:Field}{fs:List Field}{s:Sh}{S:List Sh}(h:fsB P tR k (f::fs) (s::S)=true)(hR:∀t,tR=some t->CO enc P W (.rows .iop) t):
  f.offset=k/\P.cellsOf f.type=1/\CO enc P W s f.type/\fsB P tR (k+1) fs S=true:=by
 simp only [fsB,Bool.and_eq_true,beq_iff_eq]at h;obtain⟨⟨⟨h1,h2⟩,h3⟩,h4⟩:=h;refine⟨h1,h2,?_,h4⟩;cases s with
 | int q=>
  dsimp only at h3;split at h3
  .rename_i q' hu;have e:q'=q:=by simpa using h3
   subst e;exact ajH hu
  .cases h3
 | rows c=>
  cases c<;>dsimp only at h3<;>first | (cases h3;done) | skip
  rw [beq_iff_eq]at h3;exact hR _ h3.symm
 | bool=>cases h3
 | str=>cases h3
theorem SX{tR:Option TypeId}(hR:∀t,tR=some t->CO enc P W (.rows .iop) t){cs:List Value}{n:Nat}:∀(fs:List Field) (S:List Sh) (k:Nat) (xs:List (DataW H×List MemPlace)),fsB P tR k fs S=true->xs.length=fs.length->
  (∀(i:Nat) (f:Field),fs[i]? =some f->tr enc P W n f.type ((cs.drop f.offset).take (P.cellsOf f.type))=xs[i]?)->inW W (xs.flatMap (·.2))->cs.length=k+fs.length->
  ∃ds,F2 (bZ (λb=>b<W.heap.size) W) (cs.drop k) ds/\F2 DS S ds
 | [],S,k,xs,h1,_,_,_,h5=>by
  cases S with
  | nil=>exact⟨[],by rw [List.drop_eq_nil_of_le (by simp at h5;omega)];exact .nil,.nil⟩
  | cons s S=>cases h1
 | f::fs,[],k,xs,h1,_,_,_,_=>by cases h1
 | f::fs,s::S,k,[],_,h2,_,_,_=>by cases h2
 | f::fs,s::S,k,y::xs,h1,h2,h3,h4,h5=>by
  obtain⟨a1,a2,a3,a4⟩:=aal h1 hR;have b:=h3 0 f rfl;rw [a1,a2]at b;obtain⟨v,d,e,r1,r2⟩:=a3 n _ y b (λp hp=>h4 p (List.mem_flatMap.2 ⟨y,List.mem_cons_self ..,hp⟩));simp only [List.length_cons]at h5 h2;obtain⟨ds,i1,i2⟩:=SX hR fs S (k+1) xs a4 ah (λi g hg=>h3 (i+1) g hg) (λp hp=>h4 p (by rw [List.flatMap_cons];exact List.mem_append_right _ hp)) ah;have hk:k<cs.length:=by omega
  rw [List.drop_eq_getElem_cons hk]at e ⊢;rw [List.take_succ_cons,List.take_zero]at e;cases e;exact⟨d::ds,.cons r1 i1,.cons r2 i2⟩
theorem SY{t:TypeId}{tR:Option TypeId}{fs:Array Field}{S:List Sh}(ht:P.underlying t=some (.struct fs))(hn:P.cellsOf t=fs.toList.length)(hf:fsB P tR 0 fs.toList S=true)(hR:∀t,tR=some t->CO enc P W (.rows .iop) t){fuel:Nat}{cs:List Value}{x:DataW H×List MemPlace}
  (h:tr enc P W fuel t cs=some x) (hp:inW W x.2):∃ds,F2 (bZ (λb=>b<W.heap.size) W) cs ds/\F2 DS S ds:=by
 obtain⟨xs,n,_,rfl,hl,hlen,hf'⟩:=DataW.trod_struct ht h;exact SX hR fs.toList S 0 xs hf (by rw [hlen,Array.length_toList]) (λi f hi=>hf' i f (by rw [<-Array.getElem?_toList];exact hi)) hp ah
theorem f2c{α β:Type}{R:α->β->Prop}{a:α}{l:List α}{m:List β}(h:F2 R (a::l) m):∃b m',m=b::m'/\R a b/\F2 R l m':=by cases h with | cons h1 h2=>exact⟨_,_,rfl,h1,h2⟩
theorem f2n{α β:Type}{R:α->β->Prop}{m:List β}(h:F2 R [] m):m=[]:=by cases h;rfl
theorem dsi{d:D}(h:DS .i d):∃n,d= .int .i64 n:=by cases h;exact⟨_,rfl⟩
theorem dso{d:D}(h:DS (.rows .iop) d):∃xs:List IOp,d= .rows 5 (aL .iop xs)/\xs.length<9223372036854775808:=by cases h with | ops xs h=>exact⟨xs,rfl,h⟩
theorem ajJ{t:TypeId}{fs:Array Field}(ht:P.underlying t=some (.struct fs))(hn:P.cellsOf t=fs.toList.length)(hf:fsB P none 0 fs.toList [.i,.i,.i,.i,.i]=true):EO enc P W .iop (λ_=>True) t:=by
 intro fuel cs x h hp;obtain⟨ds,h1,h2⟩:=SY ht hn hf (λ_ h=>by cases h) h hp;obtain⟨d0,m0,rfl,e0,h2⟩:=f2c h2;obtain⟨d1,m1,rfl,e1,h2⟩:=f2c h2;obtain⟨d2,m2,rfl,e2,h2⟩:=f2c h2;obtain⟨d3,m3,rfl,e3,h2⟩:=f2c h2;obtain⟨d4,m4,rfl,e4,h2⟩:=f2c h2;obtain rfl:=f2n h2;obtain⟨n0,rfl⟩:=dsi e0;obtain⟨n1,rfl⟩:=dsi e1;obtain⟨n2,rfl⟩:=dsi e2;obtain⟨n3,rfl⟩:=dsi e3;obtain⟨n4,rfl⟩:=dsi e4;exact⟨⟨n0,n1,n2,n3,n4⟩,h1,trivial⟩
theorem ajK{tR t:TypeId}{fs:Array Field}(hr:P.underlying tR=some (.slice t))(ht:P.underlying t=some (.struct fs))(hn:P.cellsOf t=fs.toList.length)(h5:fs.toList.length=5)(hf:fsB P none 0 fs.toList [.i,.i,.i,.i,.i]=true):CO enc P W (.rows .iop) tR:=by
 intro fuel cs x h hp;obtain⟨v,xs,e,r,l,_⟩:=qD (c:= .iop) hr (hn.trans h5) (by decide) (ajJ ht hn hf) h hp;exact⟨v,_,e,r,.ops xs l⟩
abbrev BG(b:Blk):Prop:=b.ops.length<9223372036854775808
theorem ajL{t tR:TypeId}{fs:Array Field}(ht:P.underlying t=some (.struct fs))(hn:P.cellsOf t=fs.toList.length)(hf:fsB P (some tR) 0 fs.toList qX=true)(hR:CO enc P W (.rows .iop) tR):EO enc P W .blk BG t:=by
 intro fuel cs x h hp;obtain⟨ds,h1,h2⟩:=SY ht hn hf (λ_ h=>by cases h;exact hR) h hp;obtain⟨d0,m0,rfl,e0,h2⟩:=f2c h2;obtain⟨d1,m1,rfl,e1,h2⟩:=f2c h2;obtain⟨d2,m2,rfl,e2,h2⟩:=f2c h2;obtain⟨d3,m3,rfl,e3,h2⟩:=f2c h2;obtain⟨d4,m4,rfl,e4,h2⟩:=f2c h2;obtain⟨d5,m5,rfl,e5,h2⟩:=f2c h2;obtain⟨d6,m6,rfl,e6,h2⟩:=f2c h2;obtain rfl:=f2n h2;obtain⟨n0,rfl⟩:=dsi e0;obtain⟨n1,rfl⟩:=dsi e1;obtain⟨xs,rfl,l⟩:=dso e2;obtain⟨n3,rfl⟩:=dsi e3;obtain⟨n4,rfl⟩:=dsi e4;obtain⟨n5,rfl⟩:=dsi e5;obtain⟨n6,rfl⟩:=dsi e6;exact⟨⟨n0,n1,xs,n3,n4,n5,n6⟩,h1,l⟩
abbrev CG(q:Cer):Prop:=q.base.ops.length<9223372036854775808/\q.made.ops.length<9223372036854775808
theorem ajM{t e:TypeId}{f0 f1:Field}(ht:P.underlying t=some (.struct #[f0,f1]))(hn:P.cellsOf t=14)(h0:f0.offset=0/\f0.type=e)(h1:f1.offset=7/\f1.type=e)(he:P.cellsOf e=7)(hE:EO enc P W .blk BG e):EO enc P W .cer CG t:=by
 intro fuel cs x h hp;obtain⟨y0,y1,n,rfl,hl,k0,k1⟩:=trod_struct2 ht h;rw [h0.1,h0.2,he]at k0;rw [h1.1,h1.2,he]at k1;obtain⟨b,b1,b2⟩:=hE _ _ _ k0 (λp q=>hp p (List.mem_append_left _ q));obtain⟨c,c1,c2⟩:=hE _ _ _ k1 (λp q=>hp p (List.mem_append_right _ q));refine⟨⟨b,c⟩,?_,b2,c2⟩;have e:cs=(cs.drop 0).take 7++(cs.drop 7).take 7:=by
  rw [List.drop_zero,List.take_of_length_le (l:=cs.drop 7) (by rw [List.length_drop];omega),List.take_append_drop]
 rw [e];exact b1.append c1
end
theorem aef{c:Ctx}{W:World}(hK:c.K false=λb=>b<W.heap.size){co:Co}{x:co.den}{cs:List Value}(h:F2 (bZ (λb=>b<W.heap.size) W) cs (co.row x)):bF c W (.agg cs.toArray) (.agg ((co.row x).map (.d false))):=by
 refine .agg _ _ ?_;rw [<-hK]at h;generalize co.row x=ds at h
 induction h with
 | nil=>exact .nil
 | cons h1 _ ih=>exact .cons (.d false _ _ h1) ih
theorem ajN{N:NM}(co:Co)(x:co.den):PVR N (.agg ((co.row x).map (.d false))) (.sv false co x):=by
 refine .one (.agg rfl ?_);show F2 (RC N) _ (List.map (TC.d false) (fP (std 0) co x 0 co.fields));rw [<-jE 0 co x];exact F2.Vu (λh=>h) _
end Go.TX
namespace Go.TX
open Go Go.AE Go.ChangeShapes Go.WideShapes Go.ChangeAt
theorem S9{w:World}{a:Addr}{v:Value}(h:w.cell? a=some v):a.block<w.heap.size:=by
 unfold World.cell? at h;cases hb:w.heap[a.block]? with
 | none=>rw [hb]at h;simp at h
 | some o=>exact(Array.getElem?_eq_some_iff.1 hb).1
section
variable {H:Type} {enc:TypeId×Value->H} {P:Program} {W:World} {sp:Nat->Bool} {hd:Bool}
def ap2:DataW H->Bool
 | .lit (.bool b)=>b
 | _=>default
def jm:DataW H->Int
 | .lit (.int _ n)=>n
 | _=>default
def aam:DataW H->ByteArray
 | .lit (.string b)=>⟨b.toArray⟩
 | _=>default
def ajO{α:Type}(f:DataW H->α):DataW H->List α
 | .slice l _=>l.map f
 | _=> []
def ap3:DataW H->Form
 | .agg [a,b,n,s]=>⟨ap2 a,ap2 b,jm n,ajO aam s⟩
 | _=>default
variable (enc P W sp hd) in
def ED(c:Co)(dec:DataW H->c.den)(t:TypeId):Prop:=∀fuel cs x,DataW.trod enc P W 0 sp hd fuel t cs=some x->F2 (bZ (λb=>b<W.heap.size) W) cs (c.row (dec x.1))
theorem ap4{α β:Type}{R:α->β->Prop}{l:List α}{m:List β}(h:F2 R l m){j:Nat}(a:α)(b:β)(hj:j<m.length):R (l.getD j a) (m.getD j b):=by
 obtain⟨x,h1,h2⟩:=F2.get h (List.getElem?_eq_getElem hj);rw [List.getD_eq_getElem?_getD,h1,List.getD_eq_getElem?_getD,List.getElem?_eq_getElem hj];exact h2
theorem afr{c:Co}{dec:DataW H->c.den}{t e:TypeId}(ht:P.underlying t=some (.slice e))(hc:P.cellsOf e=c.size)(hs:0<c.size)(hE:ED enc P W sp hd c dec e){fuel:Nat}{cs:List Value}{x:DataW H×List MemPlace}
  (h:DataW.trod enc P W 0 sp hd fuel t cs=some x):∃v,cs=[v]/\bZ (λb=>b<W.heap.size) W v (.rows c.size (aL c (ajO dec x.1))):=by
 rcases Deep.open_slice ht h with⟨rfl,rfl⟩ | ⟨a,len,cap,m,n,D,Pl,rfl,_,hl,hm,hmm,rfl,hx⟩
 .exact⟨_,rfl,.none _ _ _⟩
 have lm:len<=m:=by rw [hmm];split<;>omega
 have each:∀i,i<len->∃q:List Value,W.cells? 0 (a.add (i*c.size)) c.size=some q/\F2 (bZ (λb=>b<W.heap.size) W) q (c.row (dec (D i))):=λi hi=>by
  obtain⟨cs',h1,h2⟩:=hx i ah;exact⟨cs',by rw [<-hc];exact h1,hE n cs' _ h2⟩
 obtain⟨q,hq⟩:=Deep.choose_lt each;refine⟨_,rfl,?_⟩;by_cases h0:len=0
 .subst h0;exact .none _ _ _
 obtain⟨b,off,spot⟩:=a;have cell:∀i j,i<len->j<c.size->W.cell? (((⟨b,off,spot⟩:Addr).add (i*c.size)).add j)=(q i)[j]? :=λi j hi hj=>(World.cells?_some (hq i hi).1).2.2 j hj
 have ql:∀i,i<len->(q i).length=c.size:=λi hi=>(World.cells?_some (hq i hi).1).2.1
 have c0:=cell 0 0 ah hs;rw [List.getElem?_eq_getElem (by rw [ql 0 ah];exact hs)]at c0;have hspot:spot=none:=by simpa [Addr.add]using World.cell?_spot c0
 subst hspot;have hbW:b<W.heap.size:=by have:=S9 c0;simpa [Addr.add]using this
 have e0:ajO dec (.slice ((List.range len).map D) ((List.range (m-len)).map λj=>D (len+j)))=(List.range len).map λi=>dec (D i):=by show((List.range len).map D).map dec=_;rw [List.map_map];rfl
 dsimp only;rw [e0];have len':(aL c ((List.range len).map λi=>dec (D i))).length=len:=by rw [aL,List.length_map,List.length_map,List.length_range]
 have hget:∀i,i<len->(aL c ((List.range len).map λi=>dec (D i))).getD i []=c.row (dec (D i)):=λi hi=>by
  rw [List.getD_eq_getElem?_getD,aL,List.map_map,List.getElem?_map,List.getElem?_range hi];rfl
 refine .rows b off cap c.size len _ (λi j=>(q i).getD j undef) hbW len'.symm hl (λi j hi hj=> ?_) (λi hi=> ?_) (λi j hi hj=> ?_)
 .rw [len']at hi;have:=cell i j hi hj;rw [add_plain,add_plain]at this;rw [this,List.getD_eq_getElem?_getD,List.getElem?_eq_getElem (by rw [ql i hi];exact hj)];rfl
 .rw [len']at hi;rw [hget i hi];exact mF c _
 .rw [len']at hi;unfold gd;rw [hget i hi];exact ap4 (hq i hi).2 _ _ (by rw [mF];exact hj)
theorem ajP{t:TypeId}(ht:P.underlying t=some .string):ED enc P W sp hd .str aam t:=by
 intro fuel cs x h;obtain⟨s,rfl,rfl,_⟩:=DataW.trod_string ht h;have e:aam (.lit (.string s.data.toList):DataW H)=s:=by unfold aam;simp
 dsimp only;rw [e];exact .cons (.str s) .nil
theorem aeg{t tR tB tI tS:TypeId}{f0 f1 f2 f3:Field}(ht:P.underlying t=some (.struct #[f0,f1,f2,f3]))(hn:P.cellsOf t=4)(o:f0.offset=0/\f1.offset=1/\f2.offset=2/\f3.offset=3)(y:f0.type=tB/\f1.type=tB/\f2.type=tI/\f3.type=tR)
  (hB:P.underlying tB=some .bool) (hI:P.underlying tI=some (.int .i64)) (hR:P.underlying tR=some (.slice tS)) (hS:P.underlying tS=some .string) (k:P.cellsOf tB=1/\P.cellsOf tI=1/\P.cellsOf tR=1/\P.cellsOf tS=1):ED enc P W sp hd .form ap3 t:=by
 intro fuel cs x h;obtain⟨xs,n,rfl,rfl,hl,hx,hf⟩:=DataW.trod_struct ht h;rw [hn]at hl;obtain⟨o0,o1,o2,o3⟩:=o;obtain⟨y0,y1,y2,y3⟩:=y;obtain⟨k0,k1,k2,k3⟩:=k
 match cs,hl with
 | [v0,v1,v2,v3],_=>
  match xs,hx with
  | [x0,x1,x2,x3],_=>
   have g0:=hf 0 f0 rfl;have g1:=hf 1 f1 rfl;have g2:=hf 2 f2 rfl;have g3:=hf 3 f3 rfl;rw [y0,o0,k0]at g0;rw [y1,o1,k0]at g1;rw [y2,o2,k1]at g2;rw [y3,o3,k2]at g3;obtain⟨b0,e0,rfl⟩:=DataW.trod_bool hB (show _=some x0 from g0);obtain⟨b1,e1,rfl⟩:=DataW.trod_bool hB (show _=some x1 from g1);obtain⟨n2,e2,rfl,_⟩:=DataW.trod_int hI (show _=some x2 from g2);obtain⟨v,e3,r⟩:=afr (c:= .str) (dec:=aam) hR k3 (by decide) (ajP hS) (show _=some x3 from g3);cases e0;cases e1;cases e2;cases e3;exact .cons (.bool _) (.cons (.bool _) (.cons (.int _ _) (.cons r .nil)))
end
end Go.TX
namespace Go.TX
open Go Go.AE Go.ChangeShapes Go.WideShapes Go.ChangeAt
abbrev KG(x:Cac):Prop:=x.words.length<9223372036854775808/\x.blk.ops.length<9223372036854775808
abbrev MG(m:bq):Prop:=m.regs.length<9223372036854775808/\m.mem.length<9223372036854775808/\m.ins.length<9223372036854775808/\m.outs.length<9223372036854775808
abbrev NG(e:Eng):Prop:=MG e.aM/\(e.cache.length<9223372036854775808/\∀x∈e.cache,KG x)/\(e.dS.length<9223372036854775808/\∀q∈e.dS,CG q)
section
variable {H:Type} {enc:TypeId×Value->H} {P:Program} {W:World}
theorem aan{t:TypeId}(ht:P.underlying t=some (.int .i64)):EO enc P W .i64 (λ_=>True) t:=by
 intro fuel cs x h _;obtain⟨n,rfl,rfl,_⟩:=DataW.trod_int ht h;exact⟨n,.cons (.int .i64 n) .nil,trivial⟩
theorem ajQ{t tI tW tB:TypeId}{f0 f1:Field}(ht:P.underlying t=some (.struct #[f0,f1]))(hn:P.cellsOf t=8)(h0:f0.offset=0/\f0.type=tW)(h1:f1.offset=1/\f1.type=tB)(hw:P.cellsOf tW=1)(hb:P.cellsOf tB=7)(hW:P.underlying tW=some (.slice tI))(hI:P.underlying tI=some (.int .i64))(hc:P.cellsOf tI=1)(hE:EO enc P W .blk BG tB):EO enc P W .cac KG t:=by
 intro fuel cs x h hp;obtain⟨y0,y1,n,rfl,hl,k0,k1⟩:=trod_struct2 ht h;rw [h0.1,h0.2,hw]at k0;rw [h1.1,h1.2,hb]at k1;obtain⟨v,ws,e,r,l,_⟩:=qD (c:= .i64) hW hc (by decide) (aan hI) k0 (λp q=>hp p (List.mem_append_left _ q));obtain⟨b,b1,b2⟩:=hE _ _ _ k1 (λp q=>hp p (List.mem_append_right _ q));refine⟨⟨ws,b⟩,?_,l,b2⟩;have e':cs=(cs.drop 0).take 1++(cs.drop 1).take 7:=by
  rw [List.drop_zero,List.take_of_length_le (l:=cs.drop 1) (by rw [List.length_drop];omega),List.take_append_drop]
 rw [e',e];exact .cons r b1
def CP(enc:TypeId×Value->H)(P:Program)(W:World)(t:TypeId)(g:D->Prop):Prop:=∀fuel cs x,tr enc P W fuel t cs=some x->inW W x.2->∃v d,cs=[v]/\bZ (λb=>b<W.heap.size) W v d/\g d
def gI(d:D):Prop:=∃n,d= .int .i64 n
def gB(d:D):Prop:=∃b,d= .bool b
def gL(d:D):Prop:=∃xs:List Int,d= .rows 1 (aL .i64 xs)/\xs.length<9223372036854775808
theorem aeh{t:TypeId}(ht:P.underlying t=some (.int .i64)):CP enc P W t gI:=by
 intro fuel cs x h _;obtain⟨n,rfl,rfl,_⟩:=DataW.trod_int ht h;exact⟨_,_,rfl,.int .i64 n,n,rfl⟩
theorem ap5{t:TypeId}(ht:P.underlying t=some .bool):CP enc P W t gB:=by
 intro fuel cs x h _;obtain⟨b,rfl,rfl⟩:=DataW.trod_bool ht h;exact⟨_,_,rfl,.bool b,b,rfl⟩
theorem aei{t e:TypeId}(ht:P.underlying t=some (.slice e))(he:P.underlying e=some (.int .i64))(hc:P.cellsOf e=1):CP enc P W t gL:=by
 intro fuel cs x h hp;obtain⟨v,xs,e,r,l,_⟩:=qD (c:= .i64) ht hc (by decide) (aan he) h hp;exact⟨v,_,e,r,xs,rfl,l⟩
def FL(enc:TypeId×Value->H)(P:Program)(W:World):Nat->List Field->List (D->Prop)->Prop
 | _,[],[]=>True
 | k,f::fs,g::gs=>f.offset=k/\P.cellsOf f.type=1/\CP enc P W f.type g/\FL enc P W (k+1) fs gs
 | _,_,_=>False
theorem FL.cons{k:Nat}{f:Field}{fs:List Field}{g:D->Prop}{gs:List (D->Prop)}(h1:f.offset=k)(h2:P.cellsOf f.type=1)(h3:CP enc P W f.type g)(h4:FL enc P W (k+1) fs gs):FL enc P W k (f::fs) (g::gs):=⟨h1,h2,h3,h4⟩
theorem FL.nil{k:Nat}:FL enc P W k [] []:=trivial
theorem Ta{cs:List Value}{n:Nat}:∀(fs:List Field) (S:List (D->Prop)) (k:Nat) (xs:List (DataW H×List MemPlace)),FL enc P W k fs S->xs.length=fs.length->
  (∀(i:Nat) (f:Field),fs[i]? =some f->tr enc P W n f.type ((cs.drop f.offset).take (P.cellsOf f.type))=xs[i]?)->inW W (xs.flatMap (·.2))->cs.length=k+fs.length->
  ∃ds,F2 (bZ (λb=>b<W.heap.size) W) (cs.drop k) ds/\F2 (λg d=>g d) S ds
 | [],S,k,xs,h1,_,_,_,h5=>by
  cases S with
  | nil=>exact⟨[],by rw [List.drop_eq_nil_of_le (by simp at h5;omega)];exact .nil,.nil⟩
  | cons s S=>cases h1
 | f::fs,[],k,xs,h1,_,_,_,_=>by cases h1
 | f::fs,s::S,k,[],_,h2,_,_,_=>by cases h2
 | f::fs,s::S,k,y::xs,h1,h2,h3,h4,h5=>by
  obtain⟨a1,a2,a3,a4⟩:=h1;have b:=h3 0 f rfl;rw [a1,a2]at b;obtain⟨v,d,e,r1,r2⟩:=a3 n _ y b (λp hp=>h4 p (List.mem_flatMap.2 ⟨y,List.mem_cons_self ..,hp⟩));simp only [List.length_cons]at h5 h2;obtain⟨ds,i1,i2⟩:=Ta fs S (k+1) xs a4 ah (λi g hg=>h3 (i+1) g hg) (λp hp=>h4 p (by rw [List.flatMap_cons];exact List.mem_append_right _ hp)) ah;have hk:k<cs.length:=by omega
  rw [List.drop_eq_getElem_cons hk]at e ⊢;rw [List.take_succ_cons,List.take_zero]at e;cases e;exact⟨d::ds,.cons r1 i1,.cons r2 i2⟩
theorem aej{t:TypeId}{fs:Array Field}(ht:P.underlying t=some (.struct fs))(hn:P.cellsOf t=fs.toList.length)(hf:FL enc P W 0 fs.toList [gL,gI,gL,gI,gB,gB,gI,gL,gL,gI]):EO enc P W .aM MG t:=by
 intro fuel cs x h hp;obtain⟨xs,n,_,rfl,hl,hlen,hf'⟩:=DataW.trod_struct ht h;obtain⟨ds,h1,h2⟩:=Ta fs.toList _ 0 xs hf (by rw [hlen,Array.length_toList]) (λi f hi=>hf' i f (by rw [<-Array.getElem?_toList];exact hi)) hp ah;obtain⟨d0,m0,rfl,⟨l0,rfl,g0⟩,k1⟩:=f2c h2;obtain⟨d1,m1,rfl,⟨n1,rfl⟩,k2⟩:=f2c k1;obtain⟨d2,m2,rfl,⟨l2,rfl,g2⟩,k3⟩:=f2c k2;obtain⟨d3,m3,rfl,⟨n3,rfl⟩,k4⟩:=f2c k3;obtain⟨d4,m4,rfl,⟨b4,rfl⟩,k5⟩:=f2c k4;obtain⟨d5,m5,rfl,⟨b5,rfl⟩,k6⟩:=f2c k5;obtain⟨d6,m6,rfl,⟨n6,rfl⟩,k7⟩:=f2c k6;obtain⟨d7,m7,rfl,⟨l7,rfl,g7⟩,k8⟩:=f2c k7;obtain⟨d8,m8,rfl,⟨l8,rfl,g8⟩,k9⟩:=f2c k8;obtain⟨d9,m9,rfl,⟨n9,rfl⟩,k10⟩:=f2c k9;obtain rfl:=f2n k10;exact⟨⟨l0,n1,l2,n3,b4,b5,n6,l7,l8,n9⟩,h1,g0,g2,g7,g8⟩
theorem ajR{t tM tK tC eK eC:TypeId}{f0 f1 f2:Field}(ht:P.underlying t=some (.struct #[f0,f1,f2]))(hn:P.cellsOf t=12)(h0:f0.offset=0/\f0.type=tM)(h1:f1.offset=10/\f1.type=tK)(h2:f2.offset=11/\f2.type=tC)(c0:P.cellsOf tM=10)(c1:P.cellsOf tK=1)(c2:P.cellsOf tC=1)
  (hM:EO enc P W .aM MG tM) (hk:P.underlying tK=some (.slice eK)) (hk8:P.cellsOf eK=8) (hK:EO enc P W .cac KG eK) (hc:P.underlying tC=some (.slice eC)) (atz:P.cellsOf eC=14) (hC:EO enc P W .cer CG eC):EO enc P W .eng NG t:=by
 intro fuel cs x h hp;obtain⟨y0,y1,y2,n,rfl,hl,k0,k1,k2⟩:=Deep.trod_struct3 ht h;rw [h0.1,h0.2,c0]at k0;rw [h1.1,h1.2,c1]at k1;rw [h2.1,h2.2,c2]at k2;obtain⟨m,m1,m2⟩:=hM _ _ _ k0 (λp q=>hp p (by simp [q]));obtain⟨v,ks,e,r,l,lk⟩:=qD (c:= .cac) hk hk8 (by decide) hK k1 (λp q=>hp p (by simp [q]));obtain⟨u,qs,e2,r2,l2,lk2⟩:=qD (c:= .cer) hc atz (by decide) hC k2 (λp q=>hp p (by simp [q]));refine⟨⟨m,ks,qs⟩,?_,m2,⟨l,lk⟩,l2,lk2⟩;have e':cs=(cs.drop 0).take 10++((cs.drop 10).take 1++(cs.drop 11).take 1):=by
  rw [List.drop_zero,<-List.drop_drop (i:=1) (j:=10),List.take_of_length_le (l:=(cs.drop 10).drop 1) (by rw [List.length_drop,List.length_drop];omega),List.take_append_drop,List.take_append_drop]
 rw [e',e,e2];exact m1.append (.cons r (.cons r2 .nil))
end
abbrev atA:Sig:={args:=[.sv false .eng],objs:=[],res:=[.c .bool],dV:=[]}
theorem aek{E:Tab}{f:FuncId}{c:Ct aD atA}(hc:dN E f (dK c)){x:Eng}{W:World}{cs:List Value}(hv:F2 (bZ (λb=>b<W.heap.size) W) cs (Co.row .eng x))
  (hg:o7 E (entry W) W) (hp:c.pre (x,())=true):Go.Calls E.P f #[.agg cs.toArray] W λe W'=>e= .returned (.bool (c.fn (x,())).1)/\RowKit.Below W.heap.size W W':=by
 refine(hc.calls [.agg ((Co.row .eng x).map (.d false))] [] 0 (λr _ _=>PVR (nmh []) r (.c (.d true (.bool (c.fn (x,())).1)))) ?_ (entry W) W [.agg cs.toArray] rfl
  (.cons (aef rfl hv) .nil) (Qo W) hg).mono ?_
 .refine⟨0,[.sv false .eng x],[],.cons (ajN .eng x) .nil,⟨λl o h=>(by cases h),λ_ _=>rfl⟩,rfl,_,rfl,?_,_,_,rfl,?_⟩
  .intro b hb;rcases List.mem_append.1 hb with h | h
   .cases h
   .rw [List.mem_singleton]at h;rw [h];exact hp
  .intro r _ _ h _ _ _;exact h
 .rintro e W' he;cases e with
  | returned u=>
   obtain⟨c',r,h',j,g,_,_,h1,h2⟩:=he;exact⟨by rw [aee h1 h2],Ll g⟩
  | outgrown=>exact he.elim
  | panicked _=>exact he.elim
end Go.TX
namespace Go.TX.Seat
open Go Go.AE Go.TX Go.TX.F Go.Proofs
set_option maxRecDepth 100000
theorem atB:∀t n,E.ieq t=some n->∀(xs ys:List Int),xs.length=n->ys.length=n->∀w,
  (Op.equal t (.agg (xs.map (Value.int .i64)).toArray) (.agg (ys.map (Value.int .i64)).toArray)).run E.P w= .ok (xs==ys) w/\
  (eqGuard .eql t (.tmp 0) (.tmp 0) (.agg (xs.map (Value.int .i64)).toArray) (.agg (ys.map (Value.int .i64)).toArray)).run E.P w= .ok () w:=by
 intro t n h;obtain⟨c,hc,rfl⟩:∃c,ieq t=some c/\c.size=n:=by
  have h':(ieq t).map (λc=>c.size)=some n:=h;cases hi:ieq t with
  | none=>rw [hi]at h';cases h'
  | some c=>rw [hi]at h';cases h';exact⟨c,rfl,rfl⟩
 unfold ieq at hc;split at hc
 all_goals first | (cases hc;exact ajG (by kernel_rfl) (by kernel_rfl) (by kernel_rfl) (by kernel_rfl) (by kernel_rfl)) | cases hc
theorem hE:aF E:=⟨asQ,atB⟩
theorem atC:∀t c,X.ieq t=some c->(c= .ins/\E.ieq t=some 4)\/(c= .iop/\E.ieq t=some 5):=by
 intro t c h;have h:ieq t=some c:=h;have e:E.ieq t=(ieq t).map λc=>c.size:=rfl
 rw [e,h];unfold ieq at h;split at h
 all_goals first | (cases h;first | exact Or.inl ⟨rfl,rfl⟩ | exact Or.inr ⟨rfl,rfl⟩) | cases h
theorem xok:XOK X E:=⟨rfl,λg c h=>(by
    first
    | (cases h;done)
    | (dsimp only [X] at h
       split at h
       · rename_i e;cases h;unfold E;dsimp only;rw [if_pos e];rfl
       · cases h)),atC⟩
theorem hm:E.P.follows .mixedOrders=true:=by kernel_rfl
structure HL(l:List (Nat×Sig)) where
 C:Cs (std 0) l
 h:∀p∈csl (std 0) l C,dN E p.1 (dK p.2.2)
abbrev hn : HL [] := ⟨(), λ_ h => by cases h⟩
abbrev hk{f : FuncId}{s : Sig}{c : Ct aD s}{l : List (Nat × Sig)}(h : dN E f (dK c))(r : HL l) : HL ((f, s) :: l) := ⟨(c.pre, c.fn, r.C), λp hp => by
 rcases List.mem_cons.1 hp with rfl | hp
 .exact h
 .exact r.h p hp⟩
structure Mt{lk:aB}{s:Sig}{an:Ann}{fn:Func}{l:List (Nat×Sig)}(f:FuncId)(g:Gt lk X E an s fn l) where
 H:HL l
 k:Fn E f (g.F H.C) (cn (g.F H.C))
section
variable {lk:aB} {s:Sig} {an:Ann} {fn:Func} {l:List (Nat×Sig)} {f:FuncId}
@[irreducible] noncomputable def Mt.c {g : Gt lk X E an s fn l} (t : Mt f g) : Ct aD s := cn (g.F t.H.C)
theorem Mt.cs{g:Gt lk X E an s fn l}(t:Mt f g){x:iE s.inp}{Q:iE s.out->Prop}(h:g.F t.H.C x Q):t.c.pre x=true/\Q (t.c.fn x):=by unfold Mt.c;exact t.k.cs h
theorem Mt.ok{g:Gt lk X E an s fn l}(t:Mt f g):dN E f (dK t.c):=by unfold Mt.c;exact t.k.ok
@[reducible] noncomputable def hc {r : List (Nat × Sig)} {g : Gt lk X E an s fn l} (t : Mt f g) (h : HL r) : HL ((f, s) :: r) := hk t.ok h
theorem mkF(hf:E.P.funcs[f]? =some fn)(g:Gt lk X E an s fn l)(H:HL l)
 (hb:fn.body.isSome=true:=by rfl) (hn:(fn.name== "runtime.NumGoroutine")=false:=by kernel_rfl):Fn E f (g.F H.C) (cn (g.F H.C)):=asN hE xok hm hf hb (λ_=>enters_of hf hn) H.h (g.h H.C)
noncomputable def mk (g:Gt lk X E an s fn l) (hf:E.P.funcs[f]? =some fn) (H:HL l)
 (hb:fn.body.isSome=true:=by rfl) (hn:(fn.name== "runtime.NumGoroutine")=false:=by kernel_rfl):Mt f g:=⟨H,mkF hf g H hb hn⟩
end
theorem aao{E:Tab}{f:FuncId}{c:Ct aD {args:=[.c (.int .u64)],objs:=[],res:=[.c (.int .i64)],dV:=[]}}{g:Int->Int}(hent:Enters E.P f)(hg:(λx:Int=>(c.fn (x,())).1)=g)
  (h:∀(x:Int) (w:World),c.pre (x,())=true->Go.Calls E.P f #[.int .u64 x] w λe w'=>e= .returned (.int .i64 (g x))/\w'=w):dN E f (dK c) where
 enters:=hent
 calls:=by
  rintro args hh n K ⟨m,qs,hs,hargs,HR,hlen,cr,hcall,adh,v,kT,hvk,hK⟩ c1 w vs hcn qx Hh Gl;have key:∀f0 (x:Int),qs=[.c (.d f0 (.int .u64 x))]->rz (std m) hs {args:=[.c (.int .u64)],objs:=[],res:=[.c (.int .i64)],dV:=[]} c qs=some {ck:=[c.pre (x,())],ts:=[.i],y:=c.fn (x,()),touched:=[],pure:=true,k:=λy=>some (.c (.d true (.int .i64 y.1)),hs)}:=by
   intro f0 x e;subst e;rfl
  have hq:∃f0 x,qs=[.c (.d f0 (.int .u64 x))]:=by
   unfold rz at hcall;cases qs with
   | nil=>simp [oq]at hcall
   | cons q r=>
    cases r with
    | cons q2 r2=>
     exfalso;simp only [oq]at hcall;cases hx:FN (std m) hs (.c (.int .u64)) q (es0 (std m) 0 [])with
     | none=>rw [hx]at hcall;simp at hcall
     | some s=>rw [hx]at hcall;simp [oq]at hcall
    | nil=>
     simp only [oq]at hcall;cases q with
     | c y=>
      simp only [FN,extC]at hcall;cases y with
      | d f0 y=>
       cases y with
       | int k x=>
        by_cases hk:IntKind.u64=k
        .subst hk;exact⟨f0,x,rfl⟩
        .simp [hk]at hcall
       | _=>simp at hcall
      | _=>simp at hcall
     | _=>simp [FN]at hcall
  obtain⟨f0,x,rfl⟩:=hq;rw [key f0 x rfl]at hcall;simp only [Option.some.injEq]at hcall;subst hcall;simp only [Option.some.injEq,Prod.mk.injEq]at hvk;obtain⟨rfl,rfl⟩:=hvk;have hpre:=adh _ (List.mem_singleton.2 rfl);have hv:vs=[.int .u64 x]:=by
   cases hargs with
   | cons h1 h2=>
    cases h2;cases qx with
    | cons h3 h4=>
     cases h4;cases h1 with
     | one h1=>
      cases h1 with
      | c h1=>
       cases h1 with
       | d h5 _=>
        subst h5;cases h3 with
        | c _ _ h6=>cases h6 with
         | d _ _ _ h7=>cases h7;rfl
      | agg h1=>cases h1
  subst hv;refine(h x w hpre).mono ?_;rintro e w' ⟨rfl,rfl⟩;refine⟨c1,.c (.d true (.int .i64 (g x))),hh,0,.refl _ _ _,Hh,hcn,.c _ _ (.d _ _ _ (.int _ _)),hK _ _ _ ?_ HR (.refl _ _ _) hlen⟩;rw [<-hg];exact .one (.c (.d rfl λ_=> .inl rfl))
end Go.TX.Seat
namespace Go.TX.F
open Go Go.AE Go.TX Go.TX.Seat Go.Proofs
set_option maxRecDepth 100000
set_option maxHeartbeats 4000000
noncomputable def Tc:=mk Xm Tryz.func38 hn
def afs:=λl m h h0 h1=>(Tc.cs (afp l m h h0 h1:)).1
def aft:=λl m h h0 h1=>(Tc.cs (afp l m h h0 h1:)).2
noncomputable def aap:=mk Xn Tryz.func70 hn
def ap6:=λl m h h0 h1=>(aap.cs (afh l m h h0 h1:)).1
def ap7:=λl m h h0 h1=>(aap.cs (afh l m h h0 h1:)).2
noncomputable def aaq:=mk Xo Tryz.func39 (hc aap hn)
def qE:=λb m h h0 h1=>aaq.cs (apd ap6 ap7 b m h h0 h1:)
def afu:=λb m h h0 h1=>(qE b m h h0 h1).1
def afv:=λb m h h0 h1=>(qE b m h h0 h1).2
noncomputable def afw:=mk Xp Tryz.func17 (hc Tc (hc aaq hn))
def oI:=λq m h h0 h1=>afw.cs (apQ ⟨afs,aft⟩ ⟨afu,afv⟩ q m h h0 h1:)
def ap8:=λq m h h0 h1=>(oI q m h h0 h1).1
def ap9:=λq m h h0 h1=>(oI q m h h0 h1).2
noncomputable def afx:=mk Xq Tryz.func5 (hc afw hn)
def nI:=λl m h h0 h1=>afx.cs (apR ap8 ap9 l m h h0 h1:)
def aqa:=λl m h h0 h1=>(nI l m h h0 h1).1
def aqb:=λl m h h0 h1=>(nI l m h h0 h1).2
noncomputable def rP:=mk Na Tryz.func62 hn
def yD:=λa=>(rP.cs (Zh a:)).1
def yE:=λa=>(rP.cs (Zh a:)).2
noncomputable def lT:=mk Nb Tryz.func63 hn
def pO:=λa b c=>(lT.cs (Zg a b c:)).1
def pQ:=λa b c=>(lT.cs (Zg a b c:)).2
noncomputable def Qp:=mk Nc Tryz.func108 hn
def ajS:=λi=>(Qp.cs (uV i:)).1
def ajT:=λi=>(Qp.cs (uV i:)).2
noncomputable def Jm:=mk Ng Tryz.func73 (hc lT (hc Qp hn))
def zJ:=λi=>Jm.cs (FR ⟨pO,pQ⟩ ajS ajT i:)
def Qq:=λi=>(zJ i).1
def Qr:=λi=>(zJ i).2
noncomputable def aar:=mk Nh Tryz.func71 (hc Jm (hc rP hn))
def uX:=λw=>aar.cs (ajr ⟨Qq,Qr⟩ ⟨yD,yE⟩ w:)
def ajU:=λw=>(uX w).1
def ajV:=λw=>(uX w).2
noncomputable def aas:=mk Ni Tryz.func40 (hc aar hn)
def uY:=λw h=>aas.cs (aju ⟨ajU,ajV⟩ w h:)
def ajW:=λw h=>(uY w h).1
def ajX:=λw h=>(uY w h).2
noncomputable def Jo:=mk Nj Tryz.func74 hn
def aat:=λa=>(Jo.cs (sF a:)).1
def aau:=λa=>(Jo.cs (sF a:)).2
noncomputable def aav:=mk Nk Tryz.func72 (hc Jo (hc Jm hn))
def uZ:=λi=>aav.cs (CX ⟨aat,aau⟩ ⟨Qq,Qr⟩ i:)
def ajY:=λi=>(uZ i).1
def ajZ:=λi=>(uZ i).2
noncomputable def Qs:=mk Nl Tryz.func41 (hc Jo (hc Jm (hc lT (hc aav hn))))
def zK:=λpc l hl=>Qs.cs (FU ⟨aat,aau⟩ ⟨Qq,Qr⟩ ⟨pO,pQ⟩ ajY ajZ pc l hl:)
def aaw:=λpc l hl=>(zK pc l hl).1
def aax:=λpc l hl=>(zK pc l hl).2
noncomputable def aay:=mk Nn Tryz.func182 (hc lT hn)
def u6:=λk=>aay.cs (aiR ⟨pO,pQ⟩ k:)
def aj0:=λk=>(u6 k).1
def aj1:=λk=>(u6 k).2
noncomputable def Qt:=mk Np Tryz.func152 (hc aay hn)
def zL:=λops x n h1=>Qt.cs (aiS aj0 aj1 ops x n h1:)
def aaz:=λops x n h1=>(zL ops x n h1).1
def aaA:=λops x n h1=>(zL ops x n h1).2
noncomputable def aaB:=mk Nq Tryz.func109 (hc rP (hc lT (hc Qt hn)))
def Cm:=λops i len h0 h1 h3=>aaB.cs (aiT ⟨yD,yE⟩ ⟨pO,pQ⟩ ⟨aaz,aaA⟩ ops i len h0 h1 h3:)
def aj2:=λops i len h0 h1 h3=>(Cm ops i len h0 h1 h3).1
def aj3:=λops i len h0 h1 h3=>(Cm ops i len h0 h1 h3).2
noncomputable def aaC:=mk Nr Tryz.func110 (hc rP (hc Qt hn))
def zN:=λb=>aaC.cs (aiU ⟨yD,yE⟩ ⟨aaz,aaA⟩ b:)
def aj4:=λb=>(zN b).1
def aj5:=λb=>(zN b).2
noncomputable def Qu:=mk Ns Tryz.func75 (hc lT (hc aaC (hc aaB hn)))
def Cq:=λb h2=>Qu.cs (aiV ⟨pO,pQ⟩ aj4 aj5 aj2 aj3 b h2:)
def aaD:=λb h2=>(Cq b h2).1
def aaE:=λb h2=>(Cq b h2).2
noncomputable def Qv:=mk Nt Tryz.func76 hn
def aj6:=λa b ha=>(Qv.cs (ZJ a b ha:)).1
def aj7:=λa b ha=>(Qv.cs (ZJ a b ha:)).2
noncomputable def Fv:=mk Nu Tryz.func111 (hc lT hn)
def u7:=λa=>Fv.cs (aio ⟨pO,pQ⟩ a:)
def Jp:=λa=>(u7 a).1
def Jq:=λa=>(u7 a).2
noncomputable def Qw:=mk Nv Tryz.func77 (hc Fv hn)
def wU:=Qw.cs (aiJ ⟨Jp,Jq⟩:)
def aaF:=(wU).1
def aaG:=(wU).2
noncomputable def Fw:=mk Nw Tryz.func163 hn
def Qx:=λa b ha=>(Fw.cs (Zk a b ha:)).1
def Qy:=λa b ha=>(Fw.cs (Zk a b ha:)).2
noncomputable def aaH:=mk Ny Tryz.func190 (hc lT hn)
def wV:=λm hm=>aaH.cs (aip ⟨pO,pQ⟩ m hm:)
def aj8:=λm hm=>(wV m hm).1
def aj9:=λm hm=>(wV m hm).2
noncomputable def yF:=mk Nz Tryz.func159 (hc aaH (hc Fw hn))
def zO:=λa ha=>yF.cs (aiq aj8 aj9 ⟨Qx,Qy⟩ a ha:)
def BH:=λa ha=>(zO a ha).1
def BI:=λa ha=>(zO a ha).2
noncomputable def Qz:=mk NA Tryz.func183 hn
def akb:=λa=>(Qz.cs (Zm a:)).1
def akc:=λa=>(Qz.cs (Zm a:)).2
noncomputable def QA:=mk NC Tryz.func184 hn
def akd:=λa n ha=>(QA.cs (Zl a n ha:)).1
def ake:=λa n ha=>(QA.cs (Zl a n ha:)).2
noncomputable def QB:=mk ND Tryz.func153 (hc lT (hc yF (hc QA (hc Qz hn))))
def wW:=λa n ha=>QB.cs (ais ⟨pO,pQ⟩ ⟨BH,BI⟩ ⟨akd,ake⟩ akb akc a n ha:)
def aaI:=λa n ha=>(wW a n ha).1
def aaJ:=λa n ha=>(wW a n ha).2
noncomputable def vg:=mk NH Tryz.func126 (hc Fw hn)
def sG:=λa b ha=>vg.cs (air ⟨Qx,Qy⟩ a b ha:)
def yG:=λa b ha=>(sG a b ha).1
def yH:=λa b ha=>(sG a b ha).2
noncomputable def QC:=mk NI Tryz.func154 (hc vg hn)
def wX:=λa b ha=>QC.cs (ait ⟨yG,yH⟩ a b ha:)
def aaK:=λa b ha=>(wX a b ha).1
def aaL:=λa b ha=>(wX a b ha).2
noncomputable def aaM:=mk NJ Tryz.func112 (hc QB (hc QC hn))
def zP:=λa ha=>aaM.cs (aiu ⟨aaI,aaJ⟩ ⟨aaK,aaL⟩ a ha:)
def akf:=λa ha=>(zP a ha).1
def akg:=λa ha=>(zP a ha).2
noncomputable def nJ:=mk NK Tryz.func121 hn
def rQ:=λa ha=>(nJ.cs (Zo a ha:)).1
def rR:=λa ha=>(nJ.cs (Zo a ha:)).2
noncomputable def QD:=mk NP Tryz.func155 (hc nJ hn)
def wY:=λa ha=>QD.cs (aiy ⟨rQ,rR⟩ a ha:)
def aaN:=λa ha=>(wY a ha).1
def aaO:=λa ha=>(wY a ha).2
noncomputable def aaP:=mk NQ Tryz.func113 (hc QD hn)
def wZ:=λa ha=>aaP.cs (aiz ⟨aaN,aaO⟩ a ha:)
def akh:=λa ha=>(wZ a ha).1
def aki:=λa ha=>(wZ a ha).2
noncomputable def Jr:=mk NR Tryz.func114 (hc QB (hc QC (hc QD hn)))
def zQ:=λa t ha ht hok=>Jr.cs (aiA ⟨aaI,aaJ⟩ ⟨aaK,aaL⟩ ⟨aaN,aaO⟩ a t ha ht hok:)
def QE:=λa t ha ht hok=>(zQ a t ha ht hok).1
def QF:=λa t ha ht hok=>(zQ a t ha ht hok).2
noncomputable def QG:=mk NS Tryz.func115 hn
def akj:=λk l=>(QG.cs (ZT k l:)).1
def akk:=λk l=>(QG.cs (ZT k l:)).2
noncomputable def QH:=mk NT Tryz.func116 (hc lT hn)
def sH:=λa=>QH.cs (ain ⟨pO,pQ⟩ a:)
def aaQ:=λa=>(sH a).1
def aaR:=λa=>(sH a).2
noncomputable def BJ:=mk NU Tryz.func204 hn
def Js:=λa=>(BJ.cs (Zj a:)).1
def Jt:=λa=>(BJ.cs (Zj a:)).2
noncomputable def QI:=mk NV Tryz.func202 (hc Fw (hc BJ hn))
def w9:=λl m hl hn hm hma=>QI.cs (aiF ⟨Qx,Qy⟩ ⟨Js,Jt⟩ l m hl hn hm hma:)
def aaS:=λl m hl hn hm hma=>(w9 l m hl hn hm hma).1
def aaT:=λl m hl hn hm hma=>(w9 l m hl hn hm hma).2
noncomputable def QJ:=mk NW Tryz.func203 (hc nJ hn)
def zR:=λa ha=>QJ.cs (aix ⟨rQ,rR⟩ a ha:)
def aaU:=λa ha=>(zR a ha).1
def aaV:=λa ha=>(zR a ha).2
noncomputable def aaW:=mk NY Tryz.func185 (hc yF (hc QI (hc QJ hn)))
def xg:=λa b ha hb=>aaW.cs (aiG ⟨BH,BI⟩ ⟨aaS,aaT⟩ ⟨aaU,aaV⟩ a b ha hb:)
def akl:=λa b ha hb=>(xg a b ha hb).1
def akm:=λa b ha hb=>(xg a b ha hb).2
noncomputable def aaX:=mk NZ Tryz.func186 (hc yF (hc BJ (hc nJ (hc rP hn))))
def sI:=λa n ha=>aaX.cs (aiI ⟨BH,BI⟩ ⟨Js,Jt⟩ ⟨rQ,rR⟩ ⟨yD,yE⟩ a n ha:)
def akn:=λa n ha=>(sI a n ha).1
def ako:=λa n ha=>(sI a n ha).2
noncomputable def QK:=mk N7 Tryz.func205 hn
def akp:=λa b ha hb sa sb=>(QK.cs (Zr a b ha hb sa sb:)).1
def akq:=λa b ha hb sa sb=>(QK.cs (Zr a b ha hb sa sb:)).2
noncomputable def aaY:=mk N8 Tryz.func187 (hc yF (hc BJ (hc QI (hc QK (hc QJ hn)))))
def xk:=λa b ha hb=>aaY.cs (aiH ⟨BH,BI⟩ ⟨Js,Jt⟩ ⟨aaS,aaT⟩ akp akq ⟨aaU,aaV⟩ a b ha hb:)
def akr:=λa b ha hb=>(xk a b ha hb).1
def aks:=λa b ha hb=>(xk a b ha hb).2
noncomputable def aaZ:=mk N9 Tryz.func156 (hc aaY (hc aaW (hc aaX hn)))
def xq:=λop x y hx hy=>aaZ.cs (aiD ⟨akr,aks⟩ ⟨akl,akm⟩ ⟨akn,ako⟩ op x y hx hy:)
def akt:=λop x y hx hy=>(xq op x y hx hy).1
def aku:=λop x y hx hy=>(xq op x y hx hy).2
noncomputable def Ju:=mk Oa Tryz.func160 (hc yF hn)
def xu:=λa ha=>Ju.cs (aiw ⟨BH,BI⟩ a ha:)
def QL:=λa ha=>(xu a ha).1
def QM:=λa ha=>(xu a ha).2
noncomputable def aa0:=mk Ob Tryz.func188 (hc BJ (hc rP hn))
def zS:=λop a b=>aa0.cs (aiv ⟨yD,yE⟩ ⟨Js,Jt⟩ op a b:)
def akv:=λop a b=>(zS op a b).1
def akw:=λop a b=>(zS op a b).2
noncomputable def aa1:=mk Oc Tryz.func189 (hc nJ hn)
def xw:=λop n y hy=>aa1.cs (aiB ⟨rQ,rR⟩ op n y hy:)
def akx:=λop n y hy=>(xw op n y hy).1
def aky:=λop n y hy=>(xw op n y hy).2
noncomputable def aa2:=mk Od Tryz.func157 (hc vg (hc nJ (hc aa0 (hc QH (hc Ju (hc aa1 hn))))))
def xA:=λop x y hx hy=>aa2.cs (aiC ⟨yG,yH⟩ ⟨rQ,rR⟩ ⟨akv,akw⟩ ⟨aaQ,aaR⟩ ⟨QL,QM⟩ akx aky op x y hx hy:)
def akz:=λop x y hx hy=>(xA op x y hx hy).1
def akA:=λop x y hx hy=>(xA op x y hx hy).2
set_option maxRecDepth 100000
set_option maxHeartbeats 4000000
noncomputable def aa3:=mk Oe Tryz.func117 (hc Fv (hc vg (hc aaZ (hc aa2 (hc Jr hn)))))
def Cr:=λop x y t hop hx hy ht hok=>aa3.cs (aiE ⟨Jp,Jq⟩ ⟨yG,yH⟩ akt aku akz akA ⟨QE,QF⟩ op x y t hop hx hy ht hok:)
def akB:=λop x y t hop hx hy ht hok=>(Cr op x y t hop hx hy ht hok).1
def akC:=λop x y t hop hx hy ht hok=>(Cr op x y t hop hx hy ht hok).2
noncomputable def QN:=mk Og Tryz.func158 hn
def akD:=λl k hl=>(QN.cs (ZU l k hl:)).1
def akE:=λl k hl=>(QN.cs (ZU l k hl:)).2
noncomputable def aa4:=mk Oh Tryz.func118 (hc Fv (hc Jr (hc QN hn)))
def vk:=λl k t hl ht hk=>aa4.cs (ai5 ⟨Jp,Jq⟩ ⟨QE,QF⟩ akD akE l k t hl ht hk:)
def akF:=λl k t hl ht hk=>(vk l k t hl ht hk).1
def akG:=λl k t hl ht hk=>(vk l k t hl ht hk).2
noncomputable def Jv:=mk Oi Tryz.func120 (hc nJ hn)
def vo:=λa ha=>Jv.cs (ai4 ⟨rQ,rR⟩ a ha:)
def QO:=λa ha=>(vo a ha).1
def QS:=λa ha=>(vo a ha).2
noncomputable def aa5:=mk Oj Tryz.func119 (hc nJ (hc Jv hn))
def vw:=λo x y r hx hy hr=>aa5.cs (ai6 ⟨rQ,rR⟩ ⟨QO,QS⟩ o x y r hx hy hr:)
def akH:=λo x y r hx hy hr=>(vw o x y r hx hy hr).1
def akI:=λo x y r hx hy hr=>(vw o x y r hx hy hr).2
noncomputable def QT:=mk Ol Tryz.func122 hn
def akJ:=λb=>(QT.cs (ZW b:)).1
def akK:=λb=>(QT.cs (ZW b:)).2
noncomputable def QU:=mk Om Tryz.func123 hn
def akL:=λb=>(QU.cs (ZX b:)).1
def akM:=λb=>(QU.cs (ZX b:)).2
noncomputable def Jw:=mk Oo Tryz.func161 hn
def aa6:=λs k=>(Jw.cs (ZV s k:)).1
def aa7:=λs k=>(Jw.cs (ZV s k:)).2
noncomputable def aa8:=mk Oq Tryz.func162 (hc Ju (hc vg (hc Jw hn)))
def Cu:=λs n hs hx hy hf=>aa8.cs (ai7 ⟨QL,QM⟩ ⟨yG,yH⟩ ⟨aa6,aa7⟩ s n hs hx hy hf:)
def akN:=λs n hs hx hy hf=>(Cu s n hs hx hy hf).1
def akO:=λs n hs hx hy hf=>(Cu s n hs hx hy hf).2
noncomputable def aa9:=mk Ou Tryz.func124 (hc Ju (hc yF (hc nJ (hc Jw (hc aa8 (hc Jv hn))))))
def xB:=λs n hs=>aa9.cs (ai8 ⟨QL,QM⟩ ⟨BH,BI⟩ ⟨rQ,rR⟩ ⟨aa6,aa7⟩ akN akO ⟨QO,QS⟩ s n hs:)
def akP:=λs n hs=>(xB s n hs).1
def akQ:=λs n hs=>(xB s n hs).2
noncomputable def abb:=mk Ov Tryz.func78 (hc Qu (hc Fv (hc QH (hc aa9 (hc Qw (hc aaM (hc nJ (hc aaP (hc aa3 (hc Jr (hc aa4 (hc aa5 (hc QG (hc Jv (hc QT (hc QU hn))))))))))))))))
def xC:=λt b ht hb=>abb.cs (ai9 ⟨aaD,aaE⟩ ⟨Jp,Jq⟩ ⟨aaQ,aaR⟩ ⟨akP,akQ⟩ ⟨aaF,aaG⟩ ⟨akf,akg⟩ ⟨rQ,rR⟩ ⟨akh,aki⟩ akB akC ⟨QE,QF⟩ akF akG akH akI akj akk ⟨QO,QS⟩ akJ akK akL akM t b ht hb:)
def akR:=λt b ht hb=>(xC t b ht hb).1
def akS:=λt b ht hb=>(xC t b ht hb).2
noncomputable def QV:=mk Ow Tryz.func125 (hc vg hn)
def vB:=λa b ha=>QV.cs (ajb ⟨yG,yH⟩ a b ha:)
def abd:=λa b ha=>(vB a b ha).1
def abe:=λa b ha=>(vB a b ha).2
noncomputable def abf:=mk Ox Tryz.func127 (hc vg (hc QV hn))
def vC:=λa b ha=>abf.cs (ajc ⟨yG,yH⟩ ⟨abd,abe⟩ a b ha:)
def akT:=λa b ha=>(vC a b ha).1
def akU:=λa b ha=>(vC a b ha).2
noncomputable def abg:=mk Oy Tryz.func79 (hc vg (hc abf (hc QV hn)))
def vD:=λa b ha=>abg.cs (ajd ⟨yG,yH⟩ ⟨akT,akU⟩ ⟨abd,abe⟩ a b ha:)
def akV:=λa b ha=>(vD a b ha).1
def akW:=λa b ha=>(vD a b ha).2
noncomputable def QW:=mk Oz Tryz.func42 (hc Qu (hc Qv (hc Qw (hc abb (hc abg hn)))))
def vE:=λb c hb hc=>QW.cs (aje ⟨aaD,aaE⟩ ⟨aj6,aj7⟩ ⟨aaF,aaG⟩ ⟨akR,akS⟩ ⟨akV,akW⟩ b c hb hc:)
def abh:=λb c hb hc=>(vE b c hb hc).1
def abj:=λb c hb hc=>(vE b c hb hc).2
noncomputable def yI:=mk OA Tryz.func128 hn
def yJ:=λa1 a2 a3 a4 a5 a6 o ops h=>(yI.cs (wR a1 a2 a3 a4 a5 a6 o ops h:)).1
def yK:=λa1 a2 a3 a4 a5 a6 o ops h=>(yI.cs (wR a1 a2 a3 a4 a5 a6 o ops h:)).2
noncomputable def Jy:=mk OB Tryz.func129 (hc yI hn)
def abk:=λa1 a2 a3 a4 a5 a6 k x ops h=>(Jy.cs (wT ⟨yJ,yK⟩ a1 a2 a3 a4 a5 a6 k x ops h:)).1
def abl:=λa1 a2 a3 a4 a5 a6 k x ops h=>(Jy.cs (wT ⟨yJ,yK⟩ a1 a2 a3 a4 a5 a6 k x ops h:)).2
noncomputable def BK:=mk OC Tryz.func130 (hc yI hn)
def Jz:=λa1 a2 a3 a4 a5 a6 k ops h=>(BK.cs (wS ⟨yJ,yK⟩ a1 a2 a3 a4 a5 a6 k ops h:)).1
def JA:=λa1 a2 a3 a4 a5 a6 k ops h=>(BK.cs (wS ⟨yJ,yK⟩ a1 a2 a3 a4 a5 a6 k ops h:)).2
noncomputable def QX:=mk OD Tryz.func131 (hc BK (hc yI hn))
def sJ:=λa1 a2 a3 a4 a5 a6 k a o ops h=>QX.cs (Bz ⟨Jz,JA⟩ ⟨yJ,yK⟩ a1 a2 a3 a4 a5 a6 k a o ops h:)
def abm:=λa1 a2 a3 a4 a5 a6 k a o ops h=>(sJ a1 a2 a3 a4 a5 a6 k a o ops h).1
def abn:=λa1 a2 a3 a4 a5 a6 k a o ops h=>(sJ a1 a2 a3 a4 a5 a6 k a o ops h).2
noncomputable def QY:=mk OE Tryz.func132 hn
def akX:=λk k0 k1=>(QY.cs (sD k k0 k1:)).1
def akY:=λk k0 k1=>(QY.cs (sD k k0 k1:)).2
noncomputable def abo:=mk OG Tryz.func133 (hc BK (hc yI (hc QX (hc Jy hn))))
def vF:=λa1 a2 a3 a4 a5 a6 i n ops hi h=>abo.cs (CW ⟨Jz,JA⟩ ⟨yJ,yK⟩ ⟨abm,abn⟩ ⟨abk,abl⟩ a1 a2 a3 a4 a5 a6 i n ops hi h:)
def akZ:=λa1 a2 a3 a4 a5 a6 i n ops hi h=>(vF a1 a2 a3 a4 a5 a6 i n ops hi h).1
def ak0:=λa1 a2 a3 a4 a5 a6 i n ops hi h=>(vF a1 a2 a3 a4 a5 a6 i n ops hi h).2
noncomputable def abp:=mk OH Tryz.func134 (hc BK hn)
def xD:=λB i hi h=>abp.cs (Fq ⟨Jz,JA⟩ B i hi h:)
def ak1:=λB i hi h=>(xD B i hi h).1
def ak2:=λB i hi h=>(xD B i hi h).2
noncomputable def abq:=mk OI Tryz.func80 (hc BK (hc abp (hc yI (hc abo (hc QX (hc Jy (hc QY hn)))))))
def zT:=λB i n hi h0 h=>abq.cs (FT ⟨Jz,JA⟩ ak1 ak2 ⟨yJ,yK⟩ akZ ak0 ⟨abm,abn⟩ ⟨abk,abl⟩ akX akY B i n hi h0 h:)
def ak3:=λB i n hi h0 h=>(zT B i n hi h0 h).1
def ak4:=λB i n hi h0 h=>(zT B i n hi h0 h).2
noncomputable def abr:=mk OJ Tryz.func43 (hc Qs (hc abq hn))
def sK:=λpc l hl=>abr.cs (BA ⟨aaw,aax⟩ ak3 ak4 pc l hl:)
def ak5:=λpc l hl=>(sK pc l hl).1
def ak6:=λpc l hl=>(sK pc l hl).2
noncomputable def abt:=mk OL Tryz.func18 (hc abr (hc Qs (hc aas (hc QW hn))))
def sM:=λe hw ho=>abt.cs (ajv ⟨ak5,ak6⟩ ⟨aaw,aax⟩ ⟨ajW,ajX⟩ ⟨abh,abj⟩ e hw ho:)
def ak7:=λe hw ho=>(sM e hw ho).1
def ak8:=λe hw ho=>(sM e hw ho).2
noncomputable def QZ:=mk OM Tryz.func19 hn
def ak9:=λw mem pc hw hm p0 p1=>(QZ.cs (aag w mem pc hw hm p0 p1:)).1
def ala:=λw mem pc hw hm p0 p1=>(QZ.cs (aag w mem pc hw hm p0 p1:)).2
noncomputable def abu:=mk OO Tryz.func6 (hc abt (hc QZ hn))
def zU:=λl mem h hm=>abu.cs (ajw ak7 ak8 ⟨ak9,ala⟩ l mem h hm:)
def alb:=λl mem h hm=>(zU l mem h hm).1
def alc:=λl mem h hm=>(zU l mem h hm).2
noncomputable def JB:=mk OP Tryz.func8 hn
def abv:=λl h=>(JB.cs (aai l h:)).1
def abw:=λl h=>(JB.cs (aai l h:)).2
noncomputable def Q0:=mk OQ Tryz.func135 hn
def ald:=λo=>(Q0.cs (ZY o:)).1
def ale:=λo=>(Q0.cs (ZY o:)).2
noncomputable def abx:=mk OT Tryz.func81 (hc Q0 hn)
def vG:=λl h=>abx.cs (ajg ald ale l h:)
def alf:=λl h=>(vG l h).1
def alg:=λl h=>(vG l h).2
noncomputable def Q5:=mk OU Tryz.func44 (hc abx hn)
def qF:=λb h=>Q5.cs (ajh alf alg b h:)
def aby:=λb h=>(qF b h).1
def abz:=λb h=>(qF b h).2
noncomputable def abA:=mk OV Tryz.func20 (hc JB (hc Q5 hn))
def oJ:=λq h1 h2=>abA.cs (ajz ⟨abv,abw⟩ ⟨aby,abz⟩ q h1 h2:)
def alh:=λq h1 h2=>(oJ q h1 h2).1
def ali:=λq h1 h2=>(oJ q h1 h2).2
noncomputable def abB:=mk OW Tryz.func7 (hc abA hn)
def nK:=λl h=>abB.cs (ajA alh ali l h:)
def alj:=λl h=>(nK l h).1
def alk:=λl h=>(nK l h).2
noncomputable def jr:=mk Xr Tryz.func46 hn
def kH:=λa b c=>(jr.cs (ae5 a b c:)).1
def kI:=λa b c=>(jr.cs (ae5 a b c:)).2
noncomputable def Td:=mk Xt Tryz.func82 (hc jr hn)
def zV:=λa=>Td.cs (aoa ⟨kH,kI⟩ a:)
def abC:=λa=>(zV a).1
def abD:=λa=>(zV a).2
noncomputable def abE:=mk Xu Tryz.func48 (hc jr (hc Td hn))
def zW:=λi=>abE.cs (apv ⟨kH,kI⟩ ⟨abC,abD⟩ i:)
def afy:=λi=>(zW i).1
def afz:=λi=>(zW i).2
noncomputable def zY:=mk Xv Tryz.func66 (hc jr hn)
def zZ:=λa=>zY.cs (an8 ⟨kH,kI⟩ a:)
def Cv:=λa=>(zZ a).1
def Cw:=λa=>(zZ a).2
noncomputable def afA:=mk Xw Tryz.func45 (hc abE (hc zY hn))
def vH:=λw=>afA.cs (apH ⟨afy,afz⟩ ⟨Cv,Cw⟩ w:)
def aqc:=λw=>(vH w).1
def aqd:=λw=>(vH w).2
noncomputable def aqe:=mk ahG Tryz.func21 (hc afA hn)
def vI:=λw h=>aqe.cs (atq ⟨aqc,aqd⟩ w h:)
def atE:=λw h=>(vI w h).1
def atF:=λw h=>(vI w h).2
noncomputable def Q6:=mk OX Tryz.func47 hn
def alm:=λa b ha=>(Q6.cs (aah a b ha:)).1
def aln:=λa b ha=>(Q6.cs (aah a b ha:)).2
noncomputable def aqf:=mk ahH Tryz.func22 (hc jr (hc Q6 hn))
def jV:=λe mem hw hm=>aqf.cs (ato ⟨kH,kI⟩ ⟨alm,aln⟩ e mem hw hm:)
def atG:=λe mem hw hm=>(jV e mem hw hm).1
def atH:=λe mem hw hm=>(jV e mem hw hm).2
set_option maxRecDepth 100000
set_option maxHeartbeats 4000000
noncomputable def afB:=mk Xx Tryz.func49 (hc jr hn)
def vJ:=λa=>afB.cs (apw ⟨kH,kI⟩ a:)
def aqg:=λa=>(vJ a).1
def aqh:=λa=>(vJ a).2
noncomputable def alo:=mk ahI Tryz.func23 (hc afB (hc abE (hc jr hn)))
def z8:=λpc l hl=>alo.cs (atd ⟨aqg,aqh⟩ ⟨afy,afz⟩ ⟨kH,kI⟩ pc l hl:)
def aqi:=λpc l hl=>(z8 pc l hl).1
def aqj:=λpc l hl=>(z8 pc l hl).2
noncomputable def abF:=mk Xy Tryz.func89 (hc jr hn)
def sN:=λo=>abF.cs (aoI ⟨kH,kI⟩ o:)
def afC:=λo=>(sN o).1
def afD:=λo=>(sN o).2
noncomputable def abG:=mk Xz Tryz.func136 (hc jr hn)
def Cx:=λa=>abG.cs (an9 ⟨kH,kI⟩ a:)
def afE:=λa=>(Cx a).1
def afF:=λa=>(Cx a).2
noncomputable def afG:=mk XA Tryz.func164 (hc jr hn)
def lH:=λo=>afG.cs (aoJ ⟨kH,kI⟩ o:)
def aqk:=λo=>(lH o).1
def aql:=λo=>(lH o).2
noncomputable def abH:=mk XB Tryz.func137 (hc afG (hc jr hn))
def lI:=λb x n h0 h1 h2=>abH.cs (aoL aqk aql ⟨kH,kI⟩ b x n h0 h1 h2:)
def afH:=λb x n h0 h1 h2=>(lI b x n h0 h1 h2).1
def afI:=λb x n h0 h1 h2=>(lI b x n h0 h1 h2).2
noncomputable def afJ:=mk XC Tryz.func83 (hc abH (hc abF (hc zY (hc jr (hc abG (hc Td hn))))))
def lX:=λb i h0 h1 h2 h3=>afJ.cs (aoM ⟨afH,afI⟩ ⟨afC,afD⟩ ⟨Cv,Cw⟩ ⟨kH,kI⟩ ⟨afE,afF⟩ ⟨abC,abD⟩ b i h0 h1 h2 h3:)
def aqm:=λb i h0 h1 h2 h3=>(lX b i h0 h1 h2 h3).1
def aqn:=λb i h0 h1 h2 h3=>(lX b i h0 h1 h2 h3).2
noncomputable def Te:=mk XD Tryz.func95 hn
def afK:=λb=>(Te.cs (afd b:)).1
def afL:=λb=>(Te.cs (afd b:)).2
noncomputable def afM:=mk XE Tryz.func84 (hc Te (hc abH (hc zY (hc jr hn))))
def lJ:=λb h2=>afM.cs (aoN ⟨afK,afL⟩ ⟨afH,afI⟩ ⟨Cv,Cw⟩ ⟨kH,kI⟩ b h2:)
def aqo:=λb h2=>(lJ b h2).1
def aqp:=λb h2=>(lJ b h2).2
noncomputable def abI:=mk XF Tryz.func50 (hc afM (hc afJ (hc jr hn)))
def Cy:=λb h2=>abI.cs (aoO aqo aqp aqm aqn ⟨kH,kI⟩ b h2:)
def afN:=λb h2=>(Cy b h2).1
def afO:=λb h2=>(Cy b h2).2
noncomputable def Q7:=mk OY Tryz.func85 hn
def alp:=λa b ha=>(Q7.cs (ZI a b ha:)).1
def alq:=λa b ha=>(Q7.cs (ZI a b ha:)).2
noncomputable def afP:=mk XG Tryz.func51 (hc Q7 hn)
def xE:=λa b ha=>afP.cs (aoY ⟨alp,alq⟩ a b ha:)
def aqr:=λa b ha=>(xE a b ha).1
def aqs:=λa b ha=>(xE a b ha).2
noncomputable def abJ:=mk XH Tryz.func192 hn
def aqt:=λa n=>(abJ.cs (ae6 a n:)).1
def aqu:=λa n=>(abJ.cs (ae6 a n:)).2
noncomputable def abK:=mk OZ Tryz.func206 (hc abJ hn)
def iX:=λa n ha=>abK.cs (ah5 aqt aqu a n ha:)
def alr:=λa n ha=>(iX a n ha).1
def als:=λa n ha=>(iX a n ha).2
noncomputable def abL:=mk O1 Tryz.func191 (hc abK hn)
def iy:=λa n ha=>abL.cs (ah6 alr als a n ha:)
def alu:=λa n ha=>(iy a n ha).1
def alv:=λa n ha=>(iy a n ha).2
noncomputable def abM:=mk XI Tryz.func166 (hc abL hn)
def sO:=λa n ha=>abM.cs (aoe alu alv a n ha:)
def afQ:=λa n ha=>(sO a n ha).1
def afR:=λa n ha=>(sO a n ha).2
noncomputable def ael:=mk ahJ Tryz.func198 hn
def aqv:=λa=>(ael.cs (aob a:)).1
def aqw:=λa=>(ael.cs (aob a:)).2
noncomputable def aem:=mk ahK Tryz.func174 (hc ael hn)
def oK:=λa b=>aem.cs (asS ⟨aqv,aqw⟩ a b:)
def alx:=λa b=>(oK a b).1
def aly:=λa b=>(oK a b).2
noncomputable def aen:=mk ahL Tryz.func175 hn
def aqx:=λa b=>(aen.cs (aoc a b:)).1
def aqy:=λa b=>(aen.cs (aoc a b:)).2
noncomputable def abN:=mk O4 Tryz.func199 (hc aem hn)
def jv:=λa b ha=>abN.cs (ah3 ⟨alx,aly⟩ a b ha:)
def alz:=λa b ha=>(jv a b ha).1
def alA:=λa b ha=>(jv a b ha).2
noncomputable def Lm:=mk XJ Tryz.func176 (hc aen (hc aem (hc abN hn)))
def oL:=λa b ha=>Lm.cs (aod ⟨alx,aly⟩ alz alA ⟨aqx,aqy⟩ a b ha:)
def Tf:=λa b ha=>(oL a b ha).1
def Tg:=λa b ha=>(oL a b ha).2
noncomputable def aeo:=mk ahM Tryz.func200 (hc ael hn)
def vK:=λa b=>aeo.cs (asT ⟨aqv,aqw⟩ a b:)
def aqz:=λa b=>(vK a b).1
def aqA:=λa b=>(vK a b).2
noncomputable def abO:=mk O5 Tryz.func178 (hc aeo hn)
def jh:=λa ha=>abO.cs (ah4 ⟨aqz,aqA⟩ a ha:)
def alB:=λa ha=>(jh a ha).1
def alC:=λa ha=>(jh a ha).2
noncomputable def abP:=mk XK Tryz.func180 hn
def aqB:=λm=>(abP.cs (ae7 m:)).1
def aqC:=λm=>(abP.cs (ae7 m:)).2
noncomputable def abQ:=mk O6 Tryz.func201 (hc abP hn)
def dI:=λa ha=>abQ.cs (ah7 (G:=(λm:aj=>0<m.atoms.length/\m.atoms.getD 0 default<0)) aqB aqC a ha:)
def alD:=λa ha=>(dI a ha).1
def alE:=λa ha=>(dI a ha).2
noncomputable def abR:=mk O7 Tryz.func179 (hc abQ hn)
def dh:=λa ha=>abR.cs (ah8 (G:=(λm:aj=>0<m.atoms.length/\m.atoms.getD 0 default<0)) alD alE a ha:)
def alF:=λa ha=>(dh a ha).1
def alG:=λa ha=>(dh a ha).2
noncomputable def Cz:=mk XL Tryz.func145 (hc jr (hc abM (hc abO (hc Lm (hc abR hn)))))
def Aa:=λa ha=>Cz.cs (aof ⟨kH,kI⟩ ⟨afQ,afR⟩ alB alC ⟨Tf,Tg⟩ alF alG a ha:)
def Fx:=λa ha=>(Aa a ha).1
def Fy:=λa ha=>(Aa a ha).2
noncomputable def abS:=mk XM Tryz.func139 (hc jr (hc abG (hc abM (hc Cz (hc Td hn)))))
def kJ:=λa n ha=>abS.cs (aot ⟨kH,kI⟩ ⟨afE,afF⟩ ⟨afQ,afR⟩ ⟨Fx,Fy⟩ ⟨abC,abD⟩ a n ha:)
def afS:=λa n ha=>(kJ a n ha).1
def afT:=λa n ha=>(kJ a n ha).2
noncomputable def Ti:=mk XO Tryz.func142 (hc aen (hc aem (hc Lm hn)))
def sP:=λa b ha=>Ti.cs (aog ⟨aqx,aqy⟩ ⟨alx,aly⟩ ⟨Tf,Tg⟩ a b ha:)
def abT:=λa b ha=>(sP a b ha).1
def abU:=λa b ha=>(sP a b ha).2
noncomputable def Fz:=mk XP Tryz.func99 (hc Ti hn)
def lY:=λa b ha=>Fz.cs (aoh ⟨abT,abU⟩ a b ha:)
def GU:=λa b ha=>(lY a b ha).1
def GV:=λa b ha=>(lY a b ha).2
noncomputable def afU:=mk XQ Tryz.func169 (hc Fz hn)
def lZ:=λa b ha=>afU.cs (aoq ⟨GU,GV⟩ a b ha:)
def aqD:=λa b ha=>(lZ a b ha).1
def aqE:=λa b ha=>(lZ a b ha).2
noncomputable def afV:=mk XR Tryz.func168 (hc afU hn)
def lK:=λa b hb=>afV.cs (aor ⟨aqD,aqE⟩ a b hb:)
def aqF:=λa b hb=>(lK a b hb).1
def aqG:=λa b hb=>(lK a b hb).2
noncomputable def abV:=mk O8 Tryz.func167 (hc afV hn)
def dJ:=λa b ha hb=>abV.cs (aia aqF aqG a b ha hb:)
def alH:=λa b ha hb=>(dJ a b ha hb).1
def alI:=λa b ha hb=>(dJ a b ha hb).2
noncomputable def abW:=mk XU Tryz.func140 (hc abV hn)
def nL:=λa b ha hb=>abW.cs (aos alH alI a b ha hb:)
def afW:=λa b ha hb=>(nL a b ha hb).1
def afX:=λa b ha hb=>(nL a b ha hb).2
noncomputable def abX:=mk O9 Tryz.func177 hn
def eP:=λa=>abX.cs (ah9 a:)
def alJ:=λa=>(eP a).1
def alK:=λa=>(eP a).2
noncomputable def abY:=mk XV Tryz.func143 (hc abS (hc abW (hc abX hn)))
def oM:=λt a ht ha=>abY.cs (aov ⟨afS,afT⟩ ⟨afW,afX⟩ alJ alK t a ht ha:)
def afY:=λt a ht ha=>(oM t a ht ha).1
def afZ:=λt a ht ha=>(oM t a ht ha).2
noncomputable def abZ:=mk XW Tryz.func144 (hc jr hn)
def vL:=λa=>abZ.cs (aol ⟨kH,kI⟩ a:)
def af0:=λa=>(vL a).1
def af2:=λa=>(vL a).2
set_option maxRecDepth 100000
set_option maxHeartbeats 4000000
noncomputable def ab0:=mk XY Tryz.func94 (hc abZ (hc abY hn))
def qG:=λkd k t fl ht=>ab0.cs (aoS ⟨af0,af2⟩ afY afZ kd k t fl ht:)
def af3:=λkd k t fl ht=>(qG kd k t fl ht).1
def af4:=λkd k t fl ht=>(qG kd k t fl ht).2
noncomputable def ab1:=mk XZ Tryz.func86 (hc ab0 hn)
def oN:=λt fl ht hl=>ab1.cs (aoT ⟨af3,af4⟩ t fl ht hl:)
def af5:=λt fl ht hl=>(oN t fl ht hl).1
def af6:=λt fl ht hl=>(oN t fl ht hl).2
noncomputable def Tj:=mk X0 Tryz.func165 hn
def af7:=λa ha=>(Tj.cs (ae9 a ha:)).1
def af8:=λa ha=>(Tj.cs (ae9 a ha:)).2
noncomputable def Tk:=mk X3 Tryz.func138 (hc Tj hn)
def lM:=λa ha=>Tk.cs (aon ⟨af7,af8⟩ a ha:)
def ab2:=λa ha=>(lM a ha).1
def ab3:=λa ha=>(lM a ha).2
noncomputable def ab4:=mk X4 Tryz.func87 (hc Tk hn)
def l5:=λa ha=>ab4.cs (aoo ⟨ab2,ab3⟩ a ha:)
def af9:=λa ha=>(l5 a ha).1
def aga:=λa ha=>(l5 a ha).2
noncomputable def agb:=mk X5 Tryz.func52 (hc ab4 (hc ab1 hn))
def xG:=agb.cs (aoU ⟨af9,aga⟩ ⟨af5,af6⟩:)
def aqH:=(xG).1
def aqI:=(xG).2
noncomputable def agc:=mk X6 Tryz.func88 (hc abS (hc abW hn))
def Ab:=λa ha=>agc.cs (aou ⟨afS,afT⟩ ⟨afW,afX⟩ a ha:)
def aqJ:=λa ha=>(Ab a ha).1
def aqK:=λa ha=>(Ab a ha).2
noncomputable def ab5:=mk X7 Tryz.func90 (hc jr hn)
def oO:=λo=>ab5.cs (aoK ⟨kH,kI⟩ o:)
def ab6:=λo=>(oO o).1
def ab7:=λo=>(oO o).2
noncomputable def ab8:=mk Pb Tryz.func91 hn
def dW:=λa h0 h1=>ab8.cs (aiW a h0 h1:)
def alL:=λa h0 h1=>(dW a h0 h1).1
def alM:=λa h0 h1=>(dW a h0 h1).2
noncomputable def Tm:=mk X8 Tryz.func92 (hc jr hn)
def sQ:=λa=>Tm.cs (aoj ⟨kH,kI⟩ a:)
def ab9:=λa=>(sQ a).1
def acd:=λa=>(sQ a).2
noncomputable def ace:=mk X9 Tryz.func147 (hc Cz hn)
def xH:=λa ha=>ace.cs (aom ⟨Fx,Fy⟩ a ha:)
def agd:=λa ha=>(xH a ha).1
def agf:=λa ha=>(xH a ha).2
noncomputable def Lp:=mk Ya Tryz.func197 hn
def acf:=λa=>(Lp.cs (ae8 a:)).1
def acg:=λa=>(Lp.cs (ae8 a:)).2
noncomputable def FB:=mk Yb Tryz.func208 (hc Lm hn)
def Ac:=λa b ha=>FB.cs (aop ⟨Tf,Tg⟩ a b ha:)
def agh:=λa b ha=>(Ac a b ha).1
def agi:=λa b ha=>(Ac a b ha).2
noncomputable def ach:=mk Pf Tryz.func224 (hc FB hn)
def dP:=λa b d hd h1 h2 h3=>ach.cs (aic ⟨agh,agi⟩ a b d hd h1 h2 h3:)
def alN:=λa b d hd h1 h2 h3=>(dP a b d hd h1 h2 h3).1
def alO:=λa b d hd h1 h2 h3=>(dP a b d hd h1 h2 h3).2
noncomputable def Q8:=mk Ph Tryz.func233 hn
def alP:=λa b n d hl h1 h2 h3 h4=>(Q8.cs (Zc a b n d hl h1 h2 h3 h4:)).1
def alQ:=λa b n d hl h1 h2 h3 h4=>(Q8.cs (Zc a b n d hl h1 h2 h3 h4:)).2
noncomputable def BL:=mk Pj Tryz.func231 (hc Q8 hn)
def fV:=λa m b d hl h1 h2 h3 h4=>BL.cs (aib alP alQ a m b d hl h1 h2 h3 h4:)
def alR:=λa m b d hl h1 h2 h3 h4=>(fV a m b d hl h1 h2 h3 h4).1
def alS:=λa m b d hl h1 h2 h3 h4=>(fV a m b d hl h1 h2 h3 h4).2
noncomputable def cK:Nat->Ct aD M4
 | 0=>never M4
 | k+1=>cn (ET.F (FB.c.pre,FB.c.fn,BL.c.pre,BL.c.fn,(cK k).pre,(cK k).fn,()))
def kK:∀k:Nat,dN E 225 (dK (cK k))/\∀(a m b:Int) (d:List aj),Bo a m b d->b-a<k->(cK k).pre (a,m,b,d,())=true/\Mrg d ((cK k).fn (a,m,b,d,())).1 a b
 | 0=>⟨kG (enters_of Tryz.func225 (by kernel_rfl) rfl),λa m b d h1 h2=>(by have g1:=h1.h2;have g2:=h1.h3;omega)⟩
 | k+1=>by
  have ih:=kK k;have t:Fn E 225 (ET.F (FB.c.pre,FB.c.fn,BL.c.pre,BL.c.fn,(cK k).pre,(cK k).fn,())) (cK (k+1)):=mkF Tryz.func225 ET (hc FB (hc BL (hk ih.1 hn)));exact⟨t.ok,λa m b d h1 h2=>t.cs (aie ⟨agh,agi⟩ alR alS (k:Int) (λa m b d h1 h2=>(ih.2 a m b d h1 h2).1) (λa m b d h1 h2=>(ih.2 a m b d h1 h2).2) a m b d h1 ah)⟩
noncomputable def alT:Ct aD M4:=cK 1000000000
def alU:dN E 225 (dK alT):=(kK 1000000000).1
def agj{a m b:Int}{d:List aj}(h:Bo a m b d):b-a< ((1000000000:Nat):Int):=by have g0:=h.sh.1;have g1:=h.h1;have g2:=h.h4;omega
def alV:=λa m b d h=>((kK 1000000000).2 a m b d h (agj h)).1
def alW:=λa m b d h=>((kK 1000000000).2 a m b d h (agj h)).2
noncomputable def aci:=mk Pm Tryz.func213 (hc ach (hk alU hn))
def fZ:=λn d hd hn=>aci.cs (aif alN alO alV alW n d hd hn:)
def alX:=λn d hd hn=>(fZ n d hd hn).1
def alY:=λn d hd hn=>(fZ n d hd hn).2
noncomputable def acj:=mk Pn Tryz.func207 (hc aci hn)
def bY:=λd hd=>acj.cs (aii alX alY d hd:)
def alZ:=λd hd=>(bY d hd).1
def al0:=λd hd=>(bY d hd).2
noncomputable def acn:=mk Yc Tryz.func193 (hc Lm (hc Cz (hc Lp (hc Tj (hc acj hn)))))
def FD:=λl hl hc=>acn.cs (aox ⟨Tf,Tg⟩ ⟨Fx,Fy⟩ ⟨acf,acg⟩ ⟨af7,af8⟩ alZ al0 l hl hc:)
def agk:=λl hl hc=>(FD l hl hc).1
def agl:=λl hl hc=>(FD l hl hc).2
noncomputable def aco:=mk Po Tryz.func209 hn
def eU:=λn h1 h2=>aco.cs (aij n h1 h2:)
def al1:=λn h1 h2=>(eU n h1 h2).1
def al2:=λn h1 h2=>(eU n h1 h2).2
noncomputable def acp:=mk Pp Tryz.func194 (hc aco hn)
def dU:=λa b ha hb=>acp.cs (aik al1 al2 a b ha hb:)
def al3:=λa b ha hb=>(dU a b ha hb).1
def al4:=λa b ha hb=>(dU a b ha hb).2
noncomputable def agm:=mk Yd Tryz.func170 (hc Cz (hc acn (hc acp hn)))
def xI:=λa b ha hb=>agm.cs (aoy ⟨Fx,Fy⟩ ⟨agk,agl⟩ al3 al4 a b ha hb:)
def aqL:=λa b ha hb=>(xI a b ha hb).1
def aqM:=λa b ha hb=>(xI a b ha hb).2
noncomputable def Q9:=mk Pq Tryz.func210 hn
def al5:=λn h1 h2=>(Q9.cs (Zd n h1 h2:)).1
def al6:=λn h1 h2=>(Q9.cs (Zd n h1 h2:)).2
noncomputable def acr:=mk Pv Tryz.func195 (hc Q9 hn)
def jW:=λa b ha hb=>acr.cs (ail al5 al6 a b ha hb:)
def al7:=λa b ha hb=>(jW a b ha hb).1
def al8:=λa b ha hb=>(jW a b ha hb).2
noncomputable def acs:=mk Pw Tryz.func214 (hc aeo hn)
def gG:=λa b d hd h1 h2=>acs.cs (aiK ⟨aqz,aqA⟩ a b d hd h1 h2:)
def al9:=λa b d hd h1 h2=>(gG a b d hd h1 h2).1
def ama:=λa b d hd h1 h2=>(gG a b d hd h1 h2).2
noncomputable def amb:Ct aD WX:=never WX
def amc:dN E 215 (dK amb):=kG (enters_of Tryz.func215 (by kernel_rfl) rfl)
noncomputable def amd:Ct aD WY:=never WY
def ame:dN E 216 (dK amd):=kG (enters_of Tryz.func216 (by kernel_rfl) rfl)
noncomputable def amf:Ct aD M5:=never M5
def amg:dN E 217 (dK amf):=kG (enters_of Tryz.func217 (by kernel_rfl) rfl)
noncomputable def amh:Ct aD WZ:=never WZ
def ami:dN E 218 (dK amh):=kG (enters_of Tryz.func218 (by kernel_rfl) rfl)
noncomputable def amj:Ct aD M6:=never M6
def amk:dN E 219 (dK amj):=kG (enters_of Tryz.func219 (by kernel_rfl) rfl)
noncomputable def aml:Ct aD M7:=never M7
def amm:dN E 220 (dK aml):=kG (enters_of Tryz.func220 (by kernel_rfl) rfl)
noncomputable def amn:Ct aD M8:=never M8
def amo:dN E 221 (dK amn):=kG (enters_of Tryz.func221 (by kernel_rfl) rfl)
noncomputable def lU:Ct aD EP:=never EP
def lV:dN E 211 (dK lU):=kG (enters_of Tryz.func211 (by kernel_rfl) rfl)
noncomputable def acu:=mk Px Tryz.func211 (hc aeo (hc acs (hk amc (hk ame (hk amg (hk ami (hk amk (hk amm (hk amo (hk lV hn))))))))))
def iP:=λa b k d hd h1 h2=>acu.cs (aiL al9 ama _ _ _ _ _ _ _ _ _ _ _ _ _ _ _ _ a b k d hd h1 h2:)
def amq:=λa b k d hd h1 h2=>(iP a b k d hd h1 h2).1
def amr:=λa b k d hd h1 h2=>(iP a b k d hd h1 h2).2
set_option maxRecDepth 100000
set_option maxHeartbeats 4000000
noncomputable def acv:Ct aD W9:={pre:=λx=>decide ((0:Int)<=x.1)&&decide ((x.1:Int)<=18446744073709551615),fn:=λx=>((Lib.bitLen (x.1:Int).toNat:Int),())}
def ams(n:Int)(h1:0<=n)(h2:n<=18446744073709551615):acv.pre (n,())=true:=by
 show(decide _&&decide _)=true;simp only [Bool.and_eq_true,decide_eq_true_eq];exact⟨h1,h2⟩
def amt:dN E 212 (dK acv):=
 aao (enters_of Tryz.func212 (by kernel_rfl) rfl) rfl λx w h=>by
  have h':(decide ((0:Int)<=x)&&decide (x<=18446744073709551615))=true:=h;simp only [Bool.and_eq_true,decide_eq_true_eq]at h';exact bits_Len x w h'.1 h'.2
noncomputable def acw:=mk Py Tryz.func196 (hc acu (hk amt hn))
def kP:=λa ha=>acw.cs (aiM amq amr ams a ha:)
def amu:=λa ha=>(kP a ha).1
def amv:=λa ha=>(kP a ha).2
noncomputable def acy:=mk Ye Tryz.func172 (hc Cz (hc Lp (hc acn (hc acr (hc acw hn)))))
def xJ:=λa b ha hb=>acy.cs (aoz ⟨Fx,Fy⟩ ⟨acf,acg⟩ ⟨agk,agl⟩ al7 al8 amu amv a b ha hb:)
def agn:=λa b ha hb=>(xJ a b ha hb).1
def agp:=λa b ha hb=>(xJ a b ha hb).2
noncomputable def agq:=mk Yf Tryz.func171 (hc Cz (hc Tm (hc zY (hc acy hn))))
def sS:=λa n ha=>agq.cs (aoA ⟨Fx,Fy⟩ ⟨ab9,acd⟩ ⟨Cv,Cw⟩ ⟨agn,agp⟩ a n ha:)
def aqN:=λa n ha=>(sS a n ha).1
def aqO:=λa n ha=>(sS a n ha).2
noncomputable def agr:=mk Yg Tryz.func173 (hc zY (hc Lp hn))
def Ad:=λop a b=>agr.cs (aoi ⟨Cv,Cw⟩ ⟨acf,acg⟩ op a b:)
def aqP:=λop a b=>(Ad op a b).1
def aqQ:=λop a b=>(Ad op a b).2
noncomputable def ags:=mk Yh Tryz.func141 (hc Fz (hc Tm (hc agr (hc agm (hc acy (hc agq (hc ace hn)))))))
def xK:=λop x y hx hy=>ags.cs (aoB ⟨GU,GV⟩ ⟨ab9,acd⟩ ⟨aqP,aqQ⟩ ⟨aqL,aqM⟩ ⟨agn,agp⟩ ⟨aqN,aqO⟩ ⟨agd,agf⟩ op x y hx hy:)
def aqR:=λop x y hx hy=>(xK op x y hx hy).1
def aqS:=λop x y hx hy=>(xK op x y hx hy).2
noncomputable def agt:=mk Yi Tryz.func93 (hc Ti (hc ags (hc abY (hc abZ hn))))
def qH:=λt op x y ht hx hy=>agt.cs (aoC ⟨abT,abU⟩ aqR aqS afY afZ ⟨af0,af2⟩ t op x y ht hx hy:)
def aqT:=λt op x y ht hx hy=>(qH t op x y ht hx hy).1
def aqU:=λt op x y ht hx hy=>(qH t op x y ht hx hy).2
noncomputable def agu:=mk Yj Tryz.func181 (hc Tk hn)
def oP:=λa ha=>agu.cs (aoQ ⟨ab2,ab3⟩ a ha:)
def aqV:=λa ha=>(oP a ha).1
def aqW:=λa ha=>(oP a ha).2
noncomputable def agv:=mk Yk Tryz.func146 (hc Tk (hc agu hn))
def l6:=λs hs=>agv.cs (aoR ⟨ab2,ab3⟩ ⟨aqV,aqW⟩ s hs:)
def aqX:=λs hs=>(l6 s hs).1
def aqY:=λs hs=>(l6 s hs).2
noncomputable def agw:=mk Yl Tryz.func148 (hc zY hn)
def xL:=λr a b=>agw.cs (aoP ⟨Cv,Cw⟩ r a b:)
def aqZ:=λr a b=>(xL r a b).1
def aq0:=λr a b=>(xL r a b).2
noncomputable def agx:=mk Ym Tryz.func96 (hc ace (hc Cz (hc Ti (hc agv (hc Fz (hc agw hn))))))
def xM:=λs n hs h0 h1=>agx.cs (aoV ⟨agd,agf⟩ ⟨Fx,Fy⟩ ⟨abT,abU⟩ aqX aqY ⟨GU,GV⟩ ⟨aqZ,aq0⟩ s n hs h0 h1:)
def aq1:=λs n hs h0 h1=>(xM s n hs h0 h1).1
def aq2:=λs n hs h0 h1=>(xM s n hs h0 h1).2
noncomputable def agy:=mk Yn Tryz.func53 (hc Te (hc abI (hc ab5 (hc abF (hc Tm (hc agx (hc agc (hc ab4 (hc agt (hc ab0 (hc ab1 (hc ab8 hn))))))))))))
def xO:=λt b ht hb=>agy.cs (aoW ⟨afK,afL⟩ ⟨afN,afO⟩ ⟨ab6,ab7⟩ ⟨afC,afD⟩ ⟨ab9,acd⟩ ⟨aq1,aq2⟩ ⟨aqJ,aqK⟩ ⟨af9,aga⟩ ⟨aqT,aqU⟩ ⟨af3,af4⟩ ⟨af5,af6⟩ alL alM t b ht hb:)
def aq3:=λt b ht hb=>(xO t b ht hb).1
def aq4:=λt b ht hb=>(xO t b ht hb).2
noncomputable def agz:=mk Yo Tryz.func150 (hc Fz hn)
def nM:=λa b ha=>agz.cs (aoZ ⟨GU,GV⟩ a b ha:)
def aq5:=λa b ha=>(nM a b ha).1
def aq6:=λa b ha=>(nM a b ha).2
noncomputable def acz:=mk Pz Tryz.func149 (hc agz hn)
def bA:=λa b ha=>acz.cs (aiY ⟨aq5,aq6⟩ a b ha:)
def amw:=λa b ha=>(bA a b ha).1
def amx:=λa b ha=>(bA a b ha).2
noncomputable def acA:=mk Yp Tryz.func100 (hc acz hn)
def qI:=λa b ha=>acA.cs (ao0 ⟨amw,amx⟩ a b ha:)
def agA:=λa b ha=>(qI a b ha).1
def agB:=λa b ha=>(qI a b ha).2
noncomputable def agC:=mk Yq Tryz.func98 (hc Fz (hc acA hn))
def qJ:=λa b ha=>agC.cs (ao1 ⟨GU,GV⟩ ⟨agA,agB⟩ a b ha:)
def aq7:=λa b ha=>(qJ a b ha).1
def aq8:=λa b ha=>(qJ a b ha).2
noncomputable def acB:=mk PD Tryz.func97 (hc agC hn)
def aY:=λa b ha=>acB.cs (aiZ ⟨aq7,aq8⟩ a b ha:)
def amy:=λa b ha=>(aY a b ha).1
def amA:=λa b ha=>(aY a b ha).2
noncomputable def agD:=mk Yr Tryz.func54 (hc Fz (hc acA (hc acB hn)))
def vM:=λa b ha=>agD.cs (ao2 ⟨GU,GV⟩ ⟨agA,agB⟩ amy amA a b ha:)
def aq9:=λa b ha=>(vM a b ha).1
def ara:=λa b ha=>(vM a b ha).2
noncomputable def acC:=mk Yt Tryz.func24 (hc abI (hc afP (hc agb (hc agy (hc agD hn)))))
def vN:=λb c hb hc=>acC.cs (ao3 ⟨afN,afO⟩ ⟨aqr,aqs⟩ aqH aqI ⟨aq3,aq4⟩ ⟨aq9,ara⟩ b c hb hc:)
def agE:=λb c hb hc=>(vN b c hb hc).1
def agF:=λb c hb hc=>(vN b c hb hc).2
noncomputable def FH:=mk Yu Tryz.func102 (hc ab5 hn)
def CB:=λkd x y k a1 a2 a3 a4 a5 a6 a ops h=>(FH.cs (afj ⟨ab6,ab7⟩ kd x y k a1 a2 a3 a4 a5 a6 a ops h:)).1
def CF:=λkd x y k a1 a2 a3 a4 a5 a6 a ops h=>(FH.cs (afj ⟨ab6,ab7⟩ kd x y k a1 a2 a3 a4 a5 a6 a ops h:)).2
noncomputable def agG:=mk Yv Tryz.func101 (hc FH hn)
def kL:=λv i a1 a2 a3 a4 a5 a6 a ops h=>agG.cs (apx ⟨CB,CF⟩ v i a1 a2 a3 a4 a5 a6 a ops h:)
def arb:=λv i a1 a2 a3 a4 a5 a6 a ops h=>(kL v i a1 a2 a3 a4 a5 a6 a ops h).1
def ard:=λv i a1 a2 a3 a4 a5 a6 a ops h=>(kL v i a1 a2 a3 a4 a5 a6 a ops h).2
noncomputable def acD:=mk Yw Tryz.func103 (hc FH hn)
def arf:=λk a1 a2 a3 a4 a5 a6 a ops h=>(acD.cs (afk ⟨CB,CF⟩ k a1 a2 a3 a4 a5 a6 a ops h:)).1
def arh:=λk a1 a2 a3 a4 a5 a6 a ops h=>(acD.cs (afk ⟨CB,CF⟩ k a1 a2 a3 a4 a5 a6 a ops h:)).2
noncomputable def acE:=mk Yx Tryz.func104 (hc FH hn)
def ari:=λk a1 a2 a3 a4 a5 a6 a ops h=>(acE.cs (afl ⟨CB,CF⟩ k a1 a2 a3 a4 a5 a6 a ops h:)).1
def arj:=λk a1 a2 a3 a4 a5 a6 a ops h=>(acE.cs (afl ⟨CB,CF⟩ k a1 a2 a3 a4 a5 a6 a ops h:)).2
noncomputable def acF:=mk Yy Tryz.func105 (hc FH hn)
def ark:=λop x y a1 a2 a3 a4 a5 a6 a ops h=>(acF.cs (afm ⟨CB,CF⟩ op x y a1 a2 a3 a4 a5 a6 a ops h:)).1
def arl:=λop x y a1 a2 a3 a4 a5 a6 a ops h=>(acF.cs (afm ⟨CB,CF⟩ op x y a1 a2 a3 a4 a5 a6 a ops h:)).2
noncomputable def agH:=mk Yz Tryz.func55 (hc acF (hc acE (hc agG (hc FH (hc acD hn)))))
def lN:=λi B a h h8 h0=>agH.cs (apy ark arl ari arj arb ard ⟨CB,CF⟩ arf arh i B a h h8 h0:)
def arn:=λi B a h h8 h0=>(lN i B a h h8 h0).1
def aro:=λi B a h h8 h0=>(lN i B a h h8 h0).2
noncomputable def acG:=mk YA Tryz.func56 hn
def arp:=λb hb=>(acG.cs (aff b hb:)).1
def arq:=λb hb=>(acG.cs (aff b hb:)).2
noncomputable def ars:=mk ahN Tryz.func25 (hc alo (hc acG (hc agH hn)))
def sU:=λpc l hl=>ars.cs (ate ⟨aqi,aqj⟩ ⟨arp,arq⟩ arn aro pc l hl:)
def atI:=λpc l hl=>(sU pc l hl).1
def atJ:=λpc l hl=>(sU pc l hl).2
noncomputable def amB:=mk ahO Tryz.func58 hn
def atK:=λe pc=>(amB.cs (apN e pc:)).1
def atL:=λe pc=>(amB.cs (apN e pc:)).2
noncomputable def acH:=mk PE Tryz.func57 (hc amB hn)
def dA:=λl pc h=>acH.cs (ajy atK atL l pc h:)
def amC:=λl pc h=>(dA l pc h).1
def amD:=λl pc h=>(dA l pc h).2
set_option maxRecDepth 100000
set_option maxHeartbeats 4000000
noncomputable def aru:=mk ahP Tryz.func26 (hc acH hn)
def vO:=λl pc h=>aru.cs (atm amC amD l pc h:)
def atM:=λl pc h=>(vO l pc h).1
def atN:=λl pc h=>(vO l pc h).2
noncomputable def agI:=mk YB Tryz.func9 (hc ars (hc alo (hc aqe (hc aqf (hc aru (hc acC hn))))))
def Ae:=λl mem h hm=>agI.cs (apV ⟨atI,atJ⟩ ⟨aqi,aqj⟩ ⟨atE,atF⟩ ⟨atG,atH⟩ ⟨atM,atN⟩ ⟨agE,agF⟩ l mem h hm:)
def arv:=λl mem h hm=>(Ae l mem h hm).1
def arw:=λl mem h hm=>(Ae l mem h hm).2
noncomputable def Tn:=mk YC Tryz.func11 hn
def agJ:=λa b hlen=>(Tn.cs (afq a b hlen:)).1
def agK:=λa b hlen=>(Tn.cs (afq a b hlen:)).2
noncomputable def acI:=mk YD Tryz.func151 hn
def arx:=λa b=>(acI.cs (afg a b:)).1
def arz:=λa b=>(acI.cs (afg a b:)).2
noncomputable def agL:=mk YE Tryz.func106 (hc acI hn)
def vP:=λa b hlen=>agL.cs (apb arx arz a b hlen:)
def arA:=λa b hlen=>(vP a b hlen).1
def arB:=λa b hlen=>(vP a b hlen).2
noncomputable def acJ:=mk YF Tryz.func59 (hc agL hn)
def qK:=λa b h=>acJ.cs (apc ⟨arA,arB⟩ a b h:)
def agM:=λa b h=>(qK a b h).1
def agN:=λa b h=>(qK a b h).2
noncomputable def agO:=mk YG Tryz.func27 (hc Tn (hc acJ hn))
def oQ:=λa b h1 h2=>agO.cs (apT ⟨agJ,agK⟩ ⟨agM,agN⟩ a b h1 h2:)
def arC:=λa b h1 h2=>(oQ a b h1 h2).1
def arD:=λa b h1 h2=>(oQ a b h1 h2).2
noncomputable def agP:=mk YH Tryz.func10 (hc agO hn)
def nN:=λa b hD=>agP.cs (apU arC arD a b hD:)
def arE:=λa b hD=>(nN a b hD).1
def arF:=λa b hD=>(nN a b hD).2
noncomputable def acK:=mk PG Tryz.func28 (hc Tc hn)
def qL:=λm k h h0 h1=>acK.cs (ajC ⟨afs,aft⟩ m k h h0 h1:)
def amE:=λm k h h0 h1=>(qL m k h h0 h1).1
def amF:=λm k h h0 h1=>(qL m k h h0 h1).2
noncomputable def agQ:=mk YI Tryz.func60 (hc aaq hn)
def qM:=λq m h h0 h1=>agQ.cs (apf ⟨afu,afv⟩ q m h h0 h1:)
def arG:=λq m h h0 h1=>(qM q m h h0 h1).1
def arH:=λq m h h0 h1=>(qM q m h h0 h1).2
noncomputable def agR:=mk YJ Tryz.func29 (hc agQ hn)
def oU:=λl m h h0 h1=>agR.cs (apg arG arH l m h h0 h1:)
def arI:=λl m h h0 h1=>(oU l m h h0 h1).1
def arJ:=λl m h h0 h1=>(oU l m h h0 h1).2
noncomputable def agS:=mk YK Tryz.func12 (hc afx (hc agR (hc acK hn)))
def sV:=λe k h h0 h1=>agS.cs (apY ⟨aqa,aqb⟩ ⟨arI,arJ⟩ amE amF e k h h0 h1:)
def arK:=λe k h h0 h1=>(sV e k h h0 h1).1
def arL:=λe k h h0 h1=>(sV e k h h0 h1).2
noncomputable def acL:=mk PI Tryz.func61 (hc rP hn)
def vQ:=λl h=>acL.cs (ajo ⟨yD,yE⟩ l h:)
def amG:=λl h=>(vQ l h).1
def amH:=λl h=>(vQ l h).2
noncomputable def acM:=mk PK Tryz.func30 (hc rP (hc lT (hc acL hn)))
def Af:=λm h=>acM.cs (ajp ⟨yD,yE⟩ ⟨pO,pQ⟩ ⟨amG,amH⟩ m h:)
def amI:=λm h=>(Af m h).1
def amJ:=λm h=>(Af m h).2
noncomputable def acN:=mk PL Tryz.func31 (hc QW hn)
def Ag:=λl h=>acN.cs (ajf ⟨abh,abj⟩ l h:)
def amK:=λl h=>(Ag l h).1
def amL:=λl h=>(Ag l h).2
noncomputable def acO:=mk PN Tryz.func13 (hc abu (hc acN (hc acM hn)))
def Ah:=λe h1 h2 h3=>acO.cs (ajx ⟨alb,alc⟩ ⟨amK,amL⟩ ⟨amI,amJ⟩ e h1 h2 h3:)
def amM:=λe h1 h2 h3=>(Ah e h1 h2 h3).1
def amN:=λe h1 h2 h3=>(Ah e h1 h2 h3).2
noncomputable def acP:=mk PO Tryz.func32 (hc JB hn)
def qN:=λm h=>acP.cs (ajD ⟨abv,abw⟩ m h:)
def amO:=λm h=>(qN m h).1
def amP:=λm h=>(qN m h).2
noncomputable def acQ:=mk PU Tryz.func64 (hc Q5 hn)
def qO:=λq h1 h2=>acQ.cs (aji ⟨aby,abz⟩ q h1 h2:)
def amQ:=λq h1 h2=>(qO q h1 h2).1
def amR:=λq h1 h2=>(qO q h1 h2).2
noncomputable def acR:=mk PW Tryz.func33 (hc acQ hn)
def oV:=λl h=>acR.cs (ajj amQ amR l h:)
def amS:=λl h=>(oV l h).1
def amT:=λl h=>(oV l h).2
noncomputable def acS:=mk PX Tryz.func14 (hc abB (hc acR (hc acP hn)))
def sW:=λe h1 h2 h3=>acS.cs (ajF ⟨alj,alk⟩ ⟨amS,amT⟩ ⟨amO,amP⟩ e h1 h2 h3:)
def amU:=λe h1 h2 h3=>(sW e h1 h2 h3).1
def amV:=λe h1 h2 h3=>(sW e h1 h2 h3).2
noncomputable def agT:=mk YL Tryz.func65 (hc zY hn)
def vR:=λa ha=>agT.cs (aoF ⟨Cv,Cw⟩ a ha:)
def arM:=λa ha=>(vR a ha).1
def arN:=λa ha=>(vR a ha).2
noncomputable def agU:=mk YM Tryz.func34 (hc zY (hc jr (hc agT hn)))
def Ai:=λm h=>agU.cs (apn ⟨Cv,Cw⟩ ⟨kH,kI⟩ ⟨arM,arN⟩ m h:)
def arO:=λm h=>(Ai m h).1
def arP:=λm h=>(Ai m h).2
noncomputable def agV:=mk YN Tryz.func68 (hc acC hn)
def vS:=λq h1 h2=>agV.cs (ao5 ⟨agE,agF⟩ q h1 h2:)
def arQ:=λq h1 h2=>(vS q h1 h2).1
def arR:=λq h1 h2=>(vS q h1 h2).2
noncomputable def acT:=mk PY Tryz.func107 (hc agV hn)
def dw:=λl h=>acT.cs (ai0 arQ arR l h:)
def amW:=λl h=>(dw l h).1
def amX:=λl h=>(dw l h).2
noncomputable def acU:=mk PZ Tryz.func67 (hc acT hn)
def bX:=λl h=>acU.cs (ai1 amW amX l h:)
def amY:=λl h=>(bX l h).1
def amZ:=λl h=>(bX l h).2
noncomputable def agW:=mk YO Tryz.func35 (hc acU hn)
def Aj:=λl h=>agW.cs (ao6 amY amZ l h:)
def arS:=λl h=>(Aj l h).1
def arT:=λl h=>(Aj l h).2
noncomputable def agX:=mk YP Tryz.func15 (hc agI (hc agW (hc agU hn)))
def Ak:=λe h1 h2 h3=>agX.cs (ap0 ⟨arv,arw⟩ ⟨arS,arT⟩ ⟨arO,arP⟩ e h1 h2 h3:)
def arU:=λe h1 h2 h3=>(Ak e h1 h2 h3).1
def arV:=λe h1 h2 h3=>(Ak e h1 h2 h3).2
noncomputable def agY:=mk YQ Tryz.func36 (hc Tn hn)
def qP:=λa b h=>agY.cs (apX ⟨agJ,agK⟩ a b h:)
def arW:=λa b h=>(qP a b h).1
def arX:=λa b h=>(qP a b h).2
noncomputable def agZ:=mk YR Tryz.func69 (hc acJ hn)
def qQ:=λa b h1 h2=>agZ.cs (aph ⟨agM,agN⟩ a b h1 h2:)
def arY:=λa b h1 h2=>(qQ a b h1 h2).1
def arZ:=λa b h1 h2=>(qQ a b h1 h2).2
noncomputable def ag0:=mk YS Tryz.func37 (hc agZ hn)
def oW:=λa b hD=>ag0.cs (apj arY arZ a b hD:)
def ar0:=λa b hD=>(oW a b hD).1
def ar1:=λa b hD=>(oW a b hD).2
noncomputable def ag1:=mk YT Tryz.func16 (hc agP (hc ag0 (hc agY hn)))
def sZ:=λa b h1 h2 h3=>ag1.cs (apZ ⟨arE,arF⟩ ⟨ar0,ar1⟩ ⟨arW,arX⟩ a b h1 h2 h3:)
def ar2:=λa b h1 h2 h3=>(sZ a b h1 h2 h3).1
def ar3:=λa b h1 h2 h3=>(sZ a b h1 h2 h3).2
noncomputable def ag2:=mk YU Tryz.func4 (hc agX (hc ag1 (hc agS (hc acS (hc acO hn)))))
def l9:=λe h=>ag2.cs (ap1 ⟨arU,arV⟩ ar2 ar3 arK arL amU amV ⟨amM,amN⟩ e h:)
def ar4:=λe h=>(l9 e h).1
def ar5:=λe h=>(l9 e h).2
end Go.TX.F
namespace Go.Proofs.YthhkbfpkkbhibaaGreatDoor
open Go.ChangeShapes Go.WideShapes Go.ChangeAt Go.RowKit
def atO:ownKnob Tryz.prog.godebug=Option.none:=by kernel_rfl
def ag3:laidOutB Tryz.prog=true:=by kernel_rfl
abbrev Lr:List (String×DataW Unit):=Rows.fnExactEngOkRow.laid
def am0:Tryz.prog.globalNamed (Rows.fnExactEngOkRow.named.getD 0 Rows.fnExactEngOkRow.func)=some 0:=by kernel_rfl
def am1:(Tryz.prog.globals[0]?).map (·.type)=some 124:=by kernel_rfl
def acV(os:Os)(args:Array Value):laidMetH Tryz.prog Lr ((World.doorLaid Tryz.prog 400 os).forCall (λ_ _=>0) ⟨#[],args,[]⟩).memory:=
 laidMetH_of_parts3 (fuel:=8) (laidMet_of_run' 8 (by kernel_rfl) (by kernel_rfl)) (by kernel_rfl) (by kernel_rfl)
def aep{W:World}(h:laidMetH Tryz.prog Lr W):Go.AE.o7 Go.TX.Seat.E (Go.TX.entry W) W:=by
 rw [MakeChecks.laidMetH_plain _ _ _ (by kernel_rfl)]at h;obtain⟨ps,⟨g0,t0,cs0,f0,p0,q0,hg0,ht0,hv0,hd0,_,_⟩,_⟩:=h;obtain rfl:=Option.some.inj (am0.symm.trans hg0);obtain rfl:=Option.some.inj (am1.symm.trans ht0);obtain⟨v,e,r⟩:=Go.TX.afr (c:= .form) (dec:=Go.TX.ap3) Tryz.underlying124 (by kernel_rfl) (by decide) (Go.TX.aeg Tryz.underlying123 (by kernel_rfl) ⟨rfl,rfl,rfl,rfl⟩ ⟨rfl,rfl,rfl,rfl⟩ Tryz.underlying4 Tryz.underlying3 Tryz.underlying121 Tryz.underlying9 ⟨by kernel_rfl,by kernel_rfl,by kernel_rfl,by kernel_rfl⟩) hd0;have hc:=World.var?_cell hg0 hv0 0;rw [Array.eq_one_of_toList e]at hc;have hc:W.cell? ⟨0,0,none⟩=some v:=by simpa using hc
 intro g d hg;have hg':(if g==0 then some (.rows 4 (Go.TX.aL .form Go.TX.uH))else none)=some d:=hg;split at hg'
 .rename_i c;have c:=beq_iff_eq.1 c;subst c;cases hg';exact⟨Go.TX.S9 hc,v,hc,r⟩
 .cases hg'
set_option maxRecDepth 100000 in
def lifted(os:Os)(started:os.Started)(H:Type)(enc:TypeId×Value->H):
  ReturnsInHanded {} Tryz.checked os 4 .any (λw args=>(Rows.fnExactEngOkSpec.pre enc Tryz.prog Tryz.f4 [] false w args/\laidMetH Tryz.prog Lr w)/\sizedMet enc Tryz.prog Tryz.f4 (OpenSpec.ofChange Rows.fnExactEngOkSpec) false w args) (Rows.fnExactEngOkSpec.post enc Tryz.prog Tryz.f4 false true false false):=by
 refine returnsInHanded_of_change_and (C:=Tryz.checked) (X:=λw _=>laidMetH Tryz.prog Lr w) (λ_ _ _ hh h=>h.of_heap hh) atO started (by kernel_rfl) Tryz.func4
  (ChangeSpec.witness_shaped (enc:=enc) (C:=Tryz.checked) (os:=os) (X:=λw _=>laidMetH Tryz.prog Lr w) false (World.doorLaid Tryz.prog 400 os) #[.agg #[.slice none 0 0,.int .i64 0,.slice none 0 0,.int .i64 0,.bool false,.bool false,.int .i64 0,.slice none 0 0,.slice none 0 0,.int .i64 0,.slice none 0 0,.slice none 0 0]] 8 rfl (World.shaped_of_RefB (by kernel_rfl) (by kernel_rfl)) (by kernel_rfl) (by kernel_rfl) (by kernel_rfl) (acV os _)) ?_
 intro W base args ds gs before hval0 hW _ _ hL _;have hval:∀(j:Nat) t v,Tryz.f4.params[j]? =some t->args[j]? =some v->Value.okWide Tryz.prog W .any base t v:=hval0;have hW':=hW;obtain⟨p,q,hA0,hV,rfl,_,_⟩:=hW;have hA:DataW.TrodAll enc Tryz.prog W 0 (λ_=>true) true Tryz.f4.params.toList args.toList ds p:=hA0;rw [Tryz.params4]at hA hval;obtain⟨v0,d0,rfl,rfl,h0⟩:=trodAll_one hA;obtain⟨_,_,_,_,g0,_,rfl,_,_,_,_,_⟩:=trodVars_one hV
 clear hA0 hval0
 have atP:Go.TX.CO enc Tryz.prog W (.rows .iop) 47:=Go.TX.ajK Tryz.underlying47 Tryz.underlying177 (by kernel_rfl) rfl (by kernel_rfl);have ar6:Go.TX.EO enc Tryz.prog W .blk Go.TX.BG 49:=Go.TX.ajL Tryz.underlying49 (by kernel_rfl) (by kernel_rfl) atP;have atQ:Go.TX.EO enc Tryz.prog W .cac Go.TX.KG 51:=Go.TX.ajQ Tryz.underlying51 (by kernel_rfl) ⟨rfl,rfl⟩ ⟨rfl,rfl⟩ (by kernel_rfl) (by kernel_rfl) Tryz.underlying23 Tryz.underlying3 (by kernel_rfl) ar6;have atS:Go.TX.EO enc Tryz.prog W .cer Go.TX.CG 110:=Go.TX.ajM Tryz.underlying110 (by kernel_rfl) ⟨rfl,rfl⟩ ⟨rfl,rfl⟩ (by kernel_rfl) ar6;have ar7:Go.TX.EO enc Tryz.prog W .aM Go.TX.MG 33:=Go.TX.aej Tryz.underlying33 (by kernel_rfl) (.cons rfl (by kernel_rfl) (Go.TX.aei Tryz.underlying23 Tryz.underlying3 (by kernel_rfl))<| .cons rfl (by kernel_rfl) (Go.TX.aeh Tryz.underlying3)<| .cons rfl (by kernel_rfl) (Go.TX.aei Tryz.underlying23 Tryz.underlying3 (by kernel_rfl))<| .cons rfl (by kernel_rfl) (Go.TX.aeh Tryz.underlying3)<| .cons rfl (by kernel_rfl) (Go.TX.ap5 Tryz.underlying4)<| .cons rfl (by kernel_rfl) (Go.TX.ap5 Tryz.underlying4)<| .cons rfl (by kernel_rfl) (Go.TX.aeh Tryz.underlying3)<| .cons rfl (by kernel_rfl) (Go.TX.aei Tryz.underlying23 Tryz.underlying3 (by kernel_rfl))<| .cons rfl (by kernel_rfl) (Go.TX.aei Tryz.underlying23 Tryz.underlying3 (by kernel_rfl))<| .cons rfl (by kernel_rfl) (Go.TX.aeh Tryz.underlying3)<| .nil);have atT:Go.TX.EO enc Tryz.prog W .eng Go.TX.NG 36:=Go.TX.ajR Tryz.underlying36 (by kernel_rfl) ⟨rfl,rfl⟩ ⟨rfl,rfl⟩ ⟨rfl,rfl⟩ (by kernel_rfl) (by kernel_rfl) (by kernel_rfl) ar7 Tryz.underlying22 (by kernel_rfl) atQ Tryz.underlying34 (by kernel_rfl) atS;have hlt:∀x∈p,x.block<W.heap.size:=λx hx=>by simpa using hW'.lt x (List.mem_append_left _ hx)
 obtain⟨c0,rfl,_⟩:=okWide_struct Tryz.underlying36 (hval 0 36 v0 rfl rfl);obtain⟨l0,rfl⟩:∃l:List Value,c0=l.toArray:=⟨c0.toList,by simp⟩;have h0':=h0;obtain⟨f0,q0⟩:=h0';obtain⟨x,hr,hb⟩:=atT f0 l0 _ q0 hlt;have hp:=Go.TX.F.ar4 x hb;have hq:=Go.TX.F.ar5 x hb;refine(Go.TX.aek Go.TX.F.ag2.ok hr (aep hL) hp).mono λe W' ⟨he,hw⟩=> ?_
 have he:e= .returned (.bool true):=he.trans (congrArg (λz:Bool×Unit=>Ending.returned (.bool z.1)) hq);refine⟨_,he,[d0],[g0],p++q,[],p,q,hW',trodAll_mk1 (shut_bool Tryz.underlying4 true),?_,hw.trodVars ag3 (by kernel_rfl) hV,hw.frame _,λh=>by cases h⟩;exact trodAll_mk1 (Below.trod ag3 (by kernel_rfl) (of_decide_eq_true (by kernel_rfl)) h0 hw hlt)
def y1:Tryz.pinned.checked.prog.funcNamed Rows.fnExactEngOkRow.func=some 4:=by kernel_rfl
def aS{a b:Bool}(h:a=true)(k:b=true):(a&&b)=true:=by rw [h,k];rfl
set_option maxHeartbeats 4000000 in
def y2:joinedFacts Tryz.pinned.checked.prog 4 Tryz.f4 Rows.fnExactEngOkSpec Rows.fnExactEngOkRow=true:=by
 unfold joinedFacts
 repeat' with_reducible apply aS
 all_goals (as_aux_lemma=>kernel_rfl)
def y3:Func.isWrapper Tryz.prog Tryz.f4 Rows.fnExactEngOkRow.wrapper Rows.fnExactEngOkRow.mainSum:=(by unfold Func.isWrapper;first | (rw [if_pos (by decide+kernel)];kernel_rfl) | (rw [if_neg (by decide+kernel)];exact⟨rfl,rfl⟩))
def UC:Rows.FnExactEngOkSaid:=
 OpenClaim.holds_of_wide 4 Tryz.f4 rfl rfl rfl rfl rfl rfl rfl ⟨rfl,rfl,rfl,rfl,rfl⟩ rfl rfl rfl rfl rfl y1 Tryz.func4 y2
  (of_decide_eq_true (by kernel_rfl)) y3
  (λos started H enc _=>lifted os started H enc)
theorem x_holds:Rows.FnExactEngOkCardSaid:=
 Claim7.holds_tied_plain_at .later [] [.widerDeep] true (true, "c97ebe739ebc1a611810616ca2523e830bc5cf34d39e551d776101f795ecf87e") false UC (λ_ h=>by cases h) (by kernel_rfl) (λ_ h=>by cases h) fnExactEngOk_row_tie rfl ⟨rfl,rfl⟩ (by kernel_rfl) rfl
  (λf fn hf hfn=>by
   obtain rfl:f=4:=Option.some.inj ((show Tryz.prog.funcNamed Rows.fnExactEngOkRow.func=some 4 by kernel_rfl).symm.trans hf) |>.symm;obtain rfl:fn=Tryz.f4:=(Option.some.inj (Tryz.func4.symm.trans hfn)).symm;refine⟨by kernel_rfl,λj t ht=> ?_⟩;rw [Tryz.params4]at ht;rcases j with _ | j
   .obtain rfl:36=t:=by simpa using ht
    exact(show Tryz.prog.wantsStandIn 36=false by kernel_rfl)
   .simp at ht)
  (by kernel_rfl)
end Go.Proofs.YthhkbfpkkbhibaaGreatDoor
