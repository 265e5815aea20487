/- For every input the law returns true, and the input reads as it did. No condition. -/
import Derived.Test.YtpkmgiojecpceaaGreatZd
import Derived.ChangeSlices
import Derived.ChangeSame
import Derived.JoinedOf
import Derived.JoinedAt
import Derived.Handed
import Derived.Below
import Derived.Carry
import Derived.OpenShut
import Derived.ChangeKeysEq
import Derived.Test.YtpkmgiojecpceaaGreatRows
set_option maxHeartbeats 1000000
set_option linter.all false
set_option linter.unusedSectionVars false
set_option linter.unusedVariables false
set_option linter.unusedSimpArgs false
namespace Go.TX.F
open Go Go.AE Go.TX
def CAB:(∀e:Cac,gY .cac 0 .i64 e=e.words)/\(∀e:Cac,dw .cac 1 e=e.blk.pc)/\(∀e:Cac,dw .cac 2 e=e.blk.len)/\(∀e:Cac,gY .cac 3 .iop e=e.blk.ops)/\(∀e:Cac,dw .cac 4 e=e.blk.fin)/\(∀e:Cac,dw .cac 5 e=e.blk.x)/\(∀e:Cac,dw .cac 6 e=e.blk.y)/\(∀e:Cac,dw .cac 7 e=e.blk.k):=
 ⟨λ_=>rfl,λ_=>rfl,λ_=>rfl,λ_=>rfl,λ_=>rfl,λ_=>rfl,λ_=>rfl,λ_=>rfl⟩
def CAM:(∀e:Cac,Co.mk .cac (e.words,e.blk.pc,e.blk.len,e.blk.ops,e.blk.fin,e.blk.x,e.blk.y,e.blk.k,())=e)/\(∀x:Cac,([x].length:Int)=1):=⟨λ_=>rfl,λ_=>rfl⟩
def ShK(l:List Cac):Prop:=l.length<1000/\∀x∈l,x.words.length<1000/\x.blk.ops.length<1000000/\x.blk.pc<=1000000
def ShK.at{l:List Cac}(h:ShK l)(i:Nat):(l.getD i default).words.length<1000/\(l.getD i default).blk.ops.length<1000000/\(l.getD i default).blk.pc<=1000000:=by
 by_cases c:i<l.length
 .rw [getD_lt c];exact h.2 _ (List.getElem_mem _)
 .rw [List.getD_eq_getElem?_getD,List.getElem?_eq_none ah];exact⟨by decide,by decide,by decide⟩
def ShK.sub{l r:List Cac}(h:ShK l)(n:r.length<1000)(s:∀x∈r,x∈l):ShK r:=⟨n,λx hx=>h.2 x (s x hx)⟩
def FC(l:List Cac)(pc k:Int):Prop:=(k= -1/\∀j:Int,0<=j->j<l.length->(((l).getD (j).toNat default)).blk.pc≠pc)\/(0<=k/\k<l.length/\(((l).getD (k).toNat default)).blk.pc=pc/\∀j:Int,0<=j->j<k->(((l).getD (j).toNat default)).blk.pc≠pc)
def FC.one{l:List Cac}{pc k m:Int}(h:FC l pc k)(g:FC l pc m):k=m:=by
 rcases h with⟨a,b⟩ | ⟨a,b,c,d⟩<;>rcases g with⟨a',b'⟩ | ⟨a',b',c',d'⟩
 .omega
 .exact absurd c' (b _ a' b')
 .exact absurd c (b' _ a b)
 .rcases Int.lt_trichotomy k m with h | h | h
  .exact absurd c (d' _ a h)
  .exact h
  .exact absurd c' (d _ a' h)
def adK(l:List Cac)(pc:Int)(h:l.length<1000000000):Xa.F () (l,pc,()) (λy=>FC l pc y.1):=by
 dsimp only [Xa,gm];refine aB (λ(y:List Cac×Int×Int×Unit)=>y.1=l/\y.2.1=pc/\0<=y.2.2.1/\y.2.2.1<=l.length/\∀j:Int,0<=j->j<y.2.2.1->(((l).getD (j).toNat default)).blk.pc≠pc) (λy=>(l.length-y.2.2.1).toNat) ⟨rfl,rfl,by simp,by simp,λj h0 h1=>absurd h1 (by simp;omega)⟩ ?_;rintro⟨(l:List Cac),(pc:Int),(i:Int),⟨⟩⟩ hI;dsimp only at hI ⊢;obtain⟨rfl,rfl,h1,h2,h3⟩:=hI;simp (disch:=omega) only [RR,CAB];refine⟨λg=>⟨h1,g,λe=>Or.inr ⟨h1,g,e,h3⟩,λe=>⟨⟨ah,ah,λj j0 j1=> ?_⟩,ah⟩⟩,λg=>Or.inl ⟨rfl,λj j0 j1=>h3 j j0 ah⟩⟩;by_cases c:j<i
 .exact h3 j j0 c
 .rw [show j=i by omega];exact e
def There(w mem:List Int)(pc:Int):Prop:=∀k:Int,0<=k->k<w.length->pc+k<mem.length/\((mem).getD (pc+k).toNat default)=((w).getD (k).toNat default)
def adL(w mem:List Int)(pc:Int)(hw:w.length<1000)(hm:mem.length<1000000000)(p0:0<=pc)(p1:pc<=1000000):Wm.F () (w,mem,pc,()) (λy=>y=(bp (There w mem pc),())):=by
 dsimp only [Wm,gm];refine aB (λ(y:List Int×List Int×Int×Int×Unit)=>y.1=w/\y.2.1=mem/\y.2.2.1=pc/\0<=y.2.2.2.1/\y.2.2.2.1<=w.length/\∀k:Int,0<=k->k<y.2.2.2.1->pc+k<mem.length/\((mem).getD (pc+k).toNat default)=((w).getD (k).toNat default)) (λy=>(w.length-y.2.2.2.1).toNat) ⟨rfl,rfl,rfl,by simp,by simp,λj h0 h1=>absurd h1 (by simp;omega)⟩ ?_;rintro⟨(w:List Int),(mem:List Int),(pc:Int),(i:Int),⟨⟩⟩ hI;dsimp only at hI ⊢;obtain⟨rfl,rfl,rfl,h1,h2,h3⟩:=hI;simp (disch:=omega) only [RR];refine⟨λg=>⟨ah,ah,ah,ah,λe=> ?_,λe=>⟨⟨ah,ah,λj j0 j1=> ?_⟩,ah⟩⟩,λg=> ?_⟩
 .rw [bV];intro q;obtain⟨q1,q2⟩:=q i h1 g;rcases e with e | e
  .omega
  .exact e q2
 .by_cases c:j<i
  .exact h3 j j0 c
  .rw [show j=i by omega];exact⟨ah,e.2⟩
 .rw [aT];exact λj j0 j1=>h3 j j0 ah
abbrev cE(e : Cac) : Int × Int × Int × Int × Int × Int × List Int × List IOp × Unit := (e.blk.pc, e.blk.len, e.blk.fin, e.blk.x, e.blk.y, e.blk.k, e.words, e.blk.ops, ())
theorem ald{p1 f1}(U1:Y77 p1 f1)(e:Cac)(hw:e.words.length<1000)(ho:e.blk.ops.length<1000000):Wj.F (p1,f1,()) (e,()) (λy=>y=cE e):=by
 have mE:∀c:Blk,Co.mk .blk (c.pc,c.len,c.ops,c.fin,c.x,c.y,c.k,())=c:=λ_=>rfl
 dsimp only [Wj,gm,lU];simp (disch:=omega) only [RR,CAB,mE,U1.hp _ ho,U1.hf _ ho,List.nil_append,List.length_nil];omega
noncomputable def qd (mem:List Int) (x:Cac):Bool:=bp (0<=x.blk.pc/\There x.words mem x.blk.pc)
def mO{α:Type}{d:α}{P:α->Bool}{l:List α}{i:Int}(h0:0<=i)(h:i<l.length):(l.take (i+1).toNat).filter P=(l.take i.toNat).filter P++(if P (l.getD i.toNat d)=true then [l.getD i.toNat d]else []):=by
 rw [show(i+1).toNat=i.toNat+1 by omega,List.take_succ_eq_append_getElem ah,getD_lt ah,List.filter_append]
 congr 1
 rw [List.filter_cons,List.filter_nil]
def rU{α:Type}(P:α->Bool)(l:List α)(i:Nat):((l.take i).filter P).length<=i:=Nat.le_trans (List.length_filter_le _ _) (List.length_take_le _ _)
structure agY(pp:Cac×Unit->Bool)(ff:Cac×Unit->Int×Int×Int×Int×Int×Int×List Int×List IOp×Unit):Prop where
 hp:∀e,e.words.length<1000->e.blk.ops.length<1000000->pp (e,())=true
 hf:∀e,e.words.length<1000->e.blk.ops.length<1000000->ff (e,())=cE e
structure ale(pp:List Int×List Int×Int×Unit->Bool)(ff:List Int×List Int×Int×Unit->Bool×Unit):Prop where
 hp:∀w mem pc,w.length<1000->mem.length<1000000000->0<=pc->pc<=1000000->pp (w,mem,pc,())=true
 hf:∀w mem pc,w.length<1000->mem.length<1000000000->0<=pc->pc<=1000000->ff (w,mem,pc,())=(bp (There w mem pc),())
def alf{p1 f1 p2 f2}(U1:agY p1 f1)(U2:ale p2 f2)(l:List Cac)(mem:List Int)(h:ShK l)(hm:mem.length<1000000000):Wn.F (p1,f1,p2,f2,()) (l,mem,()) (λy=>y=(l.filter (qd mem),())):=by
 obtain⟨hp1,hf1⟩:=U1;obtain⟨hp2,hf2⟩:=U2;have hl:=h.1;have mC:=CAM;dsimp only [Wn,gm,lU,List.map_cons,List.map_nil]at*;refine aB (λ(y:List Cac×List Int×Int×List Cac×Unit)=>y.1=l/\y.2.1=mem/\0<=y.2.2.1/\y.2.2.1<=l.length/\y.2.2.2.1=(l.take y.2.2.1.toNat).filter (qd mem)) (λy=>(l.length-y.2.2.1).toNat) ⟨rfl,rfl,by simp,by simp,by simp⟩ ?_;rintro⟨(l:List Cac),(mem:List Int),(i:Int),(o:List Cac),⟨⟩⟩ hI;dsimp only at hI ⊢;obtain⟨rfl,rfl,h1,h2,rfl⟩:=hI;obtain⟨a1,a2,a3⟩:=h.at i.toNat;have fl:=rU (qd mem) l i.toNat;by_cases c:i<l.length
 .have fs:=mO (d:=default) (P:=qd mem) h1 c;by_cases d:0<=(((l).getD (i).toNat default)).blk.pc
  .have P2:=hp2 _ mem _ a1 hm d a3;have H2:=hf2 _ mem _ a1 hm d a3;have P1:=hp1 _ a1 a2;have H1:=hf1 _ a1 a2;simp (disch:=omega) only [RR,CAB,c,d,P1,P2,H1,H2,mC];refine⟨h1,h1,h1,λe=>⟨h1,ah,⟨ah,ah,?_⟩,ah⟩,λe=>⟨⟨ah,ah,?_⟩,ah⟩⟩
   .rw [fs,if_pos (show qd mem _=true from aT ⟨d,aV.1 e⟩)]
   .rw [fs,if_neg (by rw [qd,bV (λg=>by rw [aT g.2]at e;simp at e)];decide),List.append_nil]
  .simp (disch:=omega) only [RR,CAB,c,d,mC];refine⟨h1,λe=>e.1.elim,λ_=>⟨⟨ah,ah,?_⟩,ah⟩⟩;rw [fs,if_neg (by rw [qd,bV (λg=>d g.1)];decide),List.append_nil]
 .simp (disch:=omega) only [RR,CAB,c];rw [List.take_of_length_le ah]
noncomputable def kR:List Int->List Ins
 | []=> []
 | w::r=>if bp (Wo w/\bW (gK w))=true then gK w::kR r else []
def Rq:∀w:List Int,(kR w).length<=w.length
 | []=>Nat.le_refl _
 | w::r=>by
  have:=Rq r;unfold kR;split<;>simp only [List.length_cons,List.length_nil]<;>omega
def Ea:∀(a b:List Int),(∀w∈a,Wo w/\bW (gK w))->kR (a++b)=a.map gK++kR b
 | [],b,_=>rfl
 | w::a,b,h=>by
  rw [List.cons_append,kR,if_pos (aT (h w (by simp))),Ea a b (λx hx=>h x (by simp [hx]))];rfl
theorem alg{p1 f1}(U1:agQ p1 f1)(w:List Int)(h:w.length<1000):WR.F (p1,f1,()) (w,()) (λy=>y=(kR w,())):=by
 have e:∀x y z u:Int,Co.mk .ins (x,y,z,u,())=⟨x,y,z,u⟩:=λ_ _ _ _=>rfl
 dsimp only [WR,gm];refine aB (λ(y:List Int×Int×List Ins×Unit)=>y.1=w/\0<=y.2.1/\y.2.1<=w.length/\y.2.2.1=(w.take y.2.1.toNat).map gK/\∀x∈w.take y.2.1.toNat,Wo x/\bW (gK x)) (λy=>(w.length-y.2.1).toNat) ⟨rfl,by simp,by simp,by simp,by simp⟩ ?_;rintro⟨(w:List Int),(i:Int),(o:List Ins),⟨⟩⟩ hI;dsimp only at hI ⊢;obtain⟨rfl,h1,h2,rfl,h3⟩:=hI;simp (disch:=omega) only [RR,U1.hp,U1.hf];have tl:=List.length_take_le' i.toNat w;refine⟨λg=>⟨h1,g,?_⟩,λg=> ?_⟩
 .have dr:w=w.take i.toNat++(w.getD i.toNat default::w.drop (i.toNat+1)):=by
   rw [getD_lt ah,<-List.drop_eq_getElem_cons ah,List.take_append_drop]
  unfold tkI;by_cases c:Wo (w.getD i.toNat default)/\bW (gK (w.getD i.toNat default))
  .rw [if_pos (aT c)];simp (disch:=omega) only [RR,e];have ts:=dB (d:=default) h1 g (l:=w) rfl;have ml:((w.take i.toNat).map gK).length=i.toNat:=by rw [List.length_map,List.length_take];omega
   refine⟨by rw [ml];simp only [List.length_cons,List.length_nil];omega,⟨ah,ah,by rw [<-ts,List.map_append];rfl,λx hx=> ?_⟩,ah⟩;rw [<-ts,List.mem_append,List.mem_singleton]at hx;exact hx.elim (h3 x) (λq=>q▸c)
  .rw [if_neg (by rw [bV c];decide)];simp (disch:=omega) only [RR]
   conv=>rhs;rw [dr]
   rw [Ea _ _ h3,kR,if_neg (by rw [bV c];decide),List.append_nil]
   done
 .rw [List.take_of_length_le ah]at h3 ⊢;have:=Ea w [] h3;rw [List.append_nil]at this;rw [this];simp [kR]
def neP(pc:Int)(x:Cac):Bool:= !decide (x.blk.pc=pc)
def pE(l:List Cac)(e:Cac):List Cac:=(l.filter (neP e.blk.pc)++ [e]).drop ((l.filter (neP e.blk.pc)).length+1-4)
def alh{p1 f1}(U1:agY p1 f1)(l:List Cac)(e:Cac)(h:ShK l)(h1:e.words.length<1000)(h2:e.blk.ops.length<1000000):Xb.F (p1,f1,()) (l,e,()) (λy=>y=(pE l e,())):=by
 obtain⟨hp1,hf1⟩:=U1;have hl:=h.1;have mC:=CAM;dsimp only [Xb,gm,lU,List.map_cons,List.map_nil]at*;refine aB (λ(y:List Cac×Int×Cac×List Cac×Unit)=>y.1=l/\0<=y.2.1/\y.2.1<=l.length/\y.2.2.1=e/\y.2.2.2.1=(l.take y.2.1.toNat).filter (neP e.blk.pc)) (λy=>(l.length-y.2.1).toNat) ⟨rfl,by simp,by simp,rfl,by simp⟩ ?_;rintro⟨(l:List Cac),(i:Int),(e:Cac),(o:List Cac),⟨⟩⟩ hI;dsimp only at hI ⊢;obtain⟨rfl,i1,i2,rfl,rfl⟩:=hI;obtain⟨a1,a2,a3⟩:=h.at i.toNat;have fl:=rU (neP e.blk.pc) l i.toNat;have P0:=hp1 _ h1 h2;have H0:=hf1 _ h1 h2;by_cases c:i<l.length
 .have fs:=mO (d:=default) (P:=neP e.blk.pc) i1 c;by_cases d:(((l).getD (i).toNat default)).blk.pc=e.blk.pc
  .rw [if_neg (by simp [neP,d, -List.getD_eq_getElem?_getD])]at fs;simp (disch:=omega) only [RR,CAB,c,d,mC];exact⟨i1,⟨ah,ah,by rw [fs,List.append_nil]⟩,ah⟩
  .rw [if_pos (by simp [neP,d, -List.getD_eq_getElem?_getD])]at fs;have P1:=hp1 _ a1 a2;have H1:=hf1 _ a1 a2;simp (disch:=omega) only [RR,CAB,c,d,P1,H1,mC];exact⟨i1,i1,ah,⟨ah,ah,fs.symm⟩,ah⟩
 .simp (disch:=omega) only [RR,CAB,c,P0,H0,mC];rw [List.take_of_length_le ah]at fl ⊢;have el:((l.filter (neP e.blk.pc)++ [e]).length:Int)=(l.filter (neP e.blk.pc)).length+1:=by rw [List.length_append,List.length_singleton];omega
  have el':(l.filter (neP e.blk.pc)++ [e]).length=(l.filter (neP e.blk.pc)).length+1:=by rw [List.length_append,List.length_singleton]
  rw [el];generalize hn:(l.filter (neP e.blk.pc)).length=n at*;have w:IntKind.i64.wrap ((n:Int)+1-4)=n+1-4:=w64 ah ah;rw [w];unfold pE;rw [hn];refine⟨ah,λg3=>⟨ah,ah,ah,ah,ah,ah,?_⟩,λg3=>by rw [show n+1-4=0 by omega];rfl⟩;rw [List.take_of_length_le ah,show((n:Int)+1-4).toNat=n+1-4 by omega]
def Ak(x:Cac):Prop:=(kR x.words).length=x.words.length/\oC x.blk.pc (kR x.words)/\chk (lower x.blk.pc (kR x.words)) x.blk=true
theorem ali{p1 f1 p2 f2 p4 f4}(U1:agW p1 f1)(U2:alb p2 f2){p3:List Int×Unit->Bool}{f3:List Int×Unit->List Ins×Unit}(hp3:∀w,w.length<1000->p3 (w,())=true)(hf3:∀w,w.length<1000->f3 (w,())=(kR w,()))(U4:Y96 p4 f4)(e:Cac)(hw:e.words.length<1000)(ho:e.blk.ops.length<1000000):WS.F (p1,f1,p2,f2,p3,f3,p4,f4,()) (e,()) (λy=>y=(bp (Ak e),())):=by
 have mE:∀c:Blk,Co.mk .blk (c.pc,c.len,c.ops,c.fin,c.x,c.y,c.k,())=c:=λ_=>rfl
 have tl:=Rq e.words;have P1:=U1.hp e.blk.pc (kR e.words) ah;have H1:=U1.hf e.blk.pc (kR e.words) ah;have P2:=U2.hp e.blk.pc (kR e.words) ah;have H2:=U2.hf e.blk.pc (kR e.words) ah;have lw:=Ii H1;rw [H1]at lw;have P4:=U4.hp (lower e.blk.pc (kR e.words)) e.blk (by have:((lower e.blk.pc (kR e.words)).ops.length:Int)<=5000:=lw;omega) ah;have H4:=U4.hf (lower e.blk.pc (kR e.words)) e.blk (by have:((lower e.blk.pc (kR e.words)).ops.length:Int)<=5000:=lw;omega) ah;dsimp only [WS,gm,lU];simp (disch:=omega) only [RR,CAB,mE,hp3 _ hw,hf3 _ hw,P1,H1,P2,H2,P4,H4];have eq:bp (Ak e)=(decide (((kR e.words).length:Int)=e.words.length)&&bp (oC e.blk.pc (kR e.words))&&chk (lower e.blk.pc (kR e.words)) e.blk):=by
  rw [Bool.eq_iff_iff,aV,Bool.and_eq_true,Bool.and_eq_true,aV,decide_eq_true_eq];exact⟨λ⟨a,b,c⟩=>⟨⟨ah,b⟩,c⟩,λ⟨⟨a,b⟩,c⟩=>⟨ah,b,c⟩⟩
 exact⟨λ_=>by rw [eq],λg=>⟨g,by rw [eq,g];rfl⟩⟩
def OO(l:List Cac)(mem:List Int):Prop:=l.length<=4/\(∀j:Int,0<=j->j<l.length->Ak ((l).getD (j).toNat default)/\There (((l).getD (j).toNat default)).words mem (((l).getD (j).toNat default)).blk.pc)/\∀i j:Int,0<=i->i<j->j<l.length->(((l).getD (i).toNat default)).blk.pc≠(((l).getD (j).toNat default)).blk.pc
def alj{p2 f2}{p1:Cac×Unit->Bool}{f1:Cac×Unit->Bool×Unit}(hp1:∀e,e.words.length<1000->e.blk.ops.length<1000000->p1 (e,())=true)(hf1:∀e,e.words.length<1000->e.blk.ops.length<1000000->f1 (e,())=(bp (Ak e),()))(U2:ale p2 f2)(l:List Cac)(mem:List Int)(h:ShK l)(hm:mem.length<1000000000):WT.F (p1,f1,p2,f2,()) (l,mem,()) (λy=>y=(bp (OO l mem),())):=by
 have hl:=h.1;dsimp only [WT,gm,lU];simp (disch:=omega) only [RR,CAB];refine⟨λg=>by rw [bV (λe=>by have:=e.1;omega)],λg=> ?_⟩;refine aB (λ(y:List Cac×List Int×Int×Unit)=>y.1=l/\y.2.1=mem/\0<=y.2.2.1/\y.2.2.1<=l.length/\(∀j:Int,0<=j->j<y.2.2.1->Ak ((l).getD (j).toNat default)/\There (((l).getD (j).toNat default)).words mem (((l).getD (j).toNat default)).blk.pc)/\∀i j:Int,0<=i->i<j->j<y.2.2.1->(((l).getD (i).toNat default)).blk.pc≠(((l).getD (j).toNat default)).blk.pc) (λy=>(l.length-y.2.2.1).toNat) ⟨rfl,rfl,by simp,by simp,λj h0 h1=>absurd h1 (by simp;omega),λi j h0 h1 h2=>absurd h2 (by simp;omega)⟩ ?_;rintro⟨(l':List Cac),(mem':List Int),(i:Int),⟨⟩⟩ hI;dsimp only at hI ⊢;obtain⟨rfl,rfl,i1,i2,i3,i4⟩:=hI;obtain⟨a1,a2,a3⟩:=h.at i.toNat;by_cases c:i<l'.length
 .by_cases d:Ak ((l').getD (i).toNat default)
  .have pc:=d.2.1.pc;have P2:=U2.hp _ mem' _ a1 hm pc.1 a3;have H2:=U2.hf _ mem' _ a1 hm pc.1 a3;simp (disch:=omega) only [RR,CAB,c,hp1 _ a1 a2,hf1 _ a1 a2,aT d,P2,H2];refine⟨i1,i1,i1,λe=> ?_,λe=> ?_⟩
   .rw [bV];intro q;rw [aT (q.2.1 i i1 c).2]at e;cases e
   have th:=aV.1 e;refine aB (λ(y:List Cac×List Int×Int×Int×Unit)=>y.1=l'/\y.2.1=mem'/\y.2.2.1=i/\0<=y.2.2.2.1/\y.2.2.2.1<=i/\∀j:Int,0<=j->j<y.2.2.2.1->(((l').getD (j).toNat default)).blk.pc≠(((l').getD (i).toNat default)).blk.pc) (λy=>(i-y.2.2.2.1).toNat) ⟨rfl,rfl,rfl,by simp,i1,λj h0 h1=>absurd h1 (by simp;omega)⟩ ?_;rintro⟨(u:List Cac),(v:List Int),(w:Int),(k:Int),⟨⟩⟩ hJ;dsimp only at hJ ⊢;obtain⟨rfl,rfl,rfl,k1,k2,k3⟩:=hJ;simp (disch:=omega) only [RR];refine⟨λg1=>⟨k1,ah,i1,c,λq=> ?_,λq=>⟨⟨ah,ah,λj j0 j1=> ?_⟩,ah⟩⟩,λg1=>⟨⟨ah,ah,λj j0 j1=> ?_,λa b b0 b1 b2=> ?_⟩,ah⟩⟩
   .rw [bV];exact λz=>z.2.2 k w k1 g1 c q
   .by_cases y:j<k
    .exact k3 j j0 y
    .rw [show j=k by omega];exact q
   .by_cases y:j<w
    .exact i3 j j0 y
    .rw [show j=w by omega];exact⟨d,th⟩
   .by_cases y:b<w
    .exact i4 a b b0 b1 y
    .rw [show b=w by omega];exact k3 a b0 ah
  .simp (disch:=omega) only [RR,CAB,c,hp1 _ a1 a2,hf1 _ a1 a2,bV d];refine⟨i1,?_,λe=>e.1.elim⟩;rw [bV];exact λz=>d (z.2.1 i i1 c).1
 .simp (disch:=omega) only [RR,CAB,c];rw [aT];exact⟨ah,λj j0 j1=>i3 j j0 ah,λa b a0 a1 a2=>i4 a b a0 a1 ah⟩
def EGB:(∀e:Eng,gY .eng 0 .i64 e=e.au.regs)/\(∀e:Eng,dw .eng 1 e=e.au.pc)/\(∀e:Eng,gY .eng 2 .i64 e=e.au.mem)/\(∀e:Eng,dw .eng 3 e=e.au.save)/\(∀e:Eng,LA .eng 4 e=e.au.bH)/\(∀e:Eng,LA .eng 5 e=e.au.waits)/\(∀e:Eng,dw .eng 6 e=e.au.halt)/\(∀e:Eng,gY .eng 7 .i64 e=e.au.ins)/\(∀e:Eng,gY .eng 8 .i64 e=e.au.outs)/\(∀e:Eng,dw .eng 9 e=e.au.count)/\(∀e:Eng,gY .eng 10 .cac e=e.cache)/\(∀e:Eng,gY .eng 11 .cer e=e.aZ):=
 ⟨λ_=>rfl,λ_=>rfl,λ_=>rfl,λ_=>rfl,λ_=>rfl,λ_=>rfl,λ_=>rfl,λ_=>rfl,λ_=>rfl,λ_=>rfl,λ_=>rfl,λ_=>rfl⟩
theorem MKM:∀m:aF,Co.mk .au (m.regs,m.pc,m.mem,m.save,m.bH,m.waits,m.halt,m.ins,m.outs,m.count,())=m:=λ_=>rfl
def OQ(e:Eng):Prop:=MOK e.au/\OO e.cache e.au.mem/\J8 e.aZ
def alk{p2 f2 p3 f3}{p1:List Cac×List Int×Unit->Bool}{f1:List Cac×List Int×Unit->Bool×Unit}(hp1:∀l mem,ShK l->mem.length<1000000000->p1 (l,mem,())=true)(hf1:∀l mem,ShK l->mem.length<1000000000->f1 (l,mem,())=(bp (OO l mem),()))(U2:anR p2 f2)(U3:YK p3 f3)(e:Eng)(h1:MSh e.au)(h2:ShK e.cache)(h3:ShD e.aZ):WW.F (p1,f1,p2,f2,p3,f3,()) (e,()) (λy=>y=(bp (OQ e),())):=by
 obtain⟨hp2,hf2⟩:=U2;obtain⟨hp3,hf3⟩:=U3;have mM:=MKM;have P1:=hp1 _ e.au.mem h2 h1.2.1;have H1:=hf1 _ e.au.mem h2 h1.2.1;dsimp only [WW,gm,nU]at*;simp (disch:=omega) only [RR,EGB,mM,hp3 _ h1,hf3 _ h1,P1,H1,hp2 _ h3,hf2 _ h3];unfold OQ;rw [rM,rM,Bool.and_assoc]
abbrev e12(e : Eng) : List Int × Int × Int × Bool × Bool × Int × List Int × List Int × Int × List Cer × List Int × List Cac × Unit := (e.au.regs, e.au.pc, e.au.save, e.au.bH, e.au.waits, e.au.halt, e.au.ins, e.au.outs, e.au.count, e.aZ, e.au.mem, e.cache, ())
noncomputable def newE (m:aF):Eng:=if bp (MOK m)=true then⟨m,[],[]⟩else⟨Kn,[],[]⟩
def alm{p1 f1 p2 f2}(U1:YK p1 f1)(U2:aci p2 f2)(m:aF)(h:MSh m):V6.F (p1,f1,p2,f2,()) (m,()) (λy=>y=e12 (newE m)):=by
 dsimp only [V6,gm];simp (disch:=omega) only [RR,U1.hp _ h,U1.hf _ h,U2.hp _ h,U2.hf _ h];unfold newE;exact⟨λg=>by rw [g];rfl,λg=>by rw [g];rfl⟩
def Zd{m:aF}(h:MSh m)(ho:m.outs.length<900000000)(b:Bool):MSh (stS m b)/\(stS m b).outs.length<=m.outs.length+1/\(stS m b).ins.length<=m.ins.length:=by
 obtain⟨a1,a2,a3,a4⟩:=h;unfold stS;split
 .rename_i g;have ok:=aV.1 g;split
  .exact⟨⟨a1,a2,a3,a4⟩,Nat.le_succ _,Nat.le_refl _⟩
  .have k:=YW ok (by have:=ok.ct;omega) b;have l:=YX m b;exact⟨⟨by rw [k.r4];omega,by have:=k.m64;omega,ah,ah⟩,l.2,l.1⟩
 .exact⟨⟨by decide,by decide,by decide,by decide⟩,Nat.zero_le _,Nat.zero_le _⟩
noncomputable def rV (e:Eng) (q:List Int):Eng:=⟨stS e.au (bp (e.au.count∈q)),e.cache.filter (qd (stS e.au (bp (e.au.count∈q))).mem),e.aZ⟩
structure aln(pp:List Cac×List Int×Unit->Bool)(ff:List Cac×List Int×Unit->List Cac×Unit):Prop where
 hp:∀l mem,ShK l->mem.length<1000000000->pp (l,mem,())=true
 hf:∀l mem,ShK l->mem.length<1000000000->ff (l,mem,())=(l.filter (qd mem),())
def agZ{p1 f1 p2 f2 p3 f3}(U1:aln p1 f1)(U2:an8 p2 f2)(U3:agR p3 f3)(e:Eng)(q:List Int)(h1:MSh e.au)(ho:e.au.outs.length<900000000)(h2:ShK e.cache)(hq:q.length<1000000000):NR.F (p1,f1,p2,f2,p3,f3,()) (e.au.regs,e.au.pc,e.au.mem,e.au.save,e.au.bH,e.au.waits,e.au.halt,e.au.ins,e.au.outs,e.au.count,e.cache,q,e.aZ,()) (λy=>y=e12 (rV e q)):=by
 obtain⟨hp1,hf1⟩:=U1;obtain⟨hp2,hf2⟩:=U2;obtain⟨hp3,hf3⟩:=U3;have mM:=MKM;dsimp only [NR,gm,nU]at*;have P3:=hp3 _ e.au.count hq;have H3:=hf3 _ e.au.count hq;have P2:=hp2 e.au (bp (e.au.count∈q)) h1 ho;have H2:=hf2 e.au (bp (e.au.count∈q)) h1 ho;have sh:=(Zd h1 ho (bp (e.au.count∈q))).1;have P1:=hp1 _ (stS e.au (bp (e.au.count∈q))).mem h2 sh.2.1;have H1:=hf1 _ (stS e.au (bp (e.au.count∈q))).mem h2 sh.2.1;simp (disch:=omega) only [RR,mM,P3,H3,P2,H2,P1,H1];rfl
theorem alo{p1 f1 p2 f2 p3 f3}(U1:agY p1 f1)(U2:akQ p2 f2)(U3:aci p3 f3)(e:Eng)(h1:MSh e.au)(h2:ShK e.cache)(h3:ShC e.aZ):WY.F (p1,f1,p2,f2,p3,f3,()) (e,()) (λy=>y=e12 e):=by
 obtain⟨hp1,hf1⟩:=U1;obtain⟨hp2,hf2⟩:=U2;obtain⟨hp3,hf3⟩:=U3;have mM:=MKM;have mC:=CAM;have mQ:∀q:Cer,Co.mk .cer (q.base.pc,q.base.len,q.base.ops,q.base.fin,q.base.x,q.base.y,q.base.k,q.made.pc,q.made.len,q.made.ops,q.made.fin,q.made.x,q.made.y,q.made.k,())=q:=λ_=>rfl
 unfold ace at hf2;dsimp only [WY,gm,nU,lU,List.cons_append,List.nil_append,List.map_cons,List.map_nil]at*;simp (disch:=omega) only [RR,EGB,mM,hp3 _ h1,hf3 _ h1];have l2:=h2.1;have l3:=h3.1;have cq:∀x:Cer,([x].length:Int)=1:=λ_=>rfl
 refine aB (λy=>∃i:Nat,i<=e.cache.length/\y=((i:Int),e,(0:Int),(0:Int),false,false,(0:Int),(0:Int),e.au.pc,e.au.save,e.au.bH,e.au.waits,e.au.halt,e.au.count,e.au.regs,e.au.mem,e.au.ins,e.au.outs,e.cache.take i,())) (λy=>(e.cache.length-y.1).toNat) ⟨0,Nat.zero_le _,rfl⟩ ?_;rintro y ⟨i,hi,rfl⟩;dsimp only;obtain⟨a1,a2,a3⟩:=h2.at i;have ei:((i:Int)).toNat=i:=rfl;by_cases c:(i:Int)<e.cache.length
 .have tl:=List.length_take_le' i e.cache;simp (disch:=omega) only [RR,c,ei,hp1 _ a1 a2,hf1 _ a1 a2,mC];refine⟨ah,ah,⟨i+1,ah,?_⟩,ah⟩;rw [List.take_succ_eq_append_getElem ah,getD_lt ah];rfl
 .simp (disch:=omega) only [RR,c];rw [List.take_of_length_le ah];refine aB (λy=>∃i:Nat,i<=e.aZ.length/\y=((i:Int),e,(0:Int),(0:Int),false,false,(0:Int),(0:Int),e.au.pc,e.au.save,e.au.bH,e.au.waits,e.au.halt,e.au.count,e.au.regs,e.au.mem,e.au.ins,e.au.outs,e.cache,e.aZ.take i,())) (λy=>(e.aZ.length-y.1).toNat) ⟨0,Nat.zero_le _,rfl⟩ ?_;rintro y ⟨j,hj,rfl⟩;dsimp only;have b:=h3.at j;have ej:((j:Int)).toNat=j:=rfl;by_cases c:(j:Int)<e.aZ.length
  .have tl:=List.length_take_le' j e.aZ;simp (disch:=omega) only [RR,c,ej,hp2 _ b.1 b.2,hf2 _ b.1 b.2,mQ,cq];refine⟨ah,ah,⟨j+1,ah,?_⟩,ah⟩;rw [List.take_succ_eq_append_getElem ah,getD_lt ah];rfl
  .simp (disch:=omega) only [RR,c];rw [List.take_of_length_le ah]
def alp(e:Cac)(pc:Int):afy.F () (e,pc,()) (λy=>y=(decide (e.blk.pc=pc),pc,())):=by
 dsimp only [afy,gm];simp (disch:=omega) only [RR,CAB]
def alq{p1:Cac×Int×Unit->Bool}{f1:Cac×Int×Unit->Bool×Int×Unit}(hp1:∀e pc,p1 (e,pc,())=true)(hf1:∀e pc,f1 (e,pc,())=(decide (e.blk.pc=pc),pc,()))(l:List Cac)(pc:Int)(h:l.length<1000000000):XE.F (p1,f1,()) (l,pc,()) (λy=>y.2.1=pc/\FC l pc y.1):=by
 dsimp only [XE,gm];refine aB (λ(y:List Cac×Int×Int×Int×Unit)=>y.1=l/\y.2.1=l.length/\0<=y.2.2.1/\y.2.2.1<=l.length/\y.2.2.2.1=pc/\∀j:Int,0<=j->j<y.2.2.1->(((l).getD (j).toNat default)).blk.pc≠pc) (λy=>(l.length-y.2.2.1).toNat) ⟨rfl,rfl,by simp,by simp,rfl,λj h0 h1=>absurd h1 (by simp;omega)⟩ ?_;rintro⟨(l:List Cac),(n:Int),(i:Int),(pc:Int),⟨⟩⟩ hI;dsimp only at hI ⊢;obtain⟨rfl,rfl,h1,h2,rfl,h3⟩:=hI;simp (disch:=omega) only [RR,CAB,hp1,hf1];refine⟨λg=>⟨h1,g,λe=>Or.inr ⟨h1,g,e,h3⟩,λe=>⟨⟨ah,ah,λj j0 j1=> ?_⟩,ah⟩⟩,λg=>Or.inl ⟨rfl,λj j0 j1=>h3 j j0 ah⟩⟩;by_cases c:j<i
 .exact h3 j j0 c
 .rw [show j=i by omega];exact e
def aog{p1:List Cac×Int×Unit->Bool}{f1:List Cac×Int×Unit->Int×Int×Unit}(hp1:∀l pc,l.length<1000000000->p1 (l,pc,())=true)(hf1:∀l pc,l.length<1000000000->(f1 (l,pc,())).2.1=pc/\FC l pc (f1 (l,pc,())).1)(l:List Cac)(pc:Int)(h:l.length<1000000000):afz.F (p1,f1,()) (l,pc,()) (λy=>FC l pc y.1):=by
 dsimp only [afz,gm];simp (disch:=omega) only [RR,hp1 _ pc h];exact(hf1 _ pc h).2
structure ag0(pp:List Cac×Int×Unit->Bool)(ff:List Cac×Int×Unit->Int×Unit):Prop where
 hp:∀l pc,l.length<1000000000->pp (l,pc,())=true
 hf:∀l pc,l.length<1000000000->FC l pc (ff (l,pc,())).1
def alr{p1 f1 p2 f2 p3 f3}(U1:ag0 p1 f1)(U2:Y47 p2 f2)(U3:ag0 p3 f3){p4:List Int×Unit->Bool}{f4:List Int×Unit->Int×List Cac×Unit}(hp4:∀c,By c->c.length<1000000000->p4 (c,())=true)(hf4:∀c,By c->c.length<1000000000->(f4 (c,())).2.1.length<1000)(c:List Int)(hc:By c):XG.F (p1,f1,p2,f2,p3,f3,p4,f4,()) (c,()) (λy=>y=(true,())):=by
 obtain⟨hp1,hf1⟩:=U1;obtain⟨hp2,hf2⟩:=U2;obtain⟨hp3,hf3⟩:=U3;dsimp only [XG,gm];by_cases g:1048576< (c.length:Int)
 .simp (disch:=omega) only [RR,g]
 have L:=hf4 c hc ah;have P4:=hp4 c hc ah;simp (disch:=omega) only [RR,g,P4,CAB];generalize (f4 (c,())).2.1=l at*;generalize (f4 (c,())).1=pc at*;have A:=hf1 l pc ah;have e:=FC.one A (hf3 l pc ah);refine⟨hp1 l pc ah,hp3 l pc ah,λn=>absurd e n,λ_=> ?_⟩;generalize (f1 (l,pc,())).1=k at*;refine aB (λ(y:Int×Int×Int×List Cac×Unit)=>y.1=pc/\y.2.1=k/\0<=y.2.2.1/\y.2.2.1<=l.length/\y.2.2.2.1=l) (λy=>(l.length-y.2.2.1).toNat) ⟨rfl,rfl,by simp,by simp,rfl⟩ ?_;rintro⟨(pc:Int),(k:Int),(i:Int),(l:List Cac),⟨⟩⟩ hI;dsimp only at hI ⊢;obtain⟨rfl,rfl,h1,h2,rfl⟩:=hI;simp (disch:=omega) only [RR,hp2,hf2];refine⟨λg=>⟨h1,g,h1,g,λq=> ?_,λq=>⟨⟨ah,ah⟩,ah⟩⟩,λg=> ?_⟩
 .exfalso;rcases A with⟨a1,a2⟩ | ⟨a1,a2,a3,a4⟩
  .exact a2 i h1 g q.1
  .exact a4 i h1 ah q.1
 .rcases A with⟨a1,a2⟩ | ⟨a1,a2,a3,a4⟩
  .simp (disch:=omega) only [RR,a1,Int.reduceLT,decide_true,Bool.true_or,Bool.and_true]
  .simp (disch:=omega) only [RR,a1,a2,a3,decide_true,Bool.or_true,Bool.and_true]
def lvS(m:aF)(b:Blk)(n h:Int):aF:={m with pc:=b.pc+n,count:=m.count+n,halt:=h}
def Ze(m:aF)(b:Blk)(n h:Int)(h1:0<=m.count/\m.count<=2000000)(h2:0<=n/\n<=1000)(h3: -1000<=b.pc/\b.pc<=1000000):NT.F () (m.pc,m.save,m.bH,m.waits,m.halt,m.ins,m.count,b,n,h,m.regs,m.mem,m.outs,()) (λy=>y=mB (lvS m b n h)):=by
 dsimp only [NT,gm];simp (disch:=omega) only [RR,RB];rfl
def Zf(b:Blk)(a n:Int)(h2:0<=n/\n<=1000)(h3: -1000<=b.pc/\b.pc<=1000000)(h4: -1000<=b.len/\b.len<=1000000):NU.F () (b,a,n,()) (λy=>y=(decide (b.pc+n<a)&&decide (a<b.pc+b.len),())):=by
 dsimp only [NU,gm];simp (disch:=omega) only [RR,RB]
def ag1{p1 f1}(U1:Y24 p1 f1)(m:aF)(o:IOp)(x y:Int)(h:o.kind=2->0<=o.k/\o.k<m.regs.length):NY.F (p1,f1,()) (m,o,x,y,()) (λz=>z=(if o.kind=1 then o.k else if o.kind=2 then((m.regs).getD (o.k).toNat default)else if o.kind=3 then wdo o.k x y else 0,())):=by
 dsimp only [NY,gm];simp (disch:=omega) only [RR,RB,MRB,U1.hp,U1.hf];refine⟨λe=>by rw [if_pos e],λe=>⟨λg=>⟨(h g).1,(h g).2,by rw [if_neg e,if_pos g]⟩,λg=>⟨λk=>by rw [if_neg e,if_neg g,if_pos k],λk=>by rw [if_neg e,if_neg g,if_neg k]⟩⟩⟩
def goS(b:Blk)(v:List Int):Int:=if b.fin=1 then b.k else if b.fin=2 then((v).getD (b.x).toNat default)else if b.fin=3/\((v).getD (b.x).toNat default)=((v).getD (b.y).toNat default)then b.k else if b.fin=4/\((v).getD (b.x).toNat default)< ((v).getD (b.y).toNat default)then b.k else b.pc+b.len
def Zg(b:Blk)(v:List Int)(h3: -1000<=b.pc/\b.pc<=1000000)(h4: -1000<=b.len/\b.len<=1000000)(hx:b.fin≠1->0<=b.x/\b.x<v.length)(hy:3<=b.fin->0<=b.y/\b.y<v.length):NZ.F () (b,v,()) (λz=>z=(goS b v,())):=by
 dsimp only [NZ,gm];simp (disch:=omega) only [RR,RB];unfold goS;refine⟨λe=>by rw [if_pos e],λe=>⟨λg=>⟨(hx e).1,(hx e).2,by rw [if_neg e,if_pos g]⟩,λg=>⟨λk=> ?_,λk=>⟨λj=> ?_,λj=>by rw [if_neg e,if_neg g,if_neg (λz=>k z.1),if_neg (λz=>j z.1)]⟩⟩⟩⟩
 .have Y:=hy ah;exact⟨(hx e).1,(hx e).2,Y.1,Y.2,λz=>by rw [if_neg e,if_neg g,if_pos ⟨k,z⟩],λz=>by rw [if_neg e,if_neg g,if_neg (λw=>z w.2),if_neg (λw=>by omega)]⟩
 .have Y:=hy ah;exact⟨(hx e).1,(hx e).2,Y.1,Y.2,λz=>by rw [if_neg e,if_neg g,if_neg (λw=>k w.1),if_pos ⟨j,z⟩],λz=>by rw [if_neg e,if_neg g,if_neg (λw=>k w.1),if_neg (λw=>z w.2)]⟩
noncomputable def Eb (m:aF) (q:List Int) (left size:Int):Bool:=bp (size<=left/\m.count<=1000000-size/\∀k:Int,1<=k->k<size->m.count+k∉q)
def Zh{p1 f1}(U1:agR p1 f1)(m:aF)(q:List Int)(left size:Int)(hq:q.length<1000000000)(h1:0<=m.count/\m.count<=2000000)(h2: -1000<=size/\size<=1000000):NS.F (p1,f1,()) (m,q,left,size,()) (λy=>y=(Eb m q left size,())):=by
 dsimp only [NS,gm];simp (disch:=omega) only [RR,MRB];refine⟨λg=>by unfold Eb;rw [bV (λz=>by omega)],λg=> ?_⟩;refine aB (λ(y:List Int×Int×Int×aF×Unit)=>y.1=q/\y.2.1=size/\1<=y.2.2.1/\(y.2.2.1<=size\/y.2.2.1=1)/\y.2.2.2.1=m/\∀k:Int,1<=k->k<y.2.2.1->m.count+k∉q) (λy=>(size-y.2.2.1).toNat) ⟨rfl,rfl,by simp,Or.inr rfl,rfl,λk h0 h1=>absurd h1 (by simp;omega)⟩ ?_;rintro⟨(q:List Int),(s:Int),(k:Int),(m:aF),⟨⟩⟩ hI;dsimp only at hI ⊢;obtain⟨rfl,rfl,k1,k2,rfl,k3⟩:=hI;simp (disch:=omega) only [RR,U1.hp _ _ hq,U1.hf _ _ hq];refine⟨λc=>⟨λe=> ?_,λe=> ?_⟩,λc=>by unfold Eb;rw [aT ⟨ah,ah,λj j0 j1=>k3 j j0 ah⟩]⟩
 .unfold Eb;rw [bV (λz=>z.2.2 k k1 c (aV.1 e))]
 .refine⟨⟨ah,ah,λj j0 j1=> ?_⟩,ah⟩;by_cases z:j<k
  .exact k3 j j0 z
  .rw [show j=k by omega];exact lH.1 e
def adM(b:List Int)(k:Int)(hb:By b)(h0:0<=k)(h1:k+1<b.length)(hl:b.length<1000000000):Xq.F () (b,k,()) (λy=>y=(((b).getD (k).toNat default)*256+((b).getD (k+1).toNat default),())):=by
 have B:=λk:Nat=>hb.at k
 have c:∀k:Nat,IntKind.i64.wrap (b.getD k default)=b.getD k default:=λk=>by have:=B k;exact w64 ah ah
 have B0:=B k.toNat;have B1:=B (k+1).toNat;dsimp only [Xq,gm];simp (disch:=omega) only [RR,c];exact⟨h0,ah,ah,h1⟩
def evR(m:aF)(b:Blk)(o:IOp)(x y:Int):aF×Int×Bool:=
 if o.kind=7 then({m with outs:=m.outs++ [x]},0,false)
 else if o.kind=6 then({m with ins:=m.ins.drop 1},m.ins.getD 0 0,false)
 else if 64<=x then(lvS m b o.at_ 3,0,true)
 else if o.kind=4 then(m,((m.mem).getD (x).toNat default),false)
 else if b.pc+o.at_<x/\x<b.pc+b.len then(lvS {m with mem:=m.mem.set x.toNat y} b (o.at_+1) 0,0,true)
 else({m with mem:=m.mem.set x.toNat y},0,false)
abbrev ag2(z : aF × Int × Bool) : Int × Int × Bool × Bool × Int × List Int × Int × Int × Bool × List Int × List Int × List Int × Unit := (z.1.pc, z.1.save, z.1.bH, z.1.waits, z.1.halt, z.1.ins, z.1.count, z.2.1, z.2.2, z.1.regs, z.1.mem, z.1.outs, ())
theorem ag3{p1:Int×Int×Bool×Bool×Int×List Int×Int×Blk×Int×Int×List Int×List Int×List Int×Unit->Bool}{f1:Int×Int×Bool×Bool×Int×List Int×Int×Blk×Int×Int×List Int×List Int×List Int×Unit->Int×Int×Bool×Bool×Int×List Int×Int×List Int×List Int×List Int×Unit}(hp1:∀(m:aF) (b:Blk) (n h:Int),0<=m.count/\m.count<=2000000->0<=n/\n<=1000-> -1000<=b.pc/\b.pc<=1000000->p1 (m.pc,m.save,m.bH,m.waits,m.halt,m.ins,m.count,b,n,h,m.regs,m.mem,m.outs,())=true)(hf1:∀(m:aF) (b:Blk) (n h:Int),0<=m.count/\m.count<=2000000->0<=n/\n<=1000-> -1000<=b.pc/\b.pc<=1000000->f1 (m.pc,m.save,m.bH,m.waits,m.halt,m.ins,m.count,b,n,h,m.regs,m.mem,m.outs,())=mB (lvS m b n h)){p2:Blk×Int×Int×Unit->Bool}{f2:Blk×Int×Int×Unit->Bool×Unit}(hp2:∀(b:Blk) (a n:Int),0<=n/\n<=1000-> -1000<=b.pc/\b.pc<=1000000-> -1000<=b.len/\b.len<=1000000->p2 (b,a,n,())=true)(hf2:∀(b:Blk) (a n:Int),0<=n/\n<=1000-> -1000<=b.pc/\b.pc<=1000000-> -1000<=b.len/\b.len<=1000000->f2 (b,a,n,())=(decide (b.pc+n<a)&&decide (a<b.pc+b.len),()))(m:aF)(b:Blk)(o:IOp)(x y:Int)(hm:m.mem.length=64)(x0:0<=x)(hi:m.ins.length<1000000000)(ho:m.outs.length<900000000)(h1:0<=m.count/\m.count<=1000000)(h2:0<=o.at_/\o.at_<=100)(h3: -1000<=b.pc/\b.pc<=1000000)(h4: -1000<=b.len/\b.len<=1000000):NV.F (p1,f1,p2,f2,()) (m.pc,m.save,m.bH,m.waits,m.halt,m.ins,m.count,b,o,x,y,m.regs,m.mem,m.outs,()) (λz=>z=ag2 (evR m b o x y)):=by
 unfold mB at hf1;have P1:=hp1 m b o.at_ 3 ah ah h3;have H1:=hf1 m b o.at_ 3 ah ah h3;have P2:=hp2 b x o.at_ ah h3 h4;have H2:=hf2 b x o.at_ ah h3 h4;have P3:=hp1 {m with mem:=m.mem.set x.toNat y} b (o.at_+1) 0 (show 0<=m.count/\m.count<=2000000 by omega) ah h3;have H3:=hf1 {m with mem:=m.mem.set x.toNat y} b (o.at_+1) 0 (show 0<=m.count/\m.count<=2000000 by omega) ah h3;dsimp only at P3 H3;dsimp only [NV,gm];simp (disch:=omega) only [RR,RB,P1,H1,P2,H2,P3,H3,hm,nG];unfold evR;have d0:(default:Int)=0:=rfl;refine⟨λe=>⟨by simp only [List.length_cons,List.length_nil];omega,by rw [if_pos e]⟩,λe7=>⟨λe=>⟨λg=>⟨ah,g,ah,ah,ah,?_⟩,λg=> ?_⟩,λe6=>⟨λg=>by rw [if_neg e7,if_neg e6,if_pos g],λg=>⟨λe=>⟨x0,ah,x0,ah,by rw [if_neg e7,if_neg e6,if_neg g,if_pos e]⟩,λe4=>⟨x0,ah,x0,ah,λe=>by rw [if_neg e7,if_neg e6,if_neg g,if_neg e4,if_pos e],λe=> ?_⟩⟩⟩⟩⟩
 .rw [if_neg e7,if_pos e,List.take_of_length_le ah];rfl
 .have n:m.ins=[]:=List.eq_nil_of_length_eq_zero ah;rw [if_neg e7,if_pos e,n];rfl
 .rw [if_neg e7,if_neg e6,if_neg g,if_neg e4,if_neg (λz=>by rw [decide_eq_true z.1,decide_eq_true z.2]at e;cases e)]
noncomputable def eO (mem:List Int):Nat->Int->List Ins
 | 0,_=> []
 | n+1,p=>if bp (p<64/\(Wo ((mem).getD (p).toNat default)/\bW (gK ((mem).getD (p).toNat default)))/\(gK ((mem).getD (p).toNat default)).op≠0)=true then(if bp (11<=(gK ((mem).getD (p).toNat default)).op/\(gK ((mem).getD (p).toNat default)).op<=13)=true then [gK ((mem).getD (p).toNat default)]else gK ((mem).getD (p).toNat default)::eO mem n (p+1))else []
noncomputable def findF (m:aF):List Ins:=if bp (MOK m)=true then eO m.mem 8 m.pc else []
def rH(mem:List Int):∀(n:Nat) (p:Int),(eO mem n p).length<=n/\(0< (eO mem n p).length->p+(eO mem n p).length<=64)/\
  ∀i:Nat,i< (eO mem n p).length->bW ((eO mem n p).getD i default)/\((eO mem n p).getD i default).op≠0/\(11<=((eO mem n p).getD i default).op/\((eO mem n p).getD i default).op<=13->i+1=(eO mem n p).length)
 | 0,_=>⟨Nat.le_refl _,λh=>absurd h (by simp [eO]),λi hi=>absurd hi (by simp [eO])⟩
 | n+1,p=>by
  obtain⟨r1,r2,r3⟩:=rH mem n (p+1);unfold eO;split
  .rename_i g;obtain⟨g1,⟨g2,g3⟩,g4⟩:=aV.1 g;split
   .refine⟨by simp,λ_=>by simp;omega,λi hi=> ?_⟩;have:i=0:=by simp at hi;omega
    subst this;exact⟨g3,g4,λ_=>by simp⟩
   .rename_i e;have e':=lH.1 (by simpa using e);refine⟨by simp;omega,λ_=> ?_,λi hi=> ?_⟩
    .by_cases z:0< (eO mem n (p+1)).length
     .have:=r2 z;simp;omega
     .simp;omega
    .cases i with
     | zero=>exact⟨g3,g4,λq=>absurd q e'⟩
     | succ i=>
      have:=r3 i (by simpa using hi);exact⟨this.1,this.2.1,λq=>by have:=this.2.2 q;simp;omega⟩
  .exact⟨by simp,λh=>absurd h (by simp),λi hi=>absurd hi (by simp)⟩
def Ec(m:aF):(findF m).length<=8/\(0< (findF m).length->MOK m/\oC m.pc (findF m)):=by
 unfold findF;split
 .rename_i g;have ok:=aV.1 g;have pw:0<=m.pc/\m.pc<=65535:=ok.pc;obtain⟨r1,r2,r3⟩:=rH m.mem 8 m.pc;exact⟨r1,λh=>⟨ok,⟨ah,ah⟩,⟨ah,by have:=r2 h;omega⟩,r3⟩⟩
 .exact⟨by simp,λh=>absurd h (by simp)⟩
def als{w:Int}(h:Wo w/\bW (gK w)):tkI w=((gK w).op,(gK w).d,(gK w).a,(gK w).k,true,()):=by unfold tkI;rw [if_pos (aT h)]
theorem alu{p1 f1 p2 f2 p3 f3}(U1:agC p1 f1)(U2:agQ p2 f2)(U3:YK p3 f3)(m:aF)(h:MSh m):Xc.F (p1,f1,p2,f2,p3,f3,()) (m,()) (λy=>y=(findF m,())):=by
 obtain⟨hp1,hf1⟩:=U1;obtain⟨hp2,hf2⟩:=U2;obtain⟨hp3,hf3⟩:=U3
 replace hf1:∀i:Int,f1 (i,())=(bp (11<=i/\i<=13),()):=λi=>by rw [hf1 i,Prod.ext_iff];exact⟨by rw [Bool.eq_iff_iff,dG,aV],rfl⟩
 have e4:∀x y z u:Int,Co.mk .ins (x,y,z,u,())=⟨x,y,z,u⟩:=λ_ _ _ _=>rfl
 dsimp only [Xc,gm,nU];simp (disch:=omega) only [RR,MRB,hp3 _ h,hf3 _ h];refine⟨λg=>by unfold findF;rw [g];rfl,λg=> ?_⟩;have ok:=aV.1 g;have pw:0<=m.pc/\m.pc<=65535:=ok.pc;have m6:=ok.m64;have fE:findF m=eO m.mem 8 m.pc:=by unfold findF;rw [g,if_pos rfl]
 rw [fE];generalize hG:eO m.mem 8 m.pc=G;refine aB (λ(y:Int×aF×List Ins×Unit)=>0<=y.1/\y.1<=8/\y.2.1=m/\y.2.2.1.length<=y.1/\y.2.2.1++eO m.mem (8-y.1).toNat (m.pc+y.1)=G) (λy=>(8-y.1).toNat) ⟨by simp,by simp,rfl,by simp,by simpa using hG⟩ ?_;rintro⟨(i:Int),(m:aF),(o:List Ins),⟨⟩⟩ hI;dsimp only at hI ⊢;obtain⟨i1,i2,rfl,i3,i4⟩:=hI;simp (disch:=omega) only [RR,hp1,hf1,hp2,hf2,MRB,m6,List.length_cons,List.length_nil,List.length_append,e4];have w:IntKind.i64.wrap (m.pc+i)=m.pc+i:=w64 ah ah;refine⟨λc=> ?_,λc=> ?_⟩
 .obtain⟨n,hn⟩:∃n,(8-i).toNat=n+1:=⟨(8-i).toNat-1,ah⟩;rw [hn]at i4;unfold eO at i4;by_cases z:Wo ((m.mem).getD ((m.pc+i)).toNat default)/\bW (gK ((m.mem).getD ((m.pc+i)).toNat default))
  .rw [als z];generalize hd:gK ((m.mem).getD ((m.pc+i)).toNat default)=d at*;have md:(⟨d.op,d.d,d.a,d.k⟩:Ins)=d:=rfl;dsimp only;rw [md];refine⟨ah,ah,λe=> ?_,λe=>⟨ah,λq=> ?_,λq=>⟨⟨ah,ah,ah,?_⟩,ah⟩⟩⟩
   .rw [if_neg (by rw [bV (λy=>y.2.2 (by simpa using e))];decide)]at i4;rw [<-i4,List.append_nil]
   .rw [if_pos (aT ⟨ah,z,by simpa using e⟩),if_pos q]at i4;rw [<-i4]
   .rw [if_pos (aT ⟨ah,z,by simpa using e⟩),if_neg (by rw [q];decide)]at i4;rw [show(8- (i+1)).toNat=n by omega,<-i4,List.append_assoc,show m.pc+(i+1)=m.pc+i+1 by omega];rfl
  .have tf:(tkI ((m.mem).getD ((m.pc+i)).toNat default)).2.2.2.2.1=false:=by unfold tkI;rw [if_neg (by rw [bV z];decide)]
   rw [if_neg (by rw [bV (λy=>z y.2.1)];decide),List.append_nil]at i4;rw [tf];refine⟨ah,ah,λ_=>by rw [<-i4],λe=>by simp at e⟩
 .have:o=G:=by
   rw [<-i4];by_cases z:i<8
   .obtain⟨n,hn⟩:∃n,(8-i).toNat=n+1:=⟨(8-i).toNat-1,ah⟩;rw [hn];unfold eO;have c:=Bool.and_eq_false_iff.1 c;rw [decide_eq_false_iff_not,decide_eq_false_iff_not]at c;rw [if_neg (by rw [bV (λy=>by have:=y.1;omega)];decide),List.append_nil]
   .rw [show(8-i).toNat=0 by omega];unfold eO;rw [List.append_nil]
  rw [this]
def acv{l:List Int}{n i:Nat}(h:i<n):(uW l n).getD i default=rdO l (7+6*i):=by
 rw [getD_lt (by unfold uW;rw [List.length_map,List.length_range];exact h)];simp [uW]
def ag4{l:List Int}(hl:By l)(h7:7<=l.length)(h6:(l.length-7)%6=0):Ic (rdB l)=l:=by
 have B:=λk:Nat=>hl.at k
 have ol:(rdB l).ops.length=(l.length-7)/6:=by show(uW l _).length=_;unfold uW;rw [List.length_map,List.length_range]
 have key:∀n,n<l.length->(Ic (rdB l)).getD n default=l.getD n default:=λn hn=>by
  by_cases c:n<7
  .have b0:=B 0;have b1:=B 1;have b2:=B 2;have b3:=B 3;have b4:=B 4;have b5:=B 5;have b6:=B 6;have e:n=0\/n=1\/n=2\/n=3\/n=4\/n=5\/n=6:=by omega
   rcases e with rfl | rfl | rfl | rfl | rfl | rfl | rfl
   .show l.getD 0 default%256=_;omega
   .show l.getD 1 default%256=_;omega
   .show l.getD 2 default%256=_;omega
   .show l.getD 3 default%256=_;omega
   .show l.getD 4 default%256=_;omega
   .show(l.getD 5 default*256+l.getD 6 default)/256%256=_;omega
   .show(l.getD 5 default*256+l.getD 6 default)%256=_;omega
  .obtain⟨i,j,hj,rfl⟩:∃i j,j<6/\n=7+6*i+j:=⟨(n-7)/6,(n-7)%6,ah,ah⟩;have hi:i< (l.length-7)/6:=by omega
   rw [agB _ i j (by rw [ol];exact hi) hj];have er:(rdB l).ops.getD i default=rdO l (7+6*i):=acv hi;rw [er];have b0:=B (7+6*i);have b1:=B (7+6*i+1);have b2:=B (7+6*i+2);have b3:=B (7+6*i+3);have b4:=B (7+6*i+4);have b5:=B (7+6*i+5);have e:j=0\/j=1\/j=2\/j=3\/j=4\/j=5:=by omega
   rcases e with rfl | rfl | rfl | rfl | rfl | rfl
   .show l.getD (7+6*i) default%256=l.getD (7+6*i) default;omega
   .show l.getD (7+6*i+1) default%256=_;omega
   .show l.getD (7+6*i+2) default%256=_;omega
   .show(l.getD (7+6*i+3) default*256+l.getD (7+6*i+4) default)/256%256=_;omega
   .show(l.getD (7+6*i+3) default*256+l.getD (7+6*i+4) default)%256=_;omega
   .show l.getD (7+6*i+5) default%256=_;omega
 refine List.ext_getElem (by rw [YE,ol];omega) λn h1 h2=> ?_
 have:=key n h2
 rwa [getD_lt h1,getD_lt h2]at this
def Kq{l:List Int}(hl:By l):acf l↔(7<=l.length/\(l.length-7)%6=0/\l.length<=295)/\bX (rdB l):=by
 refine⟨λ⟨a,b⟩=>⟨a,?_⟩,λ⟨a,b⟩=>⟨a,?_⟩⟩
 .by_cases c:bX (rdB l)
  .exact c
  .unfold irB at b;rw [if_neg (by rw [bV c];decide)]at b;have:=a.1;rw [<-b]at this;simp at this
 .unfold irB;rw [if_pos (aT b)];exact ag4 hl a.1 a.2.1
theorem alv{p1 f1}(U1:Y60 p1 f1){p2:List Int×Int×Unit->Bool}{f2:List Int×Int×Unit->Int×Unit}(hp2:∀b k,By b->0<=k->k+1< (b.length:Int)->b.length<1000000000->p2 (b,k,())=true)(hf2:∀b k,By b->0<=k->k+1< (b.length:Int)->b.length<1000000000->f2 (b,k,())=(((b).getD (k).toNat default)*256+((b).getD (k+1).toNat default),()))(l:List Int)(hl:By l)(hlen:l.length<1000000000):Xr.F (p1,f1,p2,f2,()) (l,()) (λy=>y=rdF l):=by
 have B:=λk:Nat=>hl.at k
 have c:∀k:Nat,IntKind.i64.wrap (l.getD k default)=l.getD k default:=λk=>by have:=B k;exact w64 ah ah
 have no:¬acf l->rdF l=(0,0,0,0,0,0,false,[],()):=λh=>by unfold rdF;rw [if_neg (by rw [bV h];decide)]
 have tm:7<=l.length->((l.length:Int)-7).tmod 6=((l.length-7)%6:Nat):=λh=>by
  rw [Int.tmod_eq_emod_of_nonneg ah];omega
 dsimp only [Xr,gm,lU];simp (disch:=omega) only [RR,c];refine⟨Or.inr (by decide),λh=> ?_,λg=> ?_⟩
 .rw [no];rintro⟨⟨g1,g2,g3⟩,_⟩;rw [tm g1]at h;omega
 obtain⟨⟨g1,g2⟩,g3⟩:=g;have l7:7<=l.length:=by omega
 rw [tm l7]at g2;have l6:(l.length-7)%6=0:=by omega
 have aoh:l.length<=295:=by omega
 refine⟨ah,ah,ah,ah,ah,ah,ah,ah,ah,ah,hp2 l 5 hl ah ah hlen,?_⟩;rw [hf2 l 5 hl ah ah hlen];refine aB (λ(y:List Int×Int×Int×Int×Int×Int×Int×Int×Int×Int×Int×Int×Int×Int×List IOp×Unit)=>y.1=l/\(∃j:Nat,y.2.1=7+6*j/\7+6*j<=l.length/\y.2.2.2.2.2.2.2.2.2.2.2.2.2.2.1=uW l j)/\y.2.2.2.2.2.2.2.2.1=l.getD 0 default/\y.2.2.2.2.2.2.2.2.2.1=l.getD 1 default/\y.2.2.2.2.2.2.2.2.2.2.1=l.getD 2 default/\y.2.2.2.2.2.2.2.2.2.2.2.1=l.getD 3 default/\y.2.2.2.2.2.2.2.2.2.2.2.2.1=l.getD 4 default/\y.2.2.2.2.2.2.2.2.2.2.2.2.2.1=l.getD 5 default*256+l.getD 6 default) (λy=>(l.length-y.2.1).toNat) ⟨rfl,⟨0,rfl,ah,rfl⟩,rfl,rfl,rfl,rfl,rfl,rfl⟩ ?_;rintro⟨(l:List Int),(at_:Int),(z1:Int),(z2:Int),(z3:Int),(z4:Int),(z5:Int),(z6:Int),(pc:Int),(len:Int),(fin:Int),(x:Int),(y:Int),(k:Int),(ops:List IOp),⟨⟩⟩ hI;dsimp only at hI ⊢;obtain⟨rfl,⟨j,rfl,j1,rfl⟩,rfl,rfl,rfl,rfl,rfl,rfl⟩:=hI;have ol:(uW l j).length=j:=by unfold uW;rw [List.length_map,List.length_range]
 by_cases h:7+6*(j:Int)<l.length
 .have w:IntKind.i64.wrap (7+6*(j:Int)+3)=7+6*(j:Int)+3:=w64 ah ah;have P2:=hp2 l (7+6*(j:Int)+3) hl ah ah hlen;have H2:=hf2 l (7+6*(j:Int)+3) hl ah ah hlen;have lo:∀x:IOp,([x].length:Int)=1:=λ_=>rfl
  simp (disch:=omega) only [RR,h,c,P2,H2,lo];have es:uW l (j+1)=uW l j++ [rdO l (7+6*j)]:=by unfold uW;rw [List.range_succ,List.map_append];rfl
  repeat' apply And.intro
  all_goals first | omega | exact⟨j+1,ah,ah,by rw [es];rfl⟩
 .have e:7+6*j=l.length:=by omega
  have er:(⟨l.getD 0 default,l.getD 1 default,uW l j,l.getD 2 default,l.getD 3 default,l.getD 4 default,l.getD 5 default*256+l.getD 6 default⟩:Blk)=rdB l:=by
   unfold rdB;rw [show(l.length-7)/6=j by omega]
  have mE:∀(a1 a2:Int) (a3:List IOp) (a4 a5 a6 a7:Int),Co.mk .blk (a1,a2,a3,a4,a5,a6,a7,())=⟨a1,a2,a3,a4,a5,a6,a7⟩:=λ_ _ _ _ _ _ _=>rfl
  have ob:(rdB l).ops.length<1000000000:=by
   rw [<-er];show(uW l j).length<_;omega
  simp (disch:=omega) only [RR,h,mE,er,U1.hp _ ob,U1.hf _ ob];refine⟨λg=> ?_,λg=> ?_⟩
  .rw [no];intro z;rw [aT ((Kq hl).1 z).2]at g;cases g
  .unfold rdF;rw [if_pos (aT ((Kq hl).2 ⟨⟨l7,l6,aoh⟩,aV.1 g⟩)),<-er]
noncomputable def mdF (b:Blk) (a:Ask):Blk×Bool:=if a.own=true then(xA b,true)else if bp (acf a.bytes)=true then(rdB a.bytes,true)else(Oo,false)
theorem alx{p1 f1 p2 f2}(U1:an4 p1 f1)(U2:Y81 p2 f2)(b:Blk)(a:Ask)(h:b.ops.length<1000000)(ha:By a.bytes)(hl:a.bytes.length<1000000000):Xt.F (p1,f1,p2,f2,()) (b,a,()) (λy=>y=((mdF b a).1,(mdF b a).2,())):=by
 have mE:∀c:Blk,Co.mk .blk (c.pc,c.len,c.ops,c.fin,c.x,c.y,c.k,())=c:=λ_=>rfl
 have ak:∀a:Ask,LA .ask 0 a=a.own/\gY .ask 1 .u8 a=a.bytes:=λ_=>⟨rfl,rfl⟩
 have H1:=U1.hf a.bytes ha hl;dsimp only [Xt,gm,lU];simp (disch:=omega) only [RR,ak,mE,U1.hp _ ha hl,U2.hp _ h,U2.hf _ h];unfold mdF;refine⟨λg=>by rw [g];rfl,λg=> ?_⟩;rw [g,if_neg (by decide),H1];unfold rdF;split<;>rfl
def Zi{b:Blk}{a:Ask}(h:b.ops.length<1000000)(hl:a.bytes.length<1000000000):(mdF b a).1.ops.length<1000000:=by
 have L:=FJ b;unfold mdF;split
 .dsimp only;omega
 split
 .rename_i g;have:=(aV.1 g).1;show(uW _ _).length<_;unfold uW;rw [List.length_map,List.length_range];omega
 .decide
noncomputable def nI (cs:List Cer) (b:Blk) (a:Ask):Blk×List Cer:=
 if(mdF b a).2=false then(b,cs)else if bp (Yo cs b (mdF b a).1)=true then((mdF b a).1,cs)else if chk b (mdF b a).1=true then((mdF b a).1,Km cs ⟨b,(mdF b a).1⟩)else(b,cs)
def acw{l:List Cer}{q:Cer}(h:ShC l)(h1:q.base.ops.length<1000000)(h2:q.made.ops.length<1000000):ShC (Km l q):=by
 unfold Km;have:=h.1;refine⟨by rw [List.length_drop,List.length_append,List.length_singleton];omega,λc hc=> ?_⟩;have:=List.mem_of_mem_drop hc;rw [List.mem_append,List.mem_singleton]at this;rcases this with g | rfl
 .exact h.2 c g
 .exact⟨h1,h2⟩
def aly{p1 f1 p2 f2 p3 f3}(U1:anQ p1 f1)(U2:an2 p2 f2)(U3:Y96 p3 f3){p4:Blk×Ask×Unit->Bool}{f4:Blk×Ask×Unit->Blk×Bool×Unit}(hp4:∀b a,b.ops.length<1000000->By a.bytes->a.bytes.length<1000000000->p4 (b,a,())=true)(hf4:∀b a,b.ops.length<1000000->By a.bytes->a.bytes.length<1000000000->f4 (b,a,())=((mdF b a).1,(mdF b a).2,()))(e:Eng)(b:Blk)(a:Ask)(h:ShC e.aZ)(hb:b.ops.length<1000000)(ha:By a.bytes)(hl:a.bytes.length<1000000000):Xw.F (p1,f1,p2,f2,p3,f3,p4,f4,()) (e.au.regs,e.au.pc,e.au.mem,e.au.save,e.au.bH,e.au.waits,e.au.halt,e.au.ins,e.au.outs,e.au.count,e.cache,b,a,e.aZ,()) (λy=>y=(e.au.regs,e.au.pc,e.au.mem,e.au.save,e.au.bH,e.au.waits,e.au.halt,e.au.ins,e.au.outs,e.au.count,e.cache,(nI e.aZ b a).1,(nI e.aZ b a).2,())):=by
 obtain⟨hp1,hf1⟩:=U1;obtain⟨hp2,hf2⟩:=U2;obtain⟨hp3,hf3⟩:=U3;have M:=Zi (a:=a) hb hl;have H4:=hf4 b a hb ha hl;unfold nI;generalize hm:mdF b a=d at*;have P3:=hp3 b d.1 ah ah;have H3:=hf3 b d.1 ah ah;have P1:=hp1 _ b d.1 h;have H1:=hf1 _ b d.1 h;have P2:=hp2 e.aZ ⟨b,d.1⟩ h hb M;have H2:=hf2 e.aZ ⟨b,d.1⟩ h hb M;have H2:(f2 (e.aZ,⟨b,d.1⟩,())).1=Km e.aZ ⟨b,d.1⟩:=by rw [H2]
 dsimp only [Xw,gm,lU,nU];simp (disch:=omega) only [RR,RB,hp4 b a hb ha hl,H4,P1,H1,P3,H3];refine⟨λg=>by rw [if_pos g],λg=>⟨λk=>by rw [if_neg (by rw [g];decide),if_pos k],λk=>⟨λz=>by rw [if_neg (by rw [g];decide),if_neg (by rw [k];decide),if_neg (by rw [z];decide)],λz=>⟨P2,by
  rw [if_neg (by rw [g];decide),if_neg (by rw [k];decide),if_pos z];show(_,_,_,_,_,_,_,_,_,_,_,_,(f2 (e.aZ,⟨b,d.1⟩,())).1,())=_;rw [H2]⟩⟩⟩⟩
def Rs{cs:List Cer}{b:Blk}{a:Ask}(h:ShC cs)(hb:b.ops.length<1000000)(hl:a.bytes.length<1000000000):(nI cs b a).1.ops.length<1000000/\ShC (nI cs b a).2:=by
 have M:=Zi (a:=a) hb hl;unfold nI;split
 .exact⟨hb,h⟩
 split
 .exact⟨M,h⟩
 split
 .exact⟨M,acw h hb M⟩
 .exact⟨hb,h⟩
def acy{cs:List Cer}{b:Blk}{a:Ask}(h:J8 cs):(nI cs b a).1=b\/chk b (nI cs b a).1=true:=by
 unfold nI;split
 .exact Or.inl rfl
 split
 .rename_i g;obtain⟨q,hq,q1,q2⟩:=aV.1 g;refine Or.inr ?_;have:=h.2 q hq;rw [q1,q2]at this;exact this
 split
 .rename_i g;exact Or.inr g
 .exact Or.inl rfl
def acz{l:List Cac}{e:Cac}(h:ShK l)(h1:e.words.length<1000)(h2:e.blk.ops.length<1000000)(h3:e.blk.pc<=1000000):ShK (pE l e)/\0< (pE l e).length:=by
 unfold pE;have fl:=List.length_filter_le (neP e.blk.pc) l;refine⟨⟨by rw [List.length_drop,List.length_append,List.length_singleton];omega,λc hc=> ?_⟩,by rw [List.length_drop,List.length_append,List.length_singleton];omega⟩;have:=List.mem_of_mem_drop hc;rw [List.mem_append,List.mem_singleton]at this;rcases this with g | rfl
 .exact h.2 c (List.mem_filter.1 g).1
 .exact⟨h1,h2,h3⟩
def fcI(l:List Cac)(pc:Int):Int:=match l.findIdx? (λx=>decide (x.blk.pc=pc))with | some i=>i | none=> -1
def Zj(l:List Cac)(pc:Int):FC l pc (fcI l pc):=by
 unfold fcI;split
 .rename_i i h;obtain⟨h1,h2,h3⟩:=List.findIdx?_eq_some_iff_getElem.1 h;refine Or.inr ⟨ah,ah,?_,λj j0 j1=> ?_⟩
  .rw [Int.toNat_natCast,getD_lt h1];simpa using h2
  .rw [getD_lt ah];simpa using h3 j.toNat ah
 .rename_i h;rw [List.findIdx?_eq_none_iff]at h;refine Or.inl ⟨rfl,λj j0 j1=> ?_⟩;rw [getD_lt ah];simpa using h _ (List.getElem_mem ah)
noncomputable def dY (e:Eng) (a:Ask):Eng×Int×Bool:=
 if 0<=fcI e.cache e.au.pc then(e,fcI e.cache e.au.pc,false)else if(findF e.au).length=0 then(e, -1,false)else
  (⟨e.au,pE e.cache ⟨(findF e.au).map lN,(nI e.aZ (lower e.au.pc (findF e.au)) a).1⟩,(nI e.aZ (lower e.au.pc (findF e.au)) a).2⟩,((pE e.cache ⟨(findF e.au).map lN,(nI e.aZ (lower e.au.pc (findF e.au)) a).1⟩).length:Int)-1,true)
structure alz(pp:aF×Unit->Bool)(ff:aF×Unit->List Ins×Unit):Prop where
 hp:∀m,MSh m->pp (m,())=true
 hf:∀m,MSh m->ff (m,())=(findF m,())
structure aoi(pp:List Cac×Cac×Unit->Bool)(ff:List Cac×Cac×Unit->List Cac×Unit):Prop where
 hp:∀l e,ShK l->e.words.length<1000->e.blk.ops.length<1000000->pp (l,e,())=true
 hf:∀l e,ShK l->e.words.length<1000->e.blk.ops.length<1000000->ff (l,e,())=(pE l e,())
theorem alA{p1 f1 p2 f2 p3 f3 p4 f4 p5 f5}(U1:alz p1 f1)(U2:agW p2 f2)(U3:ak8 p3 f3)(U4:ag0 p4 f4)(U5:aoi p5 f5){p6:List Int×Int×List Int×Int×Bool×Bool×Int×List Int×List Int×Int×List Cac×Blk×Ask×List Cer×Unit->Bool}{f6:List Int×Int×List Int×Int×Bool×Bool×Int×List Int×List Int×Int×List Cac×Blk×Ask×List Cer×Unit->List Int×Int×List Int×Int×Bool×Bool×Int×List Int×List Int×Int×List Cac×Blk×List Cer×Unit}(hp6:∀(e:Eng) (b:Blk) (a:Ask),ShC e.aZ->b.ops.length<1000000->By a.bytes->a.bytes.length<1000000000->p6 (e.au.regs,e.au.pc,e.au.mem,e.au.save,e.au.bH,e.au.waits,e.au.halt,e.au.ins,e.au.outs,e.au.count,e.cache,b,a,e.aZ,())=true)(hf6:∀(e:Eng) (b:Blk) (a:Ask),ShC e.aZ->b.ops.length<1000000->By a.bytes->a.bytes.length<1000000000->f6 (e.au.regs,e.au.pc,e.au.mem,e.au.save,e.au.bH,e.au.waits,e.au.halt,e.au.ins,e.au.outs,e.au.count,e.cache,b,a,e.aZ,())=(e.au.regs,e.au.pc,e.au.mem,e.au.save,e.au.bH,e.au.waits,e.au.halt,e.au.ins,e.au.outs,e.au.count,e.cache,(nI e.aZ b a).1,(nI e.aZ b a).2,()))(e:Eng)(a:Ask)(h1:MSh e.au)(h2:ShK e.cache)(h3:ShC e.aZ)(ha:By a.bytes)(hl:a.bytes.length<1000000000):Xx.F (p1,f1,p2,f2,p3,f3,p4,f4,p5,f5,p6,f6,()) (e.au.regs,e.au.pc,e.au.mem,e.au.save,e.au.bH,e.au.waits,e.au.halt,e.au.ins,e.au.outs,e.au.count,e.cache,a,e.aZ,()) (λy=>y=((dY e a).1.au.regs,(dY e a).1.au.pc,(dY e a).1.au.mem,(dY e a).1.au.save,(dY e a).1.au.bH,(dY e a).1.au.waits,(dY e a).1.au.halt,(dY e a).1.au.ins,(dY e a).1.au.outs,(dY e a).1.au.count,(dY e a).1.cache,(dY e a).2.1,(dY e a).2.2,(dY e a).1.aZ,())):=by
 obtain⟨hp1,hf1⟩:=U1;obtain⟨hp2,hf2⟩:=U2;obtain⟨hp3,hf3⟩:=U3;obtain⟨hp4,hf4⟩:=U4;obtain⟨hp5,hf5⟩:=U5;have mM:=MKM;have mE:∀c:Blk,Co.mk .blk (c.pc,c.len,c.ops,c.fin,c.x,c.y,c.k,())=c:=λ_=>rfl
 have l2:=h2.1;have P4:=hp4 e.cache e.au.pc ah;have H4:(f4 (e.cache,e.au.pc,())).1=fcI e.cache e.au.pc:=FC.one (hf4 e.cache e.au.pc ah) (Zj _ _);have B:=Ec e.au;have P1:=hp1 _ h1;have H1:=hf1 _ h1;unfold dY;generalize fcI e.cache e.au.pc=k at*;generalize findF e.au=l at*;have P2:=hp2 e.au.pc l ah;have H2:=hf2 e.au.pc l ah;have lw:((lower e.au.pc l).ops.length:Int)<=5000:=by have:=Ii H2;rw [H2]at this;exact this
 generalize lower e.au.pc l=b at*;have P6:=hp6 e b a h3 ah ha hl;have H6:=hf6 e b a h3 ah ha hl;have A:=Rs (a:=a) h3 (show b.ops.length<1000000 by omega) hl;generalize nI e.aZ b a=z at*;have P3:=hp3 l ah;have H3:=hf3 l ah;have wl:(l.map lN).length<1000:=by rw [List.length_map];omega
 have P5:=hp5 e.cache ⟨l.map lN,z.1⟩ h2 wl A.1;have H5:=hf5 e.cache ⟨l.map lN,z.1⟩ h2 wl A.1;have kl:(pE e.cache ⟨l.map lN,z.1⟩).length<=e.cache.length+1:=by
  unfold pE;have fl:=List.length_filter_le (neP z.1.pc) e.cache;rw [List.length_drop,List.length_append,List.length_singleton];dsimp only;omega
 have mK:Co.mk .cac (l.map lN,z.1.pc,z.1.len,z.1.ops,z.1.fin,z.1.x,z.1.y,z.1.k,())=(⟨l.map lN,z.1⟩:Cac):=rfl;dsimp only [Xx,gm,lU,nU]at*;simp (disch:=omega) only [RR,RB,mM,P4,H4,P1,H1,P2,H2,mE,P6,H6,P3,H3,mK,P5,H5];refine⟨λn=>by rw [if_pos n],λn=>⟨λg=>by rw [if_neg ah,if_pos ah],λg=> ?_⟩⟩;rw [if_neg ah,if_neg ah]
theorem adN(n:Int)(b:List Int)(h0:0<=n)(h1:n<=1000000)(hb:b.length<1000000000):XA.F () (n,b,()) (λy=>y=(b++ [n/256%256,n%256],())):=by
 have m8:∀x:Int,Co.mk .u8 (x,())=x:=λ_=>rfl
 dsimp only [XA,gm];simp (disch:=omega) only [RR,m8,u8w];rw [Int.tmod_eq_emod_of_nonneg h0,Int.tdiv_eq_ediv_of_nonneg h0,w64 ah ah,Int.emod_emod];exact⟨by decide,by decide,by simp only [List.length_cons,List.length_nil];omega,rfl⟩
def aoj{b:Blk}(h:bX b):0<=b.k/\b.k<=1000000:=by
 have:=h.en.k1;have:=h.en.k0;omega
def opk{ops:List IOp}{n i:Int}{o:IOp}(h:kP ops n i o):0<=o.k/\o.k<=1000000:=by
 have:=h.kd;have:=h.k1;have:=h.k2;have:=h.k3;have:=h.k0;omega
theorem alB{p1 f1}(U1:Y60 p1 f1){p2:Int×List Int×Unit->Bool}{f2:Int×List Int×Unit->List Int×Unit}(hp2:∀n b,0<=n->n<=1000000->b.length<1000000000->p2 (n,b,())=true)(hf2:∀n b,0<=n->n<=1000000->b.length<1000000000->f2 (n,b,())=(b++ [n/256%256,n%256],()))(b:Blk)(hb:b.ops.length<1000000000):XB.F (p1,f1,p2,f2,()) (b,()) (λy=>y=(irB b,())):=by
 have m8:∀x:Int,Co.mk .u8 (x,())=x:=λ_=>rfl
 dsimp only [XB,gm];simp (disch:=omega) only [RR,RB,U1.hp b hb,U1.hf b hb,m8,u8w];refine⟨λh=>by unfold irB;rw [h];rfl,λh=> ?_⟩;have ok:=aV.1 h;have sz:=ok.sz;have kk:=aoj ok;rw [hp2 _ _ kk.1 kk.2 (by simp only [List.length_cons,List.length_nil];omega),hf2 _ _ kk.1 kk.2 (by simp only [List.length_cons,List.length_nil];omega)];refine⟨rfl,?_⟩;refine aB (λ(y:Int×Blk×List Int×Unit)=>y.2.1=b/\0<=y.1/\y.1<=b.ops.length/\y.2.2.1=[b.pc%256,b.len%256,b.fin%256,b.x%256,b.y%256,b.k/256%256,b.k%256]++(b.ops.take y.1.toNat).flatMap opB) (λy=>(b.ops.length-y.1).toNat) ⟨rfl,by simp,by simp,by simp⟩ ?_;rintro⟨(i:Int),(c:Blk),(acc:List Int),⟨⟩⟩ hI;dsimp only at hI ⊢;obtain⟨rfl,h1,h2,h3⟩:=hI;have al:acc.length<=1000:=by
  rw [h3,List.length_append,yO];have:=List.length_take_le' i.toNat c.ops;simp only [List.length_cons,List.length_nil];omega
 refine⟨λg=> ?_,λg=> ?_⟩
 .have ko:=opk (ok.op i h1 g);rw [hp2 _ _ ko.1 ko.2 (by simp only [List.length_append,List.length_cons,List.length_nil];omega),hf2 _ _ ko.1 ko.2 (by simp only [List.length_append,List.length_cons,List.length_nil];omega)];simp (disch:=omega) only [RR,List.length_append,List.length_cons,List.length_nil];refine⟨h1,g,ah,ah,⟨ah,ah,?_⟩,ah⟩;rw [h3,show(i+1).toNat=i.toNat+1 by omega,List.take_succ_eq_append_getElem ah,List.flatMap_append,getD_lt (show i.toNat<c.ops.length by omega)];simp only [List.append_assoc];rfl
 .rw [h3,List.take_of_length_le ah];unfold irB;rw [h];rfl
structure TuD(b l:List Int)(p:Int)(y:List Int×Int×List Int×Unit):Prop where
 b:y.1=b
 p:p<=y.2.1/\y.2.1<=p+20
 l:By y.2.2.1/\y.2.2.1.length<=l.length+1
theorem ag5{p1 f1}(U1:Y38 p1 f1)(l:List Int)(b:List Int)(p:Int)(hl:By l)(h:l.length<100000000)(hb:Bt b)(h1:0<=p)(h2:p<900000000):Oa.F (p1,f1,()) (l,b,p,()) (λy=>TuD b l p y):=by
 obtain⟨hp1,hf1⟩:=U1;have m8:∀x:Int,Co.mk .u8 (x,())=x:=λ_=>rfl
 dsimp only [Oa,gm];have R:=pkR hb hf1;have P:=λn p h1 h2=>hp1 n b p hb h1 h2
 have f0:=hf1 256 b p hb h1 ah;have f1':=hf1 256 b (p+1) hb ah ah;simp (disch:=omega) only [RR,m8,u8w,R,P];have g0:=f0.2.2;have g1:=f1'.2.2;generalize (f1 (256,b,p,())).1=u at*;generalize (f1 (256,b,p+1,())).1=v at*;have w1:IntKind.i64.wrap (u*256)=u*256:=w64 ah ah;have w2:IntKind.i64.wrap (u*256+v)=u*256+v:=w64 ah ah;rw [w1,w2];refine⟨λ_=>⟨rfl,⟨by dsimp only;omega,by dsimp only;omega⟩,λx hx=> ?_,by simp⟩,λn=>⟨n,?_⟩⟩
 .dsimp only at hx;rw [List.mem_singleton]at hx;omega
 have k0:0<=(u*256+v).tmod l.length:=Int.tmod_nonneg _ ah;have k1:(u*256+v).tmod l.length<l.length:=Int.tmod_lt_of_pos _ ah;generalize (u*256+v).tmod l.length=k at*;have tk:∀x∈l.take k.toNat,0<=x/\x<=255:=λx hx=>hl x (List.mem_of_mem_take hx)
 have w3:IntKind.i64.wrap (k+1)=k+1:=w64 ah ah;rw [w3];simp only [List.length_append,List.length_drop,List.length_take,List.length_nil,List.length_cons,Int.toNat_zero,List.drop_zero,List.nil_append,Int.toNat_natCast,List.take_length];have dk:∀j,∀x∈l.drop j,0<=x/\x<=255:=λj x hx=>hl x (List.mem_of_mem_drop hx)
 have g2:=(hf1 2 b (p+1+1+1+1+1) hb ah ah).2.2;refine⟨λ_=>⟨ah,ah,ah,ah,ah,ah,ah,ah,ah,⟨rfl,⟨by dsimp only;omega,by dsimp only;omega⟩,λx hx=> ?_,?_⟩⟩,λ_=>⟨λ_=>⟨ah,ah,ah,ah,ah,ah,ah,ah,ah,ah,⟨rfl,⟨by dsimp only;omega,by dsimp only;omega⟩,λx hx=> ?_,?_⟩⟩,λ_=>⟨ah,ah,ah,ah,ah,ah,ah,⟨rfl,⟨by dsimp only;omega,by dsimp only;omega⟩,λx hx=> ?_,?_⟩⟩⟩⟩
 .rcases List.mem_append.1 hx with g | g
  .exact tk x g
  .exact dk _ x g
 .dsimp only;rw [List.length_append,List.length_take,List.length_drop];omega
 .rcases List.mem_append.1 hx with g | g
  .rcases List.mem_append.1 g with g | g
   .exact tk x g
   .rw [List.mem_singleton]at g;omega
  .exact dk _ x g
 .dsimp only;rw [List.length_append,List.length_append,List.length_take,List.length_drop,List.length_singleton];omega
 .rcases List.mem_or_eq_of_mem_set hx with g | g
  .exact hl x g
  .omega
 .dsimp only;rw [List.length_set];omega
structure AsD(b:List Int)(p:Int)(y:Bool×List Int×Int×List Int×Unit):Prop where
 b:y.2.1=b
 p:p<=y.2.2.1/\y.2.2.1<=p+2000000
 l:By y.2.2.2.1/\y.2.2.2.1.length<200000000
def BM{b:Blk}(h:b.ops.length<=1000000):(irB b).length<100000000:=by
 unfold irB;split
 .unfold Ic;rw [List.length_append,yO];simp only [List.length_cons,List.length_nil];omega
 .simp
theorem ag6{p1 f1 p2 f2 p3 f3 p4 f4 p5 f5 p6 f6 p7 f7 p8 f8}(U1:alz p1 f1)(U2:agW p2 f2)(U3:an3 p3 f3)(U4:Y81 p4 f4)(U5:Y38 p5 f5)(U6:Y83 p6 f6)(U7:Y84 p7 f7)(U8:Y86 p8 f8){p9:List Int×List Int×Int×Unit->Bool}{f9:List Int×List Int×Int×Unit->List Int×Int×List Int×Unit}(hp9:∀l b p,By l->l.length<100000000->Bt b->0<=p->p<900000000->p9 (l,b,p,())=true)(hf9:∀l b p,By l->l.length<100000000->Bt b->0<=p->p<900000000->TuD b l p (f9 (l,b,p,())))(m:aF)(b:List Int)(p:Int)(h:MSh m)(hb:Bt b)(h1:0<=p)(h2:p<500000000):G6.F (p1,f1,p2,f2,p3,f3,p4,f4,p5,f5,p6,f6,p7,f7,p8,f8,p9,f9,()) (m,b,p,()) (λ(y:Bool×List Int×Int×List Int×Unit)=>AsD b p y):=by
 obtain⟨hp1,hf1⟩:=U1;obtain⟨hp2,hf2⟩:=U2;obtain⟨hp3,hf3⟩:=U3;obtain⟨hp4,hf4⟩:=U4;obtain⟨hp5,hf5⟩:=U5;obtain⟨hp6,hf6⟩:=U6;obtain⟨hp7,hf7⟩:=U7;obtain⟨hp8,hf8⟩:=U8;have m8:∀x:Int,Co.mk .u8 (x,())=x:=λ_=>rfl
 have mE:∀c:Blk,Co.mk .blk (c.pc,c.len,c.ops,c.fin,c.x,c.y,c.k,())=c:=λ_=>rfl
 have R:=pkR hb hf5;have P:=λn p h1 h2=>hp5 n b p hb h1 h2
 have P1:=hp1 m h;have hL:=hf1 m h;have B:=Ec m;have no:AsD b p (true,b,p+1,[],()):=⟨rfl,⟨by dsimp only;omega,by dsimp only;omega⟩,λx hx=>(by cases hx),by simp⟩;generalize findF m=l at*;by_cases n:0<l.length
 .have ir:=xD (B.2 n).2;have sz:=ir.sz;have P2:=hp2 m.pc l ah;have H2:=hf2 m.pc l ah;generalize lower m.pc l=c at*;have P4:=hp4 c ah;have H4:=hf4 c ah;have lk:=(Tv ir).oc;have sz2:=lk.sz;generalize xA c=d at*;dsimp only [G6,gm,nU,lU];simp (disch:=omega) only [RR,m8,u8w,MRB,R,P,P1,hL,P2,H2,mE,P4,H4];have W:∀(z:Int×Int×Int×Int×Int×Int×List Int×Int×List IOp×Unit) (M:Int) (N:Nat) (q:Int),BkD M N b q z->N<=1000000->M<=1000000->p<=q->q<=p+2->p3 (Co.mk .blk (z.1,z.2.1,z.2.2.2.2.2.2.2.2.1,z.2.2.1,z.2.2.2.1,z.2.2.2.2.1,z.2.2.2.2.2.1,()),())=true/\AsD b p (false,z.2.2.2.2.2.2.1,z.2.2.2.2.2.2.2.1,(f3 (Co.mk .blk (z.1,z.2.1,z.2.2.2.2.2.2.2.2.1,z.2.2.1,z.2.2.2.1,z.2.2.2.2.1,z.2.2.2.2.2.1,()),())).1,()):=by
   intro z M N q D a1 a2 a3 a4;have d1:=D.len;have d2:=D.lo;have d3:=D.hi;have K:z.2.2.2.2.2.2.2.2.1.length<1000000000:=by omega
   have e:=hf3 (Co.mk .blk (z.1,z.2.1,z.2.2.2.2.2.2.2.2.1,z.2.2.1,z.2.2.2.1,z.2.2.2.2.1,z.2.2.2.2.2.1,())) K;refine⟨hp3 _ K,D.b,⟨by dsimp only;omega,by dsimp only;omega⟩,?_⟩;dsimp only;rw [e];exact⟨Ie _,Nat.lt_of_lt_of_le (BM (show z.2.2.2.2.2.2.2.2.1.length<=1000000 by omega)) (by decide)⟩
  have c3:=hp3 c ah;have k3:=hf3 c ah;have d3:=hp3 d ah;have j3:=hf3 d ah;have T:=hf9 (irB c) b (p+1+1) (Ie c) (BM ah) hb ah ah;rw [k3,j3];have tl:=BM (b:=c) ah;have T1:=T.p;have T2:=T.l;refine⟨λ_=>no,λ_=>⟨λ_=>⟨hp8 d b _ lk ah hb ah ah,W _ _ _ _ (hf8 d b (p+1+1) lk ah hb ah ah) ah ah ah ah⟩,λ_=>⟨λ_=>⟨hp6 c b _ ah hb ah ah,W _ _ _ _ (hf6 c b (p+1+1) ah hb ah ah).1 ah ah ah ah⟩,λ_=>⟨λ_=>⟨hp6 d b _ ah hb ah ah,W _ _ _ _ (hf6 d b (p+1+1) ah hb ah ah).1 ah ah ah ah⟩,λ_=>⟨λ_=>⟨c3,hp9 _ b _ (Ie c) tl hb ah ah,T.b,⟨by dsimp only;omega,by dsimp only;omega⟩,T2.1,by dsimp only;omega⟩,λ_=>⟨λ_=>⟨hp7 b _ hb ah ah,W _ _ _ _ (hf7 b (p+1+1) hb ah ah) ah ah ah ah⟩,λ_=>⟨λ_=>⟨rfl,⟨by dsimp only;omega,by dsimp only;omega⟩,λx hx=> ?_,by simp⟩,λ_=>⟨d3,rfl,⟨by dsimp only;omega,by dsimp only;omega⟩,Ie d,Nat.lt_of_lt_of_le (BM ah) (by decide)⟩⟩⟩⟩⟩⟩⟩⟩;dsimp only at hx;rw [List.mem_singleton]at hx;omega
 .dsimp only [G6,gm,nU,lU];simp (disch:=omega) only [RR,m8,u8w,MRB,R,P,P1,hL];exact⟨λ_=>no,λg=>absurd (Int.natCast_eq_zero.2 ah) g.2⟩
structure SJ(b:Blk)(m0:aF)(i:Nat)(S:MS):Prop where
 r:RJ b m0 i S
 p:S.m.pc=m0.pc
 h:S.m.halt=m0.halt
 c:S.m.count=m0.count
abbrev yS(b : Blk)(i : Int)(S : MS) : Int × Blk × Int × Int × Bool × Bool × Int × Int × Int × Int × Bool × Bool × Int × List Int × Int × List Int × List Int × List Int × List Int × Unit := (i, b, 0, 0, false, false, 0, 0, S.m.pc, S.m.save, S.m.bH, S.m.waits, S.m.halt, S.m.ins, S.m.count, S.vals, S.m.regs, S.m.mem, S.m.outs, ())
abbrev alC(z : aF × Bool) : Int × Int × Bool × Bool × Int × List Int × Int × Bool × List Int × List Int × List Int × Unit := (z.1.pc, z.1.save, z.1.bH, z.1.waits, z.1.halt, z.1.ins, z.1.count, z.2, z.1.regs, z.1.mem, z.1.outs, ())
def SIv(b:Blk)(m0:aF)(y:Int×Blk×Int×Int×Bool×Bool×Int×Int×Int×Int×Bool×Bool×Int×List Int×Int×List Int×List Int×List Int×List Int×Unit):Prop:=∃(i:Nat) (S:MS),i<=b.ops.length/\SJ b m0 i S/\y=yS b i S
def SIv.next{b:Blk}{m0:aF}{i:Nat}{S:MS}{o:IOp}{y:Int×Blk×Int×Int×Bool×Bool×Int×Int×Int×Int×Bool×Bool×Int×List Int×Int×List Int×List Int×List Int×List Int×Unit}(h:SJ b m0 i S)(hi:i<b.ops.length)(ho:b.ops.getD i default=o)(k1:o.kind=1->0<=o.k/\o.k<=65535)
  (c1:¬((o.kind=4\/o.kind=5)/\64<=vx S o)) (c2:¬(o.kind=5/\b.pc+o.at_+1<=vx S o/\vx S o<=b.pc+b.len-1))
  (e:y=yS b ((i:Int)+1) ⟨mM S o,S.vals++ [mV S o],false⟩):SIv b m0 y/\(b.ops.length-y.1).toNat< (b.ops.length- (i:Int)).toNat:=by
 subst e;have k:=acu (s:=S) o;exact⟨⟨i+1,_,hi,⟨h.r.next hi ho k1 c1 c2,k.1.trans h.p,k.2.1.trans h.h,k.2.2.trans h.c⟩,rfl⟩,by dsimp only;omega⟩
def Zk{b:Blk}{m:aF}(h1:bX b)(h2:MOK m)(h:¬(m.halt≠0\/m.pc≠b.pc\/1000000-b.len<m.count)):ou b m=(OJ b (b.ops.foldl (fH b) ⟨m,[],false⟩),true):=by
 unfold ou;rw [if_pos (aT ⟨h1,h2⟩),if_neg h]
set_option maxHeartbeats 4000000 in
theorem alD{p1 f1 p2 f2 p3 f3 p4 f4}(U1:Y60 p1 f1)(U2:YK p2 f2)(U3:aci p3 f3)(U4:aoe p4 f4){p5:Int×Int×Bool×Bool×Int×List Int×Int×Blk×IOp×Int×Int×List Int×List Int×List Int×Unit->Bool}{f5:Int×Int×Bool×Bool×Int×List Int×Int×Blk×IOp×Int×Int×List Int×List Int×List Int×Unit->Int×Int×Bool×Bool×Int×List Int×Int×Int×Bool×List Int×List Int×List Int×Unit}(hp5:∀(m:aF) (b:Blk) (o:IOp) (x y:Int),m.mem.length=64->0<=x->m.ins.length<1000000000->m.outs.length<900000000->0<=m.count/\m.count<=1000000->0<=o.at_/\o.at_<=100-> -1000<=b.pc/\b.pc<=1000000-> -1000<=b.len/\b.len<=1000000->p5 (m.pc,m.save,m.bH,m.waits,m.halt,m.ins,m.count,b,o,x,y,m.regs,m.mem,m.outs,())=true)(hf5:∀(m:aF) (b:Blk) (o:IOp) (x y:Int),m.mem.length=64->0<=x->m.ins.length<1000000000->m.outs.length<900000000->0<=m.count/\m.count<=1000000->0<=o.at_/\o.at_<=100-> -1000<=b.pc/\b.pc<=1000000-> -1000<=b.len/\b.len<=1000000->f5 (m.pc,m.save,m.bH,m.waits,m.halt,m.ins,m.count,b,o,x,y,m.regs,m.mem,m.outs,())=ag2 (evR m b o x y)){p6:Blk×List Int×Unit->Bool}{f6:Blk×List Int×Unit->Int×Unit}(hp6:∀(b:Blk) (v:List Int), -1000<=b.pc/\b.pc<=1000000-> -1000<=b.len/\b.len<=1000000->(b.fin≠1->0<=b.x/\b.x<v.length)->(3<=b.fin->0<=b.y/\b.y<v.length)->p6 (b,v,())=true)(hf6:∀(b:Blk) (v:List Int), -1000<=b.pc/\b.pc<=1000000-> -1000<=b.len/\b.len<=1000000->(b.fin≠1->0<=b.x/\b.x<v.length)->(3<=b.fin->0<=b.y/\b.y<v.length)->f6 (b,v,())=(goS b v,())){p7:aF×IOp×Int×Int×Unit->Bool}{f7:aF×IOp×Int×Int×Unit->Int×Unit}(hp7:∀(m:aF) (o:IOp) (x y:Int),(o.kind=2->0<=o.k/\o.k<m.regs.length)->p7 (m,o,x,y,())=true)(hf7:∀(m:aF) (o:IOp) (x y:Int),(o.kind=2->0<=o.k/\o.k<m.regs.length)->f7 (m,o,x,y,())=(if o.kind=1 then o.k else if o.kind=2 then((m.regs).getD (o.k).toNat default)else if o.kind=3 then wdo o.k x y else 0,()))(b:Blk)(m:aF)(hs:MSh m)(hb:b.ops.length<1000000000)(ho:m.outs.length<800000000):Xy.F (p1,f1,p2,f2,p3,f3,p4,f4,p5,f5,p6,f6,p7,f7,()) (b,m,()) (λy=>y=alC (ou b m)):=by
 obtain⟨hp1,hf1⟩:=U1;obtain⟨hp2,hf2⟩:=U2;obtain⟨hp3,hf3⟩:=U3;obtain⟨hp4,hf4⟩:=U4;unfold m10 at hf3;unfold ag2 at hf5;have mM':=MKM;dsimp only [Xy,gm,nU,lU];simp (disch:=omega) only [RR,RB,MRB,hp1 b hb,hf1 b hb,hp2 m hs,hf2 m hs,hp3 m hs,hf3 m hs];refine⟨λg=> ?_,λg=> ?_⟩
 .unfold ou;rw [if_neg]
  .rfl
  .intro z;have z:=aV.1 z;rw [aT z.1,aT z.2]at g;rcases g with g | g<;>cases g
 have c1:=aV.1 g.1;have c2:=aV.1 g.2;have bl:=c1.ln;have cw:=c2.ct;have sz:=c1.sz;have bp':=c1.pc;have en:=c1.en;have w0:IntKind.i64.wrap (1000000-b.len)=1000000-b.len:=w64 ah ah;rw [w0];refine⟨λh=> ?_,λh=> ?_⟩
 .unfold ou;rw [if_pos (aT ⟨c1,c2⟩),if_pos (show m.halt≠0\/m.pc≠b.pc\/1000000-b.len<m.count by omega)]
 have st:¬(m.halt≠0\/m.pc≠b.pc\/1000000-b.len<m.count):=by omega
 rw [Zk c1 c2 st];refine aB (SIv b m) (λy=>(b.ops.length-y.1).toNat) ⟨0,⟨m,[],false⟩,Nat.zero_le _,⟨⟨rfl,rfl,rfl,(by intro n hn;cases hn),c2,hs.2.2.1,Nat.le_add_right _ _⟩,rfl,rfl,rfl⟩,rfl⟩ ?_;rintro y ⟨i,S,hi,J,rfl⟩;dsimp only;have R:=J.r;have ok:=R.ok;have ln:=R.ln;have Jp:=J.p;have Jh:=J.h;have Jc:=J.c;by_cases h7:(i:Int)<b.ops.length
 case neg=>
  have ei:i=b.ops.length:=by omega
  have eS:b.ops.foldl (fH b) ⟨m,[],false⟩=S:=by rw [R.e,ei];unfold SM;rw [List.take_of_length_le (Nat.le_refl _)]
  have x1:=en.x1;have y1:=en.y1;unfold Vl at x1 y1;have hf:=en.f;have hx:b.fin≠1->0<=b.x/\b.x<S.vals.length:=λz=>by have:=x1 ah;omega
  have hy:3<=b.fin->0<=b.y/\b.y<S.vals.length:=λz=>by have:=y1 ah;omega
  have P6:=hp6 b S.vals ah ah hx hy;have H6:=hf6 b S.vals ah ah hx hy;simp (disch:=omega) only [RR,h7,RB,P6,H6];rw [eS];unfold OJ;rw [R.lf,if_neg (by decide)];have wx:=R.wv.at b.x;have wy:=R.wv.at b.y;unfold Wo at wx wy;have eg:goS b S.vals=if b.fin=1 then b.k else if b.fin=2 then((S.vals).getD (b.x).toNat default)else if Ig (b.fin-2) ((S.vals).getD (b.x).toNat default) ((S.vals).getD (b.y).toNat default)=true then b.k else b.pc+b.len:=by
   unfold goS;have ix:=dG.2 wx;have iy:=dG.2 wy;rcases(by omega:b.fin=1\/b.fin=2\/b.fin=3\/b.fin=4)with f | f | f | f
   all_goals simp only [f,Int.reduceEq,if_false,if_true,true_and,false_and,Int.reduceSub,YI,YJ,ix,iy,Bool.true_and,decide_eq_true_eq]
  rw [eg]
 have hop:=c1.op i ah ah;have eT:((i:Int)).toNat=i:=rfl;generalize hq:((b.ops).getD ((i:Int)).toNat default)=o at*;rw [eT]at hq;have kd:=hop.kd;have x1:=hop.x1;have y1:=hop.y1;unfold Vl at x1 y1;have k1:=hop.k1;have k2:=hop.k2;have k3:=hop.k3;have a1:=hop.a1;have a0:=hop.a0;have m64:=ok.m64;have r4:=ok.r4;have lo:=R.lo;have li:=R.li;have nx:=λ{y} c1 c2 e=>SIv.next (y:=y) J ah hq k1 c1 c2 e
 have lv:∀mm:aF,fH b S o=⟨mm,S.vals,true⟩->b.ops.foldl (fH b) ⟨m,[],false⟩=⟨mm,S.vals,true⟩:=λmm h=>ach (i:=i+1) (by rw [Rl ah,<-R.e,hq];exact h)
 have X0:0<=o.x:=by
  by_cases h:hX o
  .have:=x1 h;omega
  .have:=hop.x0 h;omega
 have Y0:0<=o.y:=by
  by_cases h:hY o
  .have:=y1 h;omega
  .have:=hop.y0 h;omega
 have A4:∀k:Int,0<=k->f4 (S.vals,k,())=(uV S.vals k,()):=λk h=>by rw [hf4,if_neg ah]
 have wV:∀k:Int,Wo (uV S.vals k):=λk=>by
  unfold uV;split
  .exact R.wv.at _
  .exact wo0
 have ex:hX o->uV S.vals o.x=vx S o:=λh=>by
  have:=x1 h;unfold vx uV;rw [if_pos ah,if_pos h]
 have ey:hY o->uV S.vals o.y=vy S o:=λh=>by
  have:=y1 h;unfold vy uV;rw [if_pos ah,if_pos h]
 have wx:=wV o.x;have wy:=wV o.y;have F4x:=A4 o.x X0;have F4y:=A4 o.y Y0;generalize uV S.vals o.x=X at*;generalize uV S.vals o.y=Y at*;have ln':S.vals.length<1000:=by omega
 have cl:∀v:Int,(([v]:List Int).length:Int)=1:=λ_=>rfl
 have EV:evO o->p5 (S.m.pc,S.m.save,S.m.bH,S.m.waits,S.m.halt,S.m.ins,S.m.count,b,o,X,Y,S.m.regs,S.m.mem,S.m.outs,())=true:=λz=>by
  have:=a1 z;exact hp5 S.m b o X Y m64 wx.1 li ah ok.ct ah ah ah
 have EW:=λz:evO o=>hf5 S.m b o X Y m64 wx.1 li ah ok.ct (by have:=a1 z;omega) ah ah
 have EL:∀(mm:aF) (n h:Int),mm.pc=b.pc->lvS mm b n h=leave mm n h:=λmm n h e=>by unfold lvS leave;rw [e]
 have Sp:S.m.pc=b.pc:=by omega
 have Sh:S.m.halt=0:=by omega
 rcases(by omega:o.kind=1\/o.kind=2\/o.kind=3\/o.kind=4\/o.kind=5\/o.kind=6\/o.kind=7\/o.kind=8)with k | k | k | k | k | k | k | k
 .have P7:=hp7 S.m o X Y (λz=>by omega);have H7:=hf7 S.m o X Y (λz=>by omega);rw [if_pos k]at H7;simp (disch:=omega) only [RR,h7,RB,hq,eT,k,Int.reduceEq,hp4,F4x,F4y,mM',P7,H7,cl];exact⟨ah,ah,nx (λh=>by omega) (λh=>by omega) (by simp [mM,mV,k])⟩
 .have g:=k2 (Or.inl k);have P7:=hp7 S.m o X Y (λz=>by omega);have H7:=hf7 S.m o X Y (λz=>by omega);rw [if_neg ah,if_pos k]at H7;simp (disch:=omega) only [RR,h7,RB,hq,eT,k,Int.reduceEq,hp4,F4x,F4y,mM',P7,H7,cl];exact⟨ah,ah,nx (λh=>by omega) (λh=>by omega) (by simp [mM,mV,k])⟩
 .have P7:=hp7 S.m o X Y (λz=>by omega);have H7:=hf7 S.m o X Y (λz=>by omega);rw [if_neg ah,if_neg ah,if_pos k]at H7;have e1:=ex (by unfold hX;omega);have e2:=ey (Or.inl k);simp (disch:=omega) only [RR,h7,RB,hq,eT,k,Int.reduceEq,hp4,F4x,F4y,mM',P7,H7,cl];exact⟨ah,ah,nx (λh=>by omega) (λh=>by omega) (by simp [mM,mV,k,e1,e2])⟩
 .have e1:=ex (by unfold hX;omega);have Q:=EV (by unfold evO;omega);have V:=EW (by unfold evO;omega);by_cases z:64<=X
  .have ev:evR S.m b o X Y=(lvS S.m b o.at_ 3,0,true):=by unfold evR;rw [if_neg ah,if_neg ah,if_pos z]
   rw [ev]at V;simp (disch:=omega) only [RR,h7,RB,hq,eT,k,Int.reduceEq,hp4,F4x,F4y,mM',Q,V,cl];rw [lv (leave S.m o.at_ 3) (by unfold fH;rw [if_neg (by rw [R.lf];decide),if_pos ⟨Or.inl k,ah⟩]),EL _ _ _ Sp];exact⟨ah,rfl⟩
  .have ev:evR S.m b o X Y=(S.m,((S.m.mem).getD (X).toNat default),false):=by unfold evR;rw [if_neg ah,if_neg ah,if_neg z,if_pos k]
   rw [ev]at V;simp (disch:=omega) only [RR,h7,RB,hq,eT,k,Int.reduceEq,hp4,F4x,F4y,mM',Q,V,cl];exact⟨ah,ah,nx (λh=>by omega) (λh=>by omega) (by simp [mM,mV,k,e1])⟩
 .have e1:=ex (by unfold hX;omega);have e2:=ey (Or.inr k);have Q:=EV (by unfold evO;omega);have V:=EW (by unfold evO;omega);by_cases z:64<=X
  .have ev:evR S.m b o X Y=(lvS S.m b o.at_ 3,0,true):=by unfold evR;rw [if_neg ah,if_neg ah,if_pos z]
   rw [ev]at V;simp (disch:=omega) only [RR,h7,RB,hq,eT,k,Int.reduceEq,hp4,F4x,F4y,mM',Q,V,cl];rw [lv (leave S.m o.at_ 3) (by unfold fH;rw [if_neg (by rw [R.lf];decide),if_pos ⟨Or.inr k,ah⟩]),EL _ _ _ Sp];exact⟨ah,rfl⟩
  .have mm:mM S o={S.m with mem:=S.m.mem.set X.toNat Y}:=by unfold mM;rw [if_pos k,e1,e2]
   by_cases y:b.pc+o.at_<X/\X<b.pc+b.len
   .have ev:evR S.m b o X Y=(lvS {S.m with mem:=S.m.mem.set X.toNat Y} b (o.at_+1) 0,0,true):=by unfold evR;rw [if_neg ah,if_neg ah,if_neg z,if_neg ah,if_pos y]
    rw [ev]at V;simp (disch:=omega) only [RR,h7,RB,hq,eT,k,Int.reduceEq,hp4,F4x,F4y,mM',Q,V,cl];rw [lv (leave (mM S o) (o.at_+1) (mM S o).halt) (by unfold fH;rw [if_neg (by rw [R.lf];decide),if_neg ah,if_pos ⟨k,ah⟩]),mm,EL {S.m with mem:=S.m.mem.set X.toNat Y} _ _ Sp];dsimp only;rw [Sh];exact⟨ah,rfl⟩
   .have ev:evR S.m b o X Y=({S.m with mem:=S.m.mem.set X.toNat Y},0,false):=by unfold evR;rw [if_neg ah,if_neg ah,if_neg z,if_neg ah,if_neg y]
    rw [ev]at V;simp (disch:=omega) only [RR,h7,RB,hq,eT,k,Int.reduceEq,hp4,F4x,F4y,mM',Q,V,cl];exact⟨ah,ah,nx (λh=>by omega) (λh=>by omega) (by rw [mm];simp [mV,k])⟩
 .have Q:=EV (by unfold evO;omega);have V:=EW (by unfold evO;omega);have ev:evR S.m b o X Y=({S.m with ins:=S.m.ins.drop 1},S.m.ins.getD 0 0,false):=by unfold evR;rw [if_neg ah,if_pos k]
  rw [ev]at V;simp (disch:=omega) only [RR,h7,RB,hq,eT,k,Int.reduceEq,hp4,F4x,F4y,mM',Q,V,cl];exact⟨ah,ah,nx (λh=>by omega) (λh=>by omega) (by simp [mM,mV,k])⟩
 .have e1:=ex (by unfold hX;omega);have Q:=EV (by unfold evO;omega);have V:=EW (by unfold evO;omega);have ev:evR S.m b o X Y=({S.m with outs:=S.m.outs++ [X]},0,false):=by unfold evR;rw [if_pos k]
  rw [ev]at V;simp (disch:=omega) only [RR,h7,RB,hq,eT,k,Int.reduceEq,hp4,F4x,F4y,mM',Q,V,cl];exact⟨ah,ah,nx (λh=>by omega) (λh=>by omega) (by simp [mM,mV,k,e1])⟩
 .have e1:=ex (by unfold hX;omega);have xv:=x1 (by unfold hX;omega);have g:=k2 (Or.inr k);have eX:((S.vals).getD (o.x).toNat default)=vx S o:=by unfold vx;rw [if_pos (by unfold hX;omega)]
  simp (disch:=omega) only [RR,h7,RB,hq,eT,k,Int.reduceEq,hp4,F4x,F4y,mM',cl,eX];exact⟨ah,ah,ah,ah,ah,ah,ah,ah,ah,ah,nx (λh=>by omega) (λh=>by omega) (by simp [mM,mV,k])⟩
theorem EGM:∀e:Eng,Co.mk .eng (e.au.regs,e.au.pc,e.au.mem,e.au.save,e.au.bH,e.au.waits,e.au.halt,e.au.ins,e.au.outs,e.au.count,e.cache,e.aZ,())=e:=λ_=>rfl
def aol:Eng:=⟨Kn,[],[]⟩
noncomputable def goE (e:Eng) (q:List Int) (left:Int) (a:Ask):Eng×Bool:=
 if(e.au.waits=true\/e.au.count∈q)/\e.au.bH=true then(rV e q,false)
 else if(dY e a).2.1<0 then(rV (dY e a).1 q,(dY e a).2.2)
 else if Eb e.au q left ((((dY e a).1.cache).getD ((dY e a).2.1).toNat default)).blk.len=false then(rV (dY e a).1 q,(dY e a).2.2)
 else(⟨(ou ((((dY e a).1.cache).getD ((dY e a).2.1).toNat default)).blk {e.au with waits:=e.au.waits || bp (e.au.count∈q)}).1,(dY e a).1.cache.filter (qd (ou ((((dY e a).1.cache).getD ((dY e a).2.1).toNat default)).blk {e.au with waits:=e.au.waits || bp (e.au.count∈q)}).1.mem),(dY e a).1.aZ⟩,(dY e a).2.2)
noncomputable def FL (e:Eng) (q:List Int) (left:Int) (a:Ask):Eng×Bool:=
 if bp (OQ e)=false then(aol,false)else if e.au.halt≠0\/left<1\/e.au.count=1000000 then(e,false)else goE e q left a
def Rt:∀(r:List Ins) (n:Int) (b:Blk),(lM n b r).pc=b.pc/\(lM n b r).len=b.len
 | [],_,_=>⟨rfl,rfl⟩
 | i::r,n,b=>by
  have e:(fZ n b i).pc=b.pc/\(fZ n b i).len=b.len:=by
   unfold fZ;split
   .exact⟨rfl,rfl⟩
   split<;>exact⟨rfl,rfl⟩
  have h:=Rt r (n+1) (fZ n b i);exact⟨h.1.trans e.1,h.2.trans e.2⟩
def TF{pc:Int}{l:List Ins}(h:oC pc l):(lower pc l).pc=pc:=by
 unfold lower;rw [if_pos (aT h)];exact(Rt l 0 (xC pc l)).1
def Zl{b c:Blk}(h:chk b c=true):bX b/\bX c/\b.pc=c.pc/\b.len=c.len:=by
 have:=aV.1 h;exact⟨this.1,this.2.1,this.2.2.1,this.2.2.2.1⟩
def TG(l:List Cac)(e:Cac):((pE l e).getD (((pE l e).length:Int)-1).toNat default)=e:=by
 have n:(pE l e).length=(l.filter (neP e.blk.pc)).length+1- ((l.filter (neP e.blk.pc)).length+1-4):=by unfold pE;rw [List.length_drop,List.length_append,List.length_singleton]
 rw [n,getD_lt (by rw [n];omega)];unfold pE;rw [List.getElem_drop,List.getElem_append_right ah];simp
def FN(e:Eng)(a:Ask):(dY e a).1.au=e.au:=by
 unfold dY;split
 .rfl
 split<;>rfl
def acA{cs:List Cer}{b:Blk}{a:Ask}(h:cs.length<=3):(nI cs b a).2.length<=3:=by
 unfold nI;split
 .exact h
 split
 .exact h
 split
 .unfold Km;rw [List.length_drop,List.length_append,List.length_singleton];omega
 .exact h
structure FnS(e:Eng)(y:Eng×Int×Bool):Prop where
 l:y.1.cache.length<=e.cache.length+4/\(e.cache.length<=4->y.1.cache.length<=4)/\(e.aZ.length<=3->y.1.aZ.length<=3)
 w:(∀x∈e.cache,0<x.words.length)->∀x∈y.1.cache,0<x.words.length
 k:ShK y.1.cache
 c:ShC y.1.aZ
 r:y.2.1<y.1.cache.length
 b:0<=y.2.1->bX (((y.1.cache).getD (y.2.1).toNat default)).blk/\(((y.1.cache).getD (y.2.1).toNat default)).blk.pc=e.au.pc
def Zm{e:Eng}{a:Ask}(h2:ShK e.cache)(h3:ShC e.aZ)(ok:OQ e)(hl:a.bytes.length<1000000000):FnS e (dY e a):=by
 have B:=Ec e.au;have fc:=Zj e.cache e.au.pc;unfold dY;split
 .rename_i g;rcases fc with f | ⟨f1,f2,f3,_⟩
  .omega
  .exact⟨⟨Nat.le_add_right _ _,id,id⟩,id,h2,h3,f2,λ_=>⟨(Zl (ok.2.1.2.1 _ f1 f2).1.2.2).2.1,f3⟩⟩
 split
 .exact⟨⟨Nat.le_add_right _ _,id,id⟩,id,h2,h3,by dsimp only;omega,λg=>absurd (show(0:Int)<= -1 from g) (by decide)⟩
 .rename_i g;have bk:=(B.2 ah).2;have ir:=xD bk;have sz:=ir.sz;have A:=Rs (a:=a) h3 (show(lower e.au.pc (findF e.au)).ops.length<1000000 by omega) hl;have Q:=acy (a:=a) (b:=lower e.au.pc (findF e.au)) ok.2.2;have lpc:(lower e.au.pc (findF e.au)).pc=e.au.pc:=TF bk;have Z:bX (nI e.aZ (lower e.au.pc (findF e.au)) a).1/\(nI e.aZ (lower e.au.pc (findF e.au)) a).1.pc=e.au.pc:=by
   rcases Q with q | q
   .rw [q];exact⟨ir,lpc⟩
   .have k:=Zl q;exact⟨k.2.1,by rw [<-k.2.2.1,lpc]⟩
  have wl:((findF e.au).map lN).length<1000:=by rw [List.length_map];omega
  have zp:=Z.1.pc;have zl:=Z.1.ln;have S:=acz h2 (e:=⟨(findF e.au).map lN,(nI e.aZ (lower e.au.pc (findF e.au)) a).1⟩) wl A.1 (by dsimp only;omega);have kl:(pE e.cache ⟨(findF e.au).map lN,(nI e.aZ (lower e.au.pc (findF e.au)) a).1⟩).length<=4:=by
   unfold pE;rw [List.length_drop,List.length_append,List.length_singleton];omega
  exact⟨⟨by dsimp only;omega,λ_=>kl,λz=>acA z⟩,λhw x hx=>by
   unfold pE at hx;have hx:=List.mem_of_mem_drop hx;rw [List.mem_append,List.mem_singleton]at hx;rcases hx with hx | rfl
   .exact hw x (List.mem_filter.1 hx).1
   .show 0< ((findF e.au).map lN).length;rw [List.length_map];omega,S.1,A.2,Int.sub_lt_self _ (by decide),λ_=>by rw [TG];exact Z⟩
def Rv{l:List Cac}(h:ShK l)(P:Cac->Bool):ShK (l.filter P):=h.sub (Nat.lt_of_le_of_lt (List.length_filter_le _ _) h.1) λx hx=>(List.mem_filter.1 hx).1
abbrev e13(y : Eng × Bool) : List Int × Int × Int × Bool × Bool × Int × List Int × List Int × Int × Bool × List Cer × List Int × List Cac × Unit := (y.1.au.regs, y.1.au.pc, y.1.au.save, y.1.au.bH, y.1.au.waits, y.1.au.halt, y.1.au.ins, y.1.au.outs, y.1.au.count, y.2, y.1.aZ, y.1.au.mem, y.1.cache, ())
def Kr{b:Blk}{m:aF}(hs:MSh m)(ho:m.outs.length<900000000):MSh (ou b m).1/\(ou b m).1.outs.length<=m.outs.length+48/\(ou b m).1.ins.length<=m.ins.length:=by
 unfold ou;split
 .rename_i g;have g:=aV.1 g;split
  .exact⟨hs,Nat.le_add_right _ _,Nat.le_refl _⟩
  .have l:=Ih b b.ops ⟨m,[],false⟩;have sz:=g.1.sz;refine⟨acg g.1 hs ho,?_,?_⟩
   .unfold OJ;split<;>(dsimp only;have:=l.2.1;dsimp only at this;omega)
   .unfold OJ;split<;>exact l.1
 .exact⟨⟨by decide,by decide,by decide,by decide⟩,Nat.zero_le _,Nat.zero_le _⟩
structure aom(pp:Eng×Unit->Bool)(ff:Eng×Unit->Bool×Unit):Prop where
 hp:∀e,MSh e.au->ShK e.cache->ShD e.aZ->pp (e,())=true
 hf:∀e,MSh e.au->ShK e.cache->ShD e.aZ->ff (e,())=(bp (OQ e),())
theorem alE{p1 f1 p2 f2 p8 f8}(U1:aln p1 f1)(U2:aom p2 f2){p3:Blk×aF×Unit->Bool}{f3:Blk×aF×Unit->Int×Int×Bool×Bool×Int×List Int×Int×Bool×List Int×List Int×List Int×Unit}(hp3:∀(b:Blk) (m:aF),MSh m->b.ops.length<1000000000->m.outs.length<800000000->p3 (b,m,())=true)(hf3:∀(b:Blk) (m:aF),MSh m->b.ops.length<1000000000->m.outs.length<800000000->f3 (b,m,())=alC (ou b m)){p4:Eng×Unit->Bool}{f4:Eng×Unit->List Int×Int×Int×Bool×Bool×Int×List Int×List Int×Int×List Cer×List Int×List Cac×Unit}(hp4:∀e,MSh e.au->ShK e.cache->ShC e.aZ->p4 (e,())=true)(hf4:∀e,MSh e.au->ShK e.cache->ShC e.aZ->f4 (e,())=e12 e){p5:List Int×Int×List Int×Int×Bool×Bool×Int×List Int×List Int×Int×List Cac×Ask×List Cer×Unit->Bool}{f5:List Int×Int×List Int×Int×Bool×Bool×Int×List Int×List Int×Int×List Cac×Ask×List Cer×Unit->List Int×Int×List Int×Int×Bool×Bool×Int×List Int×List Int×Int×List Cac×Int×Bool×List Cer×Unit}(hp5:∀(e:Eng) (a:Ask),MSh e.au->ShK e.cache->ShC e.aZ->By a.bytes->a.bytes.length<1000000000->p5 (e.au.regs,e.au.pc,e.au.mem,e.au.save,e.au.bH,e.au.waits,e.au.halt,e.au.ins,e.au.outs,e.au.count,e.cache,a,e.aZ,())=true)(hf5:∀(e:Eng) (a:Ask),MSh e.au->ShK e.cache->ShC e.aZ->By a.bytes->a.bytes.length<1000000000->f5 (e.au.regs,e.au.pc,e.au.mem,e.au.save,e.au.bH,e.au.waits,e.au.halt,e.au.ins,e.au.outs,e.au.count,e.cache,a,e.aZ,())=((dY e a).1.au.regs,(dY e a).1.au.pc,(dY e a).1.au.mem,(dY e a).1.au.save,(dY e a).1.au.bH,(dY e a).1.au.waits,(dY e a).1.au.halt,(dY e a).1.au.ins,(dY e a).1.au.outs,(dY e a).1.au.count,(dY e a).1.cache,(dY e a).2.1,(dY e a).2.2,(dY e a).1.aZ,())){p6:List Int×Int×List Int×Int×Bool×Bool×Int×List Int×List Int×Int×List Cac×List Int×List Cer×Unit->Bool}{f6:List Int×Int×List Int×Int×Bool×Bool×Int×List Int×List Int×Int×List Cac×List Int×List Cer×Unit->List Int×Int×Int×Bool×Bool×Int×List Int×List Int×Int×List Cer×List Int×List Cac×Unit}(hp6:∀(e:Eng) (q:List Int),MSh e.au->e.au.outs.length<900000000->ShK e.cache->q.length<1000000000->p6 (e.au.regs,e.au.pc,e.au.mem,e.au.save,e.au.bH,e.au.waits,e.au.halt,e.au.ins,e.au.outs,e.au.count,e.cache,q,e.aZ,())=true)(hf6:∀(e:Eng) (q:List Int),MSh e.au->e.au.outs.length<900000000->ShK e.cache->q.length<1000000000->f6 (e.au.regs,e.au.pc,e.au.mem,e.au.save,e.au.bH,e.au.waits,e.au.halt,e.au.ins,e.au.outs,e.au.count,e.cache,q,e.aZ,())=e12 (rV e q)){p7:aF×List Int×Int×Int×Unit->Bool}{f7:aF×List Int×Int×Int×Unit->Bool×Unit}(hp7:∀m q l s,q.length<1000000000->0<=m.count/\m.count<=2000000-> -1000<=s/\s<=1000000->p7 (m,q,l,s,())=true)(hf7:∀m q l s,q.length<1000000000->0<=m.count/\m.count<=2000000-> -1000<=s/\s<=1000000->f7 (m,q,l,s,())=(Eb m q l s,()))(U8:agR p8 f8)(e:Eng)(q:List Int)(left:Int)(a:Ask)(h1:MSh e.au)(ho:e.au.outs.length<700000000)(h2:ShK e.cache)(h3:ShC e.aZ)(hq:q.length<1000000000)(ha:By a.bytes)(hl:a.bytes.length<1000000000):Xz.F (p1,f1,p2,f2,p3,f3,p4,f4,p5,f5,p6,f6,p7,f7,p8,f8,()) (e,q,left,a,()) (λy=>y=e13 (FL e q left a)):=by
 obtain⟨hp1,hf1⟩:=U1;obtain⟨hp2,hf2⟩:=U2;obtain⟨hp8,hf8⟩:=U8;have mM:=MKM;have mE:∀c:Blk,Co.mk .blk (c.pc,c.len,c.ops,c.fin,c.x,c.y,c.k,())=c:=λ_=>rfl
 dsimp only [Xz,gm,nU,lU]at*;have P6:=hp6 e q h1 ah h2 hq;have H6:=hf6 e q h1 ah h2 hq;have P5:=hp5 e a h1 h2 h3 ha hl;have H5:=hf5 e a h1 h2 h3 ha hl;have P8:=hp8 q e.au.count hq;have H8:=hf8 q e.au.count hq;have fm:=FN e a;have S:OQ e->FnS e (dY e a):=λk=>Zm h2 h3 k hl
 unfold FL goE;generalize dY e a=Y at*;simp (disch:=omega) only [RR,mM,hp2 e h1 h2 h3.d,hf2 e h1 h2 h3.d,hp4 e h1 h2 h3,hf4 e h1 h2 h3,P6,H6,P5,H5,P8,H8,CAB,mE];refine⟨λg=>by rw [if_pos g];rfl,λg=>⟨λh=>by rw [if_neg (by rw [g];decide),if_pos (show e.au.halt≠0\/left<1\/e.au.count=1000000 by omega)],λh=> ?_⟩⟩;have ok:=aV.1 g;have S:=S ok;have cw:=ok.1.ct;rw [if_neg (by rw [g];decide),if_neg (show¬(e.au.halt≠0\/left<1\/e.au.count=1000000) by omega)];have PY:=hp6 Y.1 q (by rw [fm];exact h1) (by rw [fm];omega) S.k hq;have HY:=hf6 Y.1 q (by rw [fm];exact h1) (by rw [fm];omega) S.k hq;rw [HY];have ec:((e.au.waits=true\/bp (e.au.count∈q)=true)/\e.au.bH=true)↔((e.au.waits=true\/e.au.count∈q)/\e.au.bH=true):=by rw [aV]
 refine⟨λw=>by rw [if_pos (ec.1 w)],λw=> ?_⟩;rw [if_neg (λz=>by
  have:((e.au.waits || bp (e.au.count∈q))&&e.au.bH)=true:=by rw [Bool.and_eq_true,Bool.or_eq_true];exact ec.2 z
  rw [this]at w;cases w)]
 refine⟨λn=>⟨PY,by rw [if_pos n]⟩,λn=> ?_⟩;rw [if_neg ah];have k0:0<=Y.2.1:=by omega
 have Sr:=S.r;obtain⟨B1,B2⟩:=S.b k0;have s1:=(S.k.at Y.2.1.toNat).2.1;generalize hb:(((Y.1.cache).getD (Y.2.1).toNat default)).blk=b at*;have bl:=B1.ln;have P7:=hp7 e.au q left b.len hq ah ah;have H7:=hf7 e.au q left b.len hq ah ah;refine⟨k0,Sr,P7,?_⟩;rw [H7];refine⟨λr=>⟨PY,by rw [if_pos r]⟩,λr=> ?_⟩;have r:Eb e.au q left b.len=true:=r;rw [if_neg (by rw [r];decide)];obtain⟨M,hM⟩:∃M:aF,M={e.au with waits:=e.au.waits || bp (e.au.count∈q)}:=⟨_,rfl⟩;have eM:Co.mk .au (e.au.regs,e.au.pc,e.au.mem,e.au.save,e.au.bH,e.au.waits || bp (e.au.count∈q),e.au.halt,e.au.ins,e.au.outs,e.au.count,())=M:=hM.symm;have Ms:MSh M:=by rw [hM];exact h1
 have Mo:M.outs.length<700000000:=by rw [hM];exact ho
 rw [<-hM];have R:=Kr (b:=b) Ms ah;simp only [eM,hp3 b M Ms ah ah,hf3 b M Ms ah ah,hp1 _ _ S.k R.1.2.1,hf1 _ _ S.k R.1.2.1];exact⟨trivial,trivial,trivial⟩
structure EgS(e:Eng)(n:Nat):Prop where
 m:MSh e.au
 o:e.au.outs.length<=n
 k:ShK e.cache
 c:ShC e.aZ
 kl:e.cache.length<=4
 cl:e.aZ.length<=3
 w:∀x∈e.cache,0<x.words.length
 v:∀x∈e.cache,0<=x.blk.pc/\x.blk.pc<e.au.mem.length
def Zn{l:List Cac}{mem:List Int}(w:∀x∈l,0<x.words.length):∀x∈l.filter (qd mem),0<=x.blk.pc/\x.blk.pc<mem.length:=λx hx=>by
 have h:=List.mem_filter.1 hx;have d:=aV.1 (show bp _=true from h.2);have t:=d.2 0 (by decide) (by have:=w x h.1;omega);exact⟨d.1,ah⟩
def acB{e:Eng}{n:Nat}(h:EgS e n)(hn:n<700000000)(q:List Int)(left:Int){a:Ask}(hl:a.bytes.length<1000000000):EgS (FL e q left a).1 (n+50):=by
 have ho:=h.o;unfold FL;split
 .exact⟨⟨by decide,by decide,by decide,by decide⟩,Nat.zero_le _,⟨by decide,λx hx=>by cases hx⟩,⟨by decide,λx hx=>by cases hx⟩,by decide,by decide,(λx hx=>by cases hx),λx hx=>by cases hx⟩
 rename_i g;have ok:OQ e:=aV.1 (by simpa using g);split
 .exact⟨h.m,by have:=h.o;dsimp only;omega,h.k,h.c,h.kl,h.cl,h.w,h.v⟩
 have pl:∀y:Eng,y.au=e.au->ShK y.cache->ShC y.aZ->y.cache.length<=4->y.aZ.length<=3->(∀x∈y.cache,0<x.words.length)->EgS (rV y q) (n+50):=λy ym yk yc yl ym' yw=>by
  have s:=Zd (m:=y.au) (by rw [ym];exact h.m) (by rw [ym];omega) (bp (y.au.count∈q));rw [ym]at s;exact⟨by unfold rV;rw [ym];exact s.1,by have:=s.2.1;unfold rV;rw [ym];dsimp only;omega,Rv yk _,yc,Nat.le_trans (List.length_filter_le _ _) yl,ym',λx hx=>yw x (List.mem_filter.1 hx).1,Zn yw⟩
 have S:=Zm h.k h.c ok hl;have fm:=FN e a;unfold goE;split
 .exact pl e rfl h.k h.c h.kl h.cl h.w
 split
 .exact pl _ fm S.k S.c (S.l.2.1 h.kl) (S.l.2.2 h.cl) (S.w h.w)
 split
 .exact pl _ fm S.k S.c (S.l.2.1 h.kl) (S.l.2.2 h.cl) (S.w h.w)
 .have R:=Kr (b:=((((dY e a).1.cache).getD ((dY e a).2.1).toNat default)).blk) (m:={e.au with waits:=e.au.waits || bp (e.au.count∈q)}) h.m (by dsimp only;omega);exact⟨R.1,by have:=R.2.1;dsimp only at this ⊢;omega,Rv S.k _,S.c,Nat.le_trans (List.length_filter_le _ _) (S.l.2.1 h.kl),S.l.2.2 h.cl,λx hx=>S.w h.w x (List.mem_filter.1 hx).1,Zn (S.w h.w)⟩
def EnD(b:List Int)(p:Int)(y:List Int×Int×Int×Bool×Bool×Int×List Int×List Int×Int×List Int×Int×List Cer×List Int×List Cac×Unit):Prop:=
 ∃(e:Eng) (p':Int),EgS e 1000/\p<=p'/\p'<=p+30000000/\y=(e.au.regs,e.au.pc,e.au.save,e.au.bH,e.au.waits,e.au.halt,e.au.ins,e.au.outs,e.au.count,b,p',e.aZ,e.au.mem,e.cache,())
def ShK.nil:ShK []:=⟨by decide,λx hx=>by cases hx⟩
def ShC.nil:ShC []:=⟨by decide,λx hx=>by cases hx⟩
def ag7{m:aF}(h:MSh m)(ho:m.outs.length<=0):EgS (newE m) 0:=by
 unfold newE;split
 .exact⟨h,ho,ShK.nil,ShC.nil,Nat.zero_le _,Nat.zero_le _,(λx hx=>by cases hx),λx hx=>by cases hx⟩
 .exact⟨⟨by decide,by decide,by decide,by decide⟩,Nat.le_refl _,ShK.nil,ShC.nil,by decide,by decide,(λx hx=>by cases hx),λx hx=>by cases hx⟩
theorem ag8{p3 f3 p4 f4 p5 f5 p6 f6 p7 f7}{p1:aF×Unit->Bool}{f1:aF×Unit->List Int×Int×Int×Bool×Bool×Int×List Int×List Int×Int×List Cer×List Int×List Cac×Unit}(hp1:∀m,MSh m->p1 (m,())=true)(hf1:∀m,MSh m->f1 (m,())=e12 (newE m)){p2:Eng×List Int×Int×Ask×Unit->Bool}{f2:Eng×List Int×Int×Ask×Unit->List Int×Int×Int×Bool×Bool×Int×List Int×List Int×Int×Bool×List Cer×List Int×List Cac×Unit}(hp2:∀(e:Eng) (q:List Int) (l:Int) (a:Ask),MSh e.au->e.au.outs.length<700000000->ShK e.cache->ShC e.aZ->q.length<1000000000->By a.bytes->a.bytes.length<1000000000->p2 (e,q,l,a,())=true)(hf2:∀(e:Eng) (q:List Int) (l:Int) (a:Ask),MSh e.au->e.au.outs.length<700000000->ShK e.cache->ShC e.aZ->q.length<1000000000->By a.bytes->a.bytes.length<1000000000->f2 (e,q,l,a,())=e13 (FL e q l a))(U3:an9 p3 f3)(U4:aoa p4 f4)(U5:aob p5 f5)(U6:Y38 p6 f6)(U7:aoc p7 f7){p8:aF×List Int×Int×Unit->Bool}{f8:aF×List Int×Int×Unit->Bool×List Int×Int×List Int×Unit}(hp8:∀m b p,MSh m->Bt b->0<=p->p<500000000->p8 (m,b,p,())=true)(hf8:∀m b p,MSh m->Bt b->0<=p->p<500000000->AsD b p (f8 (m,b,p,())))(b:List Int)(p:Int)(hb:Bt b)(h1:0<=p)(h2:p<300000000):Ob.F (p1,f1,p2,f2,p3,f3,p4,f4,p5,f5,p6,f6,p7,f7,p8,f8,()) (b,p,()) (λy=>EnD b p y):=by
 obtain⟨hp3,hf3⟩:=U3;obtain⟨hp4,hf4⟩:=U4;obtain⟨hp5,hf5⟩:=U5;obtain⟨hp6,hf6⟩:=U6;obtain⟨hp7,hf7⟩:=U7;have R:=pkR hb hf6;have P:=λn p h1 h2=>hp6 n b p hb h1 h2
 obtain⟨i1,i2,i3,i4,i5⟩:=hf4 b p hb h1 ah;have P4:=hp4 b p hb h1 ah;generalize hy:f4 (b,p,())=y at i1 i2 i3 i4 i5;obtain⟨b',q0,w,⟨⟩⟩:=y;dsimp only at i1 i2 i3 i4 i5;subst i1;obtain⟨a1,a2,a3,a4⟩:=hf6 4 b' q0 hb ah ah;have P6:=hp6 4 b' q0 hb ah ah;generalize hk:f6 (4,b',q0,())=k at a1 a2 a3 a4;obtain⟨n,b'',q1,⟨⟩⟩:=k;dsimp only at a1 a2 a3 a4;subst a1;subst a2;obtain⟨w1,w2,w3,w4,w5⟩:=hf7 n b'' (q0+1) hb ah ah ah;have P7:=hp7 n b'' (q0+1) hb ah ah ah;generalize hw:f7 (n,b'',q0+1,())=v at w1 w2 w3 w4 w5;obtain⟨c,q2,ins,⟨⟩⟩:=v;dsimp only at w1 w2 w3 w4 w5;subst w1;have ok:=aco i4 i5 w5;have P3:=hp3 w ins ah ah;have H3:=hf3 w ins ah ah;have Nm:(jD w ins).outs=[]/\(jD w ins).ins.length<=ins.length:=by
  unfold jD;split<;>exact⟨rfl,by simp [Kn]⟩
 have Ns:MSh (jD w ins):=⟨by rw [ok.r4];decide,by have:=ok.m64;omega,ah,by rw [Nm.1];decide⟩;have P1:=hp1 _ Ns;have H1:=hf1 _ Ns;have E0:=ag7 Ns (by rw [Nm.1];exact Nat.le_refl _);obtain⟨s1,s2,s3,s4⟩:=hf5 c q2 hb ah ah;have P5:=hp5 c q2 hb ah ah;generalize hs:f5 (c,q2,())=z at s1 s2 s3 s4;obtain⟨d,q3,irq,⟨⟩⟩:=z;dsimp only at s1 s2 s3 s4;subst s1;have mM:=MKM;generalize jD w ins=M at*;have mK:Co.mk .au (M.regs,M.pc,M.mem,M.save,M.bH,M.waits,M.halt,M.ins,[],M.count,())=M:=by
  have:=Nm.1;cases M;dsimp only at this;subst this;rfl
 generalize newE M=N at*;dsimp only [Ob,gm,nU];simp (disch:=omega) only [RR,P4,hy,P6,hk,P7,hw,P3,H3,P5,hs,R,P,mK,P1,H1];obtain⟨t1,t2,t3,t4⟩:=hf6 12 d q3 hb ah ah;refine aB (λy=>∃(k q:Int) (e:Eng),0<=k/\k<=11/\p<=q/\q<=p+20000+2000100*(11-k)/\EgS e (50*(11-k).toNat)/\y=(k,d,q,0,0,false,false,0,0,e.au.regs,e.au.pc,e.au.save,e.au.bH,e.au.waits,e.au.halt,e.au.ins,e.au.outs,e.au.count,irq,e.au.mem,e.cache,e.aZ,())) (λy=>y.1.toNat) ⟨(f6 (12,d,q3,())).1,q3+1,N,t3,ah,ah,ah,⟨E0.m,by have:=E0.o;omega,E0.k,E0.c,E0.kl,E0.cl,E0.w,E0.v⟩,rfl⟩ ?_;rintro y ⟨k,q,e,k0,k1,k2,k3,E,rfl⟩;dsimp only;have eo:=E.o;by_cases c:0<k
 .obtain⟨u1,u2,u3,u4⟩:=hf6 30 d q hb ah ah;have P8:=hp8 e.au d (q+1) E.m hb ah ah;have A:=hf8 e.au d (q+1) E.m hb ah ah;have Ap:=A.p;have Ab:=A.b;obtain⟨Al,An⟩:=A.l;generalize hA8:f8 (e.au,d,q+1,())=a at*;have w1:IntKind.i64.wrap (1+(f6 (30,d,q,())).1)=1+(f6 (30,d,q,())).1:=w64 ah ah;have P2:=hp2 e irq (1+(f6 (30,d,q,())).1) ⟨a.1,a.2.2.2.1⟩ E.m ah E.k E.c ah Al (by dsimp only;omega);have H2:=hf2 e irq (1+(f6 (30,d,q,())).1) ⟨a.1,a.2.2.2.1⟩ E.m ah E.k E.c ah Al (by dsimp only;omega);have T:=acB E ah irq (1+(f6 (30,d,q,())).1) (a:=⟨a.1,a.2.2.2.1⟩) (by dsimp only;omega);have mA:∀(x:Bool) (y:List Int),Co.mk .ask (x,y,())=(⟨x,y⟩:Ask):=λ_ _=>rfl
  have mG:=EGM;generalize FL e irq (1+(f6 (30,d,q,())).1) ⟨a.1,a.2.2.2.1⟩=X at*;simp (disch:=omega) only [RR,c,R,P,mM,P8,hA8,mA,mG,w1,P2,H2];exact⟨⟨k-1,a.2.2.1,X.1,ah,ah,ah,ah,⟨T.m,by have:=T.o;omega,T.k,T.c,T.kl,T.cl,T.w,T.v⟩,by rw [Ab]⟩,ah⟩
 .simp (disch:=omega) only [RR,c];exact⟨e,q,⟨E.m,ah,E.k,E.c,E.kl,E.cl,E.w,E.v⟩,k2,ah,rfl⟩
def KpD(b:List Int)(p:Int)(y:List Int×List Int×Int×List Cac×Unit):Prop:=
 ∃(e:Eng) (p':Int),EgS e 1000/\p<=p'/\p'<=p+30000000/\y=(e.au.mem,b,p',e.cache,())
structure aon(pp:List Int×Int×Unit->Bool)(ff:List Int×Int×Unit->List Int×Int×Int×Bool×Bool×Int×List Int×List Int×Int×List Int×Int×List Cer×List Int×List Cac×Unit):Prop where
 hp:∀b p,Bt b->0<=p->p<300000000->pp (b,p,())=true
 hf:∀b p,Bt b->0<=p->p<300000000->EnD b p (ff (b,p,()))
def ag9{p1 f1}(U1:aon p1 f1)(b:List Int)(p:Int)(hb:Bt b)(h1:0<=p)(h2:p<100000000):Oc.F (p1,f1,()) (b,p,()) (λy=>KpD b p y):=by
 obtain⟨e,p',E,e1,e2,H⟩:=U1.hf b p hb h1 ah;have P1:=U1.hp b p hb h1 ah;dsimp only [Oc,gm];simp (disch:=omega) only [RR,P1,H];exact⟨e,p',E,e1,e2,rfl⟩
structure aoo(pp:List Int×Int×Unit->Bool)(ff:List Int×Int×Unit->List Int×List Int×Int×List Cac×Unit):Prop where
 hp:∀b p,Bt b->0<=p->p<100000000->pp (b,p,())=true
 hf:∀b p,Bt b->0<=p->p<100000000->KpD b p (ff (b,p,()))
def alF{p1 f1 p2 f2 p3 f3}(U1:Y41 p1 f1)(U2:Y38 p2 f2)(U3:aoo p3 f3)(c:List Int)(hc:By c)(hl:c.length<1000000000):XC.F (p1,f1,p2,f2,p3,f3,()) (c,()) (λy=>y.2.1.length<1000):=by
 obtain⟨hb,e0⟩:=U1.hf c hc hl;generalize hbe:(f1 (c,())).1=b at hb;obtain⟨e,q,E,e1,e2,H⟩:=U3.hf b 0 hb ah ah;have P3:=U3.hp b 0 hb ah ah;have R:=pkR hb U2.hf;have P:=λn p h1 h2=>U2.hp n b p hb h1 h2
 have l:=E.k.1;obtain⟨_,_,a3,a4⟩:=U2.hf e.cache.length b (q+1) hb ah ah;dsimp only [XC,gm];simp (disch:=omega) only [RR,U1.hp c hc hl,hbe,e0,P3,H,R,P,CAB];refine⟨λg=>⟨λk=>⟨ah,ah,l⟩,λk=>l⟩,λg=>⟨ah,l⟩⟩
def PuD(y:List Cac×Cac×Unit):Prop:=ShK y.1/\y.2.1.words.length<1000/\y.2.1.blk.ops.length<1000000/\y.2.1.blk.pc<=1000000
def ShK.add{l:List Cac}(h:ShK l)(n:l.length<999){x:Cac}(h1:x.words.length<1000)(h2:x.blk.ops.length<1000000)(h3:x.blk.pc<=1000000):ShK (l++ [x]):=by
 refine⟨by rw [List.length_append,List.length_singleton];omega,λc hc=> ?_⟩;rw [List.mem_append,List.mem_singleton]at hc;rcases hc with g | rfl
 .exact h.2 c g
 .exact⟨h1,h2,h3⟩
structure ao8(pp:Cac×Cac×Unit->Bool)(ff:Cac×Cac×Unit->Bool×Cac×Unit):Prop where
 hp:∀e x,pp (e,x,())=true
 hf:∀e x,ff (e,x,())=(decide (e.blk.pc=x.blk.pc),x,())
structure Kt(P:Cac->Bool)(l L:List Cac)(i j:Int):Prop where
 i0:0<=i
 ij:i<=j
 jl:j<=l.length
 len:L.length=l.length
 a:L.take i.toNat=(l.take j.toNat).filter P
 b:∀k:Nat,j<=k->L.getD k default=l.getD k default
def Kt.keep{P:Cac->Bool}{l L:List Cac}{i j:Int}(h:Kt P l L i j)(hj:j<l.length)(hp:P ((L).getD (j).toNat default)=true):Kt P l (L.set i.toNat ((L).getD (j).toNat default)) (i+1) (j+1):=by
 obtain⟨i0,ij,jl,len,a,b⟩:=h;have ej:((L).getD (j).toNat default)=((l).getD (j).toNat default):=b j.toNat ah;rw [ej]at hp ⊢;refine⟨ah,ah,ah,by rw [List.length_set];exact len,?_,λk hk=> ?_⟩
 .rw [mO (d:=default) ah hj,if_pos hp,<-a,show(i+1).toNat=i.toNat+1 by omega,List.take_succ_eq_append_getElem (by rw [List.length_set];omega),List.getElem_set_self,List.take_set_of_le (Nat.le_refl _)]
 .rw [<-b k ah,List.getD_eq_getElem?_getD,List.getD_eq_getElem?_getD,List.getElem?_set_ne ah,<-List.getD_eq_getElem?_getD]
def Kt.skip{P:Cac->Bool}{l L:List Cac}{i j:Int}(h:Kt P l L i j)(hj:j<l.length)(hp:P ((L).getD (j).toNat default)=false):Kt P l L i (j+1):=by
 obtain⟨i0,ij,jl,len,a,b⟩:=h;have ej:((L).getD (j).toNat default)=((l).getD (j).toNat default):=b j.toNat ah;rw [ej]at hp;refine⟨ah,ah,ah,len,?_,λk hk=>b k ah⟩;rw [mO (d:=default) ah hj,if_neg (by rw [hp];decide),List.append_nil,a]
def Kt.fin{P:Cac->Bool}{l L:List Cac}{i j:Int}(h:Kt P l L i j)(hj:¬j<l.length):L.take i.toNat=l.filter P:=by
 rw [h.a,List.take_of_length_le (by have:=h.jl;omega)]
structure ao9(pp:List Cac×Unit->Bool)(ff:List Cac×Unit->List Cac×Unit):Prop where
 hp:∀l,ShK l->pp (l,())=true
 hf:∀l,ShK l->ff (l,())=(l,())
structure apa(pp:List Cac×Cac×Unit->Bool)(ff:List Cac×Cac×Unit->List Cac×Unit):Prop where
 hp:∀l e,ShK l->e.words.length<1000->e.blk.ops.length<1000000->e.blk.pc<=1000000->pp (l,e,())=true
 hf:∀l e,ShK l->e.words.length<1000->e.blk.ops.length<1000000->e.blk.pc<=1000000->ff (l,e,())=(pE l e,())
structure apb(pp:List Cac×List Cac×Unit->Bool)(ff:List Cac×List Cac×Unit->Bool×Unit):Prop where
 hp:∀a b,ShK a->pp (a,b,())=true
 hf:∀a b,ShK a->ff (a,b,())=(bp (a=b),())
structure apc(pp:List Int×Unit->Bool)(ff:List Int×Unit->List Cac×Cac×Unit):Prop where
 hp:∀c,By c->c.length<1000000000->pp (c,())=true
 hf:∀c,By c->c.length<1000000000->PuD (ff (c,()))
structure apd(pp:Cac×List Int×Unit->Bool)(ff:Cac×List Int×Unit->Bool×List Int×Unit):Prop where
 hp:∀e mem,e.words.length<1000->mem.length<1000000000->e.blk.pc<=1000000->pp (e,mem,())=true
 hf:∀e mem,e.words.length<1000->mem.length<1000000000->e.blk.pc<=1000000->ff (e,mem,())=(!qd mem e,mem,())
structure EoD(b:List Int)(p:Int)(y:Eng×List Int×Int×Unit):Prop where
 m:MSh y.1.au
 o:y.1.au.outs.length<=2000
 k:ShK y.1.cache
 kl:y.1.cache.length<=10
 c:ShC y.1.aZ
 cl:y.1.aZ.length<=10
 b:y.2.1=b
 lo:p<=y.2.2.1
 hi:y.2.2.1<=p+40000000
def ShK.set{l:List Cac}(h:ShK l)(i:Nat){x:Cac}(h1:x.words.length<1000)(h2:x.blk.ops.length<1000000)(h3:x.blk.pc<=1000000):ShK (l.set i x):=by
 refine⟨by rw [List.length_set];exact h.1,λc hc=> ?_⟩;rcases List.mem_or_eq_of_mem_set hc with g | rfl
 .exact h.2 c g
 .exact⟨h1,h2,h3⟩
end Go.TX.F
namespace Go.TX
open Go Go.AE
def enters_of{P:Program}{f:FuncId}{fn:Func}{c:Code}(hf:P.funcs[f]? =some fn)(hname:(fn.name== "runtime.NumGoroutine")=false)(hb:fn.body=some c):Enters P f:=by
 intro args w;have h1:fn.name≠ "runtime.NumGoroutine" :=by simpa using hname
 simp [callFunc,hf,h1,hb,mark]
def Rw(P:Program):Nat->List Field->Bool
 | _,[]=>true
 | k,f::fs=> !(f.name== "_")&&f.offset==k&& (match P.underlying f.type with | some (.int _)=>true | _=>false)&&Rw P (k+1) fs
def Rx{P:Program}(w:World)(d:Nat)(xs ys:List Int)(hl:xs.length=ys.length):∀(fs:List Field) (k:Nat),Rw P k fs=true->k+fs.length=xs.length->
  (Op.eqFields (d+1) (xs.map (Value.int .i64)).toArray (ys.map (Value.int .i64)).toArray fs).run P w= .ok (xs.drop k==ys.drop k) w
 | [],k,_,h2=>by
  rw [List.drop_eq_nil_of_le (show xs.length<=k by simp only [List.length_nil]at h2;omega),List.drop_eq_nil_of_le (show ys.length<=k by simp only [List.length_nil]at h2;omega)];simp [Op.eqFields]
 | f::fs,k,h1,h2=>by
  simp only [List.length_cons]at h2;simp only [Rw,Bool.and_eq_true,Bool.not_eq_true',beq_eq_false_iff_ne,beq_iff_eq]at h1;obtain⟨⟨⟨n1,n2⟩,n3⟩,n4⟩:=h1;have hk:k<xs.length:=by omega
  have hk':k<ys.length:=by omega
  obtain⟨kd,hu⟩:∃kd,P.underlying f.type=some (.int kd):=by
   cases hu:P.underlying f.type with
   | none=>rw [hu]at n3;cases n3
   | some z=>cases z<;>(first | exact⟨_,rfl⟩ | (rw [hu]at n3;cases n3))
  have pk:P.plainKey f.type=true:=by unfold Program.plainKey;rw [hu]
  have p1:=run_part_plain w pk (xs:=(xs.map (Value.int .i64)).toArray) (off:=f.offset) (v:= .int .i64 xs[k]) (by rw [n2];simp [hk]);have p2:=run_part_plain w pk (xs:=(ys.map (Value.int .i64)).toArray) (off:=f.offset) (v:= .int .i64 ys[k]) (by rw [n2];simp [hk']);have ih:=Rx w d xs ys hl fs (k+1) n4 ah;simp only [Op.eqFields,if_pos n1,Sem.run_bind,p1,p2,Result.andThen_ok,run_equalIn_int w d f.type .i64 kd _ _ hu];have e:(xs.drop k==ys.drop k)=((xs[k]==ys[k])&& (xs.drop (k+1)==ys.drop (k+1))):=by rw [List.drop_eq_getElem_cons hk,List.drop_eq_getElem_cons hk'];rfl
  rw [e];by_cases c:(xs[k]==ys[k])=true
  .rw [c];simp only [Bool.not_true,Bool.false_eq_true,if_false,ih,Bool.true_and]
  .have c2:(xs[k]==ys[k])=false:=by simpa using c
   rw [c2];simp only [Bool.not_false,if_true,Sem.run_pure,Bool.false_and]
def aha{P:Program}{t:TypeId}{n:Nat}(hu:P.underlying t=some (.struct (P.fieldsOf t)))(hs:P.stoodInHeld t=false)(hg:P.eqGuardType P.depth t=false)(hf:Rw P 0 (P.fieldsOf t).toList=true)(hn:(P.fieldsOf t).size=n)(xs ys:List Int)(hx:xs.length=n)(hy:ys.length=n)(w:World):
  (Op.equal t (.agg (xs.map (Value.int .i64)).toArray) (.agg (ys.map (Value.int .i64)).toArray)).run P w= .ok (xs==ys) w/\
  (eqGuard .eql t (.tmp 0) (.tmp 0) (.agg (xs.map (Value.int .i64)).toArray) (.agg (ys.map (Value.int .i64)).toArray)).run P w= .ok () w:=by
 refine⟨?_,run_eqGuard_agg w _ _ _ _ _ _ hg⟩;show(Op.equalIn (9999+1) t _ _).run P w=_;rw [run_equalIn_struct w 9999 t _ _ hu hs,Rx w 9998 xs ys ah _ 0 hf (by rw [Array.length_toList];omega)];rfl
abbrev aop:Sig:={args:=[.c (.rows true .u8)],objs:=[],res:=[.c .bool],dN:=[]}
def entry(W:World):Ctx:={K:=λ_ b=>b<W.heap.size,ν:=λ_=>none,n:=0}
def OT(W:World):bI (entry W) W []:=
 ⟨λl o h=>(by cases h),λl o l' o' b h=>(by cases h),λf b ⟨l,o,h,_⟩=>(by cases h),λf b h=>h,λb h=>h⟩
def Ku{W W':World}{c':Ctx}{h':Heap}(g:Grow (entry W) W [] c' W' h'):RowKit.Below W.heap.size W W':=
 ⟨g.os,g.tape,g.output,g.size,λk hk=>g.kept k hk λ⟨l,o,h,_⟩=>by cases h⟩
def acC{c:Ctx}{w:World}{v:Value}{r:PV}{N:NM}{b:Bool}(h1:bG c w v r)(h2:PVR N r (.c (.d true (.bool b)))):v= .bool b:=by
 cases h2 with
 | one h=>
  cases h with
  | c h=>
   cases h with
   | d h3 _=>
    subst h3;cases h1 with
    | c _ _ h4=>cases h4 with
     | d _ _ _ h5=>cases h5;rfl
  | agg h=>cases h
def aoq{E:Tab}{f:FuncId}{c:Ct aI aop}(hc:jY E f (jw c)){xs:List Int}{W:World}{v:Value}(hv:dD (λb=>b<W.heap.size) W v (.rows 1 (aO .u8 xs)))
  (hg:oH E (entry W) W) (hp:c.pre (xs,())=true):Go.Calls E.P f #[v] W λe W'=>e= .returned (.bool (c.fn (xs,())).1)/\RowKit.Below W.heap.size W W':=by
 refine(hc.calls [.c (.d true (.rows 1 (aO .u8 xs)))] [] 0 (λr _ _=>PVR (nmh []) r (.c (.d true (.bool (c.fn (xs,())).1)))) ?_ (entry W) W [v] rfl (.cons (.c _ _ (.d true _ _ hv)) .nil) (OT W) hg).mono ?_
 .refine⟨0,[.c (.d true (.rows .u8 xs))],[],.cons (.one (.c (.d rfl λ_=> .inl rfl))) .nil,⟨λl o h=>(by cases h),λ_ _=>rfl⟩,rfl,_,rfl,?_,_,_,rfl,?_⟩
  .intro b hb;rcases List.mem_append.1 hb with h | h
   .cases h
   .rw [List.mem_singleton]at h;rw [h];exact hp
  .intro r _ _ h _ _ _;exact h
 .rintro e W' he;cases e with
  | returned u=>
   obtain⟨c',r,h',j,g,_,_,h1,h2⟩:=he;exact⟨by rw [acC h1 h2],Ku g⟩
  | outgrown=>exact he.elim
  | panicked _=>exact he.elim
open Go.RowKit Go.ChangeShapes Go.WideShapes Go.ChangeAt in
def Zo{H:Type}{enc:TypeId×Value->H}{P:Program}{t e:TypeId}(ht:P.underlying t=some (.slice e))(he:P.underlying e=some (.int .u8))(hc:P.cellsOf e=1){W:World}{base:Nat}{v:Value}{d:DataW H}{p:List MemPlace}
  (hval:Value.okWide P W .any base t v) (h:DataW.Trod enc P W 0 (λ_=>true) true t v d p) (hlt:∀x∈p,x.block<W.heap.size):
  ∃xs:List Int,dD (λb=>b<W.heap.size) W v (.rows 1 (aO .u8 xs))/\∀z∈xs,0<=z/\z<=255:=by
 obtain⟨a0,len,cap,rfl⟩:=okWide_slice ht hval;obtain⟨fuel,hf⟩:=h;rcases open_ints ht he hc hf with⟨hcs,hx⟩ | ⟨a,len',cap',zs,hcs,_,hl,hm,hz,hx,hcell,hwz⟩
 .simp [Value.cells]at hcs;obtain⟨rfl,rfl,rfl⟩:=hcs;exact⟨[],.none _ _ _,λ_ h=>by cases h⟩
 .simp [Value.cells]at hcs;obtain⟨rfl,rfl,rfl⟩:=hcs;simp only [Prod.mk.injEq]at hx;obtain⟨rfl,rfl⟩:=hx;simp only [if_true]at hz;have rng:∀z∈zs,0<=z/\z<=255:=λz hz=>by
   obtain⟨i,hi,rfl⟩:=List.getElem_of_mem hz;have:=range_u8 hwz i
   rwa [List.getElem?_eq_getElem hi]at this
  refine⟨zs.take len,?_,λz h=>rng z (List.mem_of_mem_take h)⟩;by_cases h0:len=0
  .subst h0;exact .none _ _ _
  .obtain⟨b,off,spot⟩:=a;have hspot:spot=none:=by simpa [Addr.add]using World.cell?_spot (hcell 0 ah)
   subst hspot;have hbW:b<W.heap.size:=hlt (.cell b off) (MemPlace.mem_row.2 ⟨0,ah,by simp⟩);have hlen:(aO .u8 (zs.take len)).length=len:=by simp only [aO,List.length_map,List.length_take];omega
   have hget:∀i,i<len->(aO .u8 (zs.take len)).getD i []=[.int .u8 (zs.getD i 0)]:=λi hi=>by
    simp only [aO,List.getD,List.getElem?_map,List.getElem?_take_of_lt hi,List.getElem?_eq_getElem (show i<zs.length by omega)];rfl
   refine .rows b off cap 1 len _ (λi j=> .int .u8 (zs.getD i 0)) hbW hlen.symm hl (λi j hi hj=> ?_) (λi hi=> ?_) (λi j hi hj=> ?_)
   .rw [hlen]at hi;have:=hcell i ah;rw [add_plain]at this;rw [show off+i*1+j=off+i by omega];exact this
   .rw [hlen]at hi;rw [hget i hi];rfl
   .rw [hlen]at hi;have hj0:j=0:=by omega
    subst hj0;unfold gd;rw [hget i hi];exact .int _ _
end Go.TX
namespace Go.TX.Seat
open Go Go.AE Go.TX Go.TX.F Go.Proofs
set_option maxRecDepth 100000
theorem aor:∀t n,E.ieq t=some n->∀(xs ys:List Int),xs.length=n->ys.length=n->∀w,
  (Op.equal t (.agg (xs.map (Value.int .i64)).toArray) (.agg (ys.map (Value.int .i64)).toArray)).run E.P w= .ok (xs==ys) w/\
  (eqGuard .eql t (.tmp 0) (.tmp 0) (.agg (xs.map (Value.int .i64)).toArray) (.agg (ys.map (Value.int .i64)).toArray)).run E.P w= .ok () w:=by
 intro t n h;obtain⟨c,hc,rfl⟩:∃c,ieq t=some c/\c.size=n:=by
  have h':(ieq t).map (λc=>c.size)=some n:=h;cases hi:ieq t with
  | none=>rw [hi]at h';cases h'
  | some c=>rw [hi]at h';cases h';exact⟨c,rfl,rfl⟩
 unfold ieq at hc;split at hc
 all_goals first | (cases hc;exact aha (by kernel_rfl) (by kernel_rfl) (by kernel_rfl) (by kernel_rfl) (by kernel_rfl)) | cases hc
theorem hE:aH E:=⟨anL,aor⟩
theorem aos:∀t c,X.ieq t=some c->(c= .ins/\E.ieq t=some 4)\/(c= .iop/\E.ieq t=some 5):=by
 intro t c h;have h:ieq t=some c:=h;have e:E.ieq t=(ieq t).map λc=>c.size:=rfl
 rw [e,h];unfold ieq at h;split at h
 all_goals first | (cases h;first | exact Or.inl ⟨rfl,rfl⟩ | exact Or.inr ⟨rfl,rfl⟩) | cases h
theorem xok:XOK X E:=⟨rfl,λg c h=>(by
    first
    | (cases h;done)
    | (dsimp only [X] at h
       split at h
       · rename_i e;cases h;unfold E;dsimp only;rw [if_pos e];rfl
       · cases h)),aos⟩
theorem hm:E.P.follows .mixedOrders=true:=by kernel_rfl
structure HL(l:List (Nat×Sig)) where
 C:Cs (std 0) l
 h:∀p∈csl (std 0) l C,jY E p.1 (jw p.2.2)
abbrev hn : HL [] := ⟨(), λ_ h => by cases h⟩
abbrev hk{f : FuncId}{s : Sig}{c : Ct aI s}{l : List (Nat × Sig)}(h : jY E f (jw c))(r : HL l) : HL ((f, s) :: l) := ⟨(c.pre, c.fn, r.C), λp hp => by
 rcases List.mem_cons.1 hp with rfl | hp
 .exact h
 .exact r.h p hp⟩
structure Mt{lk:aG}{s:Sig}{an:Ann}{fn:Func}{l:List (Nat×Sig)}(f:FuncId)(g:Gt lk X E an s fn l) where
 H:HL l
 k:Fn E f (g.F H.C) (cn (g.F H.C))
section
variable {lk:aG} {s:Sig} {an:Ann} {fn:Func} {l:List (Nat×Sig)} {f:FuncId}
@[irreducible] noncomputable def Mt.c {g : Gt lk X E an s fn l} (t : Mt f g) : Ct aI s := cn (g.F t.H.C)
theorem Mt.cs{g:Gt lk X E an s fn l}(t:Mt f g){x:gG s.inp}{Q:gG s.out->Prop}(h:g.F t.H.C x Q):t.c.pre x=true/\Q (t.c.fn x):=by unfold Mt.c;exact t.k.cs h
theorem Mt.ok{g:Gt lk X E an s fn l}(t:Mt f g):jY E f (jw t.c):=by unfold Mt.c;exact t.k.ok
@[reducible] noncomputable def hc {r : List (Nat × Sig)} {g : Gt lk X E an s fn l} (t : Mt f g) (h : HL r) : HL ((f, s) :: r) := hk t.ok h
theorem mkF(hf:E.P.funcs[f]? =some fn)(g:Gt lk X E an s fn l)(H:HL l)
 (hb:fn.body.isSome=true:=by rfl) (hn:(fn.name== "runtime.NumGoroutine")=false:=by kernel_rfl):Fn E f (g.F H.C) (cn (g.F H.C)):=anI hE xok hm hf hb (λ_=>enters_of hf hn) H.h (g.h H.C)
noncomputable def mk (g:Gt lk X E an s fn l) (hf:E.P.funcs[f]? =some fn) (H:HL l)
 (hb:fn.body.isSome=true:=by rfl) (hn:(fn.name== "runtime.NumGoroutine")=false:=by kernel_rfl):Mt f g:=⟨H,mkF hf g H hb hn⟩
end
end Go.TX.Seat
namespace Go.TX.F
open Go Go.AE Go.TX Go.TX.Seat Go.Proofs
set_option maxRecDepth 100000
set_option maxHeartbeats 4000000
noncomputable def OU:=mk Mf Tryz.func21 hn
def ahb:=λb hb hl=>(OU.cs (X8 b hb hl:)).1
def ahc:=λb hb hl=>(OU.cs (X8 b hb hl:)).2
noncomputable def gV:=mk Mg Tryz.func23 hn
def iL:=λn b p hb h1 h2=>(gV.cs (X9 n b p hb h1 h2:)).1
def iM:=λn b p hb h1 h2=>(gV.cs (X9 n b p hb h1 h2:)).2
noncomputable def yR:=mk V4 Tryz.func58 hn
def Ed:=λa=>(yR.cs (adu a:)).1
def Ee:=λa=>(yR.cs (adu a:)).2
noncomputable def OV:=mk Mh Tryz.func57 (hc yR hn)
def rW:=λl h=>OV.cs (agE ⟨Ed,Ee⟩ l h:)
def Zp:=λl h=>(rW l h).1
def Zq:=λl h=>(rW l h).2
noncomputable def jE:=mk Mi Tryz.func59 hn
def jW:=λa b c=>(jE.cs (XQ a b c:)).1
def jX:=λa b c=>(jE.cs (XQ a b c:)).2
noncomputable def FP:=mk V5 Tryz.func42 (hc yR (hc jE (hc OV hn)))
def yT:=λm h=>FP.cs (akZ ⟨Ed,Ee⟩ ⟨jW,jX⟩ ⟨Zp,Zq⟩ m h:)
def Kv:=λm h=>(yT m h).1
def Kw:=λm h=>(yT m h).2
noncomputable def Am:=mk Mj Tryz.func91 hn
def Ij:=λm h=>(Am.cs (YP m h:)).1
def Ik:=λm h=>(Am.cs (YP m h:)).2
noncomputable def adO:=mk V6 Tryz.func62 (hc FP (hc Am hn))
def vE:=λm h=>adO.cs (alm ⟨Kv,Kw⟩ ⟨Ij,Ik⟩ m h:)
def alG:=λm h=>(vE m h).1
def alH:=λm h=>(vE m h).2
noncomputable def adP:=mk V7 Tryz.func63 (hc OV hn)
def vF:=λw i hw hi=>adP.cs (ak5 ⟨Zp,Zq⟩ w i hw hi:)
def alI:=λw i hw hi=>(vF w i hw hi).1
def alJ:=λw i hw hi=>(vF w i hw hi).2
noncomputable def Zr:=mk Mk Tryz.func27 (hc gV hn)
def oD:=λn b p hb h1 h2=>Zr.cs (af2 ⟨iL,iM⟩ n b p hb h1 h2:)
def ahd:=λn b p hb h1 h2=>(oD n b p hb h1 h2).1
def ahe:=λn b p hb h1 h2=>(oD n b p hb h1 h2).2
noncomputable def OW:=mk Ml Tryz.func104 hn
def ahf:=λi=>(OW.cs (rT i:)).1
def ahg:=λi=>(OW.cs (rT i:)).2
noncomputable def Ky:=mk V8 Tryz.func71 (hc jE (hc OW hn))
def yU:=λi=>Ky.cs (Ey ⟨jW,jX⟩ ahf ahg i:)
def Ry:=λi=>(yU i).1
def Rz:=λi=>(yU i).2
noncomputable def Zt:=mk V9 Tryz.func48 (hc Ky hn)
def vG:=λi=>Zt.cs (ak2 ⟨Ry,Rz⟩ i:)
def adQ:=λi=>(vG i).1
def adR:=λi=>(vG i).2
noncomputable def Zu:=mk Wh Tryz.func29 (hc Zt hn)
def qg:=λl hl=>Zu.cs (ak4 ⟨adQ,adR⟩ l hl:)
def adS:=λl hl=>(qg l hl).1
def adT:=λl hl=>(qg l hl).2
noncomputable def OX:=mk Mq Tryz.func37 (hc gV hn)
def rX:=λb p hb h1 h2=>OX.cs (af3 ⟨iL,iM⟩ b p hb h1 h2:)
def Zv:=λb p hb h1 h2=>(rX b p hb h1 h2).1
def Zw:=λb p hb h1 h2=>(rX b p hb h1 h2).2
noncomputable def OY:=mk Mr Tryz.func69 (hc gV hn)
def vH:=λb p hb h1 h2=>OY.cs (agi ⟨iL,iM⟩ b p hb h1 h2:)
def Zx:=λb p hb h1 h2=>(vH b p hb h1 h2).1
def Zy:=λb p hb h1 h2=>(vH b p hb h1 h2).2
noncomputable def Kz:=mk Wi Tryz.func72 hn
def Zz:=λa=>(Kz.cs (qc a:)).1
def ZA:=λa=>(Kz.cs (qc a:)).2
noncomputable def OZ:=mk Mv Tryz.func70 (hc Kz (hc Ky hn))
def rY:=λi=>OZ.cs (Bz ⟨Zz,ZA⟩ ⟨Ry,Rz⟩ i:)
def ZB:=λi=>(rY i).1
def ahh:=λi=>(rY i).2
noncomputable def Il:=mk Mw Tryz.func47 (hc OY (hc gV (hc OZ hn)))
def rZ:=λb p hb h1 h2=>Il.cs (agj ⟨Zx,Zy⟩ ⟨iL,iM⟩ ⟨ZB⟩ b p hb h1 h2:)
def O5:=λb p hb h1 h2=>(rZ b p hb h1 h2).1
def O6:=λb p hb h1 h2=>(rZ b p hb h1 h2).2
noncomputable def ZE:=mk Mx Tryz.func92 (hc Il (hc gV hn))
def sj:=λt b p hb t0 h1 h2=>ZE.cs (agU ⟨O5,O6⟩ ⟨iL,iM⟩ t b p hb t0 h1 h2:)
def ahi:=λt b p hb t0 h1 h2=>(sj t b p hb t0 h1 h2).1
def ahj:=λt b p hb t0 h1 h2=>(sj t b p hb t0 h1 h2).2
noncomputable def ZF:=mk MB Tryz.func93 (hc gV hn)
def su:=λt b p hb t0 h1 h2=>ZF.cs (agT ⟨iL,iM⟩ t b p hb t0 h1 h2:)
def ahk:=λt b p hb t0 h1 h2=>(su t b p hb t0 h1 h2).1
def ahl:=λt b p hb t0 h1 h2=>(su t b p hb t0 h1 h2).2
noncomputable def ZG:=mk MC Tryz.func64 (hc Zu (hc Zt (hc ZE (hc Il (hc OY (hc ZF (hc Zr (hc gV (hc OX hn)))))))))
def qh:=λb p hb h1 h2=>ZG.cs (agV ⟨adS,adT⟩ ⟨adQ,adR⟩ ahi ahj ⟨O5,O6⟩ ⟨Zx,Zy⟩ ahk ahl ⟨ahd,ahe⟩ ⟨iL,iM⟩ ⟨Zv,Zw⟩ b p hb h1 h2:)
def ahm:=λb p hb h1 h2=>(qh b p hb h1 h2).1
def ahn:=λb p hb h1 h2=>(qh b p hb h1 h2).2
noncomputable def ZH:=mk ME Tryz.func65 (hc OX hn)
def ql:=λn b p hb hn h1 h2=>ZH.cs (af4 ⟨Zv,Zw⟩ n b p hb hn h1 h2:)
def aho:=λn b p hb hn h1 h2=>(ql n b p hb hn h1 h2).1
def ahp:=λn b p hb hn h1 h2=>(ql n b p hb hn h1 h2).2
noncomputable def ZI:=mk MF Tryz.func66 (hc gV hn)
def sD:=λb p hb h1 h2=>ZI.cs (agS ⟨iL,iM⟩ b p hb h1 h2:)
def ahq:=λb p hb h1 h2=>(sD b p hb h1 h2).1
def ahr:=λb p hb h1 h2=>(sD b p hb h1 h2).2
noncomputable def sF:=mk MG Tryz.func52 hn
def Ao:=λb hb=>(sF.cs (Yk b hb:)).1
def Aq:=λb hb=>(sF.cs (Yk b hb:)).2
noncomputable def RA:=mk Wj Tryz.func36 (hc sF hn)
def qm:=λe hw ho=>RA.cs (ald ⟨Ao,Aq⟩ e hw ho:)
def ZJ:=λe hw ho=>(qm e hw ho).1
def ZK:=λe hw ho=>(qm e hw ho).2
noncomputable def RD:=mk Wm Tryz.func40 hn
def adU:=λw mem pc hw hm p0 p1=>(RD.cs (adL w mem pc hw hm p0 p1:)).1
def adV:=λw mem pc hw hm p0 p1=>(RD.cs (adL w mem pc hw hm p0 p1:)).2
noncomputable def ZL:=mk Wn Tryz.func17 (hc RA (hc RD hn))
def sG:=λl mem h hm=>ZL.cs (alf ⟨ZJ,ZK⟩ ⟨adU,adV⟩ l mem h hm:)
def adW:=λl mem h hm=>(sG l mem h hm).1
def adX:=λl mem h hm=>(sG l mem h hm).2
noncomputable def ZM:=mk Wp Tryz.func49 (hc Kz (hc Ky (hc jE (hc OZ hn))))
def yV:=λpc l hl=>ZM.cs (EA ⟨Zz,ZA⟩ ⟨Ry,Rz⟩ ⟨jW,jX⟩ ZB ahh pc l hl:)
def adY:=λpc l hl=>(yV pc l hl).1
def adZ:=λpc l hl=>(yV pc l hl).2
noncomputable def xE:=mk MH Tryz.func73 hn
def xG:=λa1 a2 a3 a4 a5 a6 o ops h=>(xE.cs (vB a1 a2 a3 a4 a5 a6 o ops h:)).1
def xH:=λa1 a2 a3 a4 a5 a6 o ops h=>(xE.cs (vB a1 a2 a3 a4 a5 a6 o ops h:)).2
noncomputable def Im:=mk MI Tryz.func74 (hc xE hn)
def ZN:=λa1 a2 a3 a4 a5 a6 k x ops h=>(Im.cs (vD ⟨xG,xH⟩ a1 a2 a3 a4 a5 a6 k x ops h:)).1
def ZO:=λa1 a2 a3 a4 a5 a6 k x ops h=>(Im.cs (vD ⟨xG,xH⟩ a1 a2 a3 a4 a5 a6 k x ops h:)).2
noncomputable def Ar:=mk MK Tryz.func75 (hc xE hn)
def Io:=λa1 a2 a3 a4 a5 a6 k ops h=>(Ar.cs (vC ⟨xG,xH⟩ a1 a2 a3 a4 a5 a6 k ops h:)).1
def Ip:=λa1 a2 a3 a4 a5 a6 k ops h=>(Ar.cs (vC ⟨xG,xH⟩ a1 a2 a3 a4 a5 a6 k ops h:)).2
noncomputable def O7:=mk ML Tryz.func76 (hc Ar (hc xE hn))
def qo:=λa1 a2 a3 a4 a5 a6 k a o ops h=>O7.cs (Ai ⟨Io,Ip⟩ ⟨xG,xH⟩ a1 a2 a3 a4 a5 a6 k a o ops h:)
def ZP:=λa1 a2 a3 a4 a5 a6 k a o ops h=>(qo a1 a2 a3 a4 a5 a6 k a o ops h).1
def ZQ:=λa1 a2 a3 a4 a5 a6 k a o ops h=>(qo a1 a2 a3 a4 a5 a6 k a o ops h).2
noncomputable def O8:=mk MN Tryz.func77 hn
def ahs:=λk k0 k1=>(O8.cs (qb k k0 k1:)).1
def aht:=λk k0 k1=>(O8.cs (qb k k0 k1:)).2
noncomputable def ZR:=mk MO Tryz.func78 (hc Ar (hc xE (hc O7 (hc Im hn))))
def sH:=λa1 a2 a3 a4 a5 a6 i n ops hi h=>ZR.cs (Bw ⟨Io,Ip⟩ ⟨xG,xH⟩ ⟨ZP,ZQ⟩ ⟨ZN,ZO⟩ a1 a2 a3 a4 a5 a6 i n ops hi h:)
def ahu:=λa1 a2 a3 a4 a5 a6 i n ops hi h=>(sH a1 a2 a3 a4 a5 a6 i n ops hi h).1
def ahv:=λa1 a2 a3 a4 a5 a6 i n ops hi h=>(sH a1 a2 a3 a4 a5 a6 i n ops hi h).2
set_option maxRecDepth 100000
set_option maxHeartbeats 4000000
noncomputable def ZT:=mk MQ Tryz.func79 (hc Ar hn)
def vI:=λB i hi h=>ZT.cs (D9 ⟨Io,Ip⟩ B i hi h:)
def ahw:=λB i hi h=>(vI B i hi h).1
def ahx:=λB i hi h=>(vI B i hi h).2
noncomputable def ZU:=mk MR Tryz.func50 (hc Ar (hc ZT (hc xE (hc ZR (hc O7 (hc Im (hc O8 hn)))))))
def yX:=λB i n hi h0 h=>ZU.cs (Ez ⟨Io,Ip⟩ ahw ahx ⟨xG,xH⟩ ahu ahv ⟨ZP,ZQ⟩ ⟨ZN,ZO⟩ ahs aht B i n hi h0 h:)
def ahy:=λB i n hi h0 h=>(yX B i n hi h0 h).1
def ahz:=λB i n hi h0 h=>(yX B i n hi h0 h).2
noncomputable def KA:=mk Wq Tryz.func30 (hc ZM (hc ZU hn))
def qp:=λpc l hl=>KA.cs (Aj ⟨adY,adZ⟩ ahy ahz pc l hl:)
def RF:=λpc l hl=>(qp pc l hl).1
def RG:=λpc l hl=>(qp pc l hl).2
noncomputable def ZV:=mk MU Tryz.func166 (hc jE hn)
def sI:=λk=>ZV.cs (af8 ⟨jW,jX⟩ k:)
def ahA:=λk=>(sI k).1
def ahB:=λk=>(sI k).2
noncomputable def O9:=mk MV Tryz.func144 (hc ZV hn)
def yY:=λops x n h1=>O9.cs (af9 ahA ahB ops x n h1:)
def ZW:=λops x n h1=>(yY ops x n h1).1
def ZX:=λops x n h1=>(yY ops x n h1).2
noncomputable def ZY:=mk MW Tryz.func111 (hc yR (hc jE (hc O9 hn)))
def Bf:=λops i len h0 h1 h3=>ZY.cs (aga ⟨Ed,Ee⟩ ⟨jW,jX⟩ ⟨ZW,ZX⟩ ops i len h0 h1 h3:)
def ahC:=λops i len h0 h1 h3=>(Bf ops i len h0 h1 h3).1
def ahD:=λops i len h0 h1 h3=>(Bf ops i len h0 h1 h3).2
noncomputable def Z0:=mk MX Tryz.func112 (hc yR (hc O9 hn))
def yZ:=λb=>Z0.cs (agd ⟨Ed,Ee⟩ ⟨ZW,ZX⟩ b:)
def ahE:=λb=>(yZ b).1
def ahF:=λb=>(yZ b).2
noncomputable def sJ:=mk Ws Tryz.func86 (hc jE (hc Z0 (hc ZY hn)))
def Bg:=λb h2=>sJ.cs (aks ⟨jW,jX⟩ ahE ahF ahC ahD b h2:)
def vJ:=λb h2=>(Bg b h2).1
def vK:=λb h2=>(Bg b h2).2
noncomputable def RH:=mk Wt Tryz.func87 hn
def ad1:=λa b ha=>(RH.cs (adI a b ha:)).1
def ad2:=λa b ha=>(RH.cs (adI a b ha:)).2
noncomputable def KC:=mk Wu Tryz.func113 (hc jE hn)
def sK:=λa=>KC.cs (akc ⟨jW,jX⟩ a:)
def RL:=λa=>(sK a).1
def RN:=λa=>(sK a).2
noncomputable def Z4:=mk Wv Tryz.func88 (hc KC hn)
def vL:=Z4.cs (akn ⟨RL,RN⟩:)
def ad3:=(vL).1
def ad4:=(vL).2
noncomputable def Ef:=mk MZ Tryz.func155 hn
def Pb:=λa b ha=>(Ef.cs (XU a b ha:)).1
def Pf:=λa b ha=>(Ef.cs (XU a b ha:)).2
noncomputable def Z5:=mk M0 Tryz.func173 (hc jE hn)
def vM:=λm hm=>Z5.cs (afO ⟨jW,jX⟩ m hm:)
def ahG:=λm hm=>(vM m hm).1
def ahH:=λm hm=>(vM m hm).2
noncomputable def Eh:=mk Ww Tryz.func151 (hc Z5 (hc Ef hn))
def y7:=λa ha=>Eh.cs (akd ahG ahH ⟨Pb,Pf⟩ a ha:)
def FQ:=λa ha=>(y7 a ha).1
def FR:=λa ha=>(y7 a ha).2
noncomputable def Ph:=mk M4 Tryz.func167 hn
def ahI:=λa=>(Ph.cs (XV a:)).1
def ahJ:=λa=>(Ph.cs (XV a:)).2
noncomputable def Z6:=mk Wx Tryz.func168 hn
def alK:=λa n ha=>(Z6.cs (adx a n ha:)).1
def alL:=λa n ha=>(Z6.cs (adx a n ha:)).2
noncomputable def Pj:=mk M5 Tryz.func145 (hc jE (hc Eh (hc Z6 (hc Ph hn))))
def vN:=λa n ha=>Pj.cs (afP ⟨jW,jX⟩ ⟨FQ,FR⟩ ⟨alK,alL⟩ ahI ahJ a n ha:)
def Z7:=λa n ha=>(vN a n ha).1
def Z8:=λa n ha=>(vN a n ha).2
noncomputable def Bh:=mk Wy Tryz.func128 (hc Ef hn)
def qw:=λa b ha=>Bh.cs (ake ⟨Pb,Pf⟩ a b ha:)
def Ei:=λa b ha=>(qw a b ha).1
def Ej:=λa b ha=>(qw a b ha).2
noncomputable def Pm:=mk M6 Tryz.func146 (hc Bh hn)
def vO:=λa b ha=>Pm.cs (afQ ⟨Ei,Ej⟩ a b ha:)
def Z9:=λa b ha=>(vO a b ha).1
def aac:=λa b ha=>(vO a b ha).2
noncomputable def ad5:=mk Wz Tryz.func114 (hc Pj (hc Pm hn))
def y8:=λa ha=>ad5.cs (akf ⟨Z7,Z8⟩ ⟨Z9,aac⟩ a ha:)
def alM:=λa ha=>(y8 a ha).1
def alN:=λa ha=>(y8 a ha).2
noncomputable def lQ:=mk M7 Tryz.func123 hn
def pF:=λa ha=>(lQ.cs (XY a ha:)).1
def pG:=λa ha=>(lQ.cs (XY a ha:)).2
noncomputable def Pn:=mk M8 Tryz.func147 (hc lQ hn)
def vP:=λa ha=>Pn.cs (afS ⟨pF,pG⟩ a ha:)
def aad:=λa ha=>(vP a ha).1
def aae:=λa ha=>(vP a ha).2
noncomputable def aaf:=mk M9 Tryz.func115 (hc Pn hn)
def vQ:=λa ha=>aaf.cs (afT ⟨aad,aae⟩ a ha:)
def ahK:=λa ha=>(vQ a ha).1
def ahL:=λa ha=>(vQ a ha).2
noncomputable def Iq:=mk Na Tryz.func116 (hc Pj (hc Pm (hc Pn hn)))
def y9:=λa t ha ht hok=>Iq.cs (afU ⟨Z7,Z8⟩ ⟨Z9,aac⟩ ⟨aad,aae⟩ a t ha ht hok:)
def Po:=λa t ha ht hok=>(y9 a t ha ht hok).1
def Pp:=λa t ha ht hok=>(y9 a t ha ht hok).2
noncomputable def Pq:=mk Nb Tryz.func117 hn
def ahM:=λk l=>(Pq.cs (Yy k l:)).1
def ahN:=λk l=>(Pq.cs (Yy k l:)).2
noncomputable def aag:=mk WA Tryz.func118 (hc jE hn)
def qx:=λa=>aag.cs (akb ⟨jW,jX⟩ a:)
def ad6:=λa=>(qx a).1
def ad7:=λa=>(qx a).2
noncomputable def za:=mk WB Tryz.func164 hn
def El:=λa=>(za.cs (adw a:)).1
def Em:=λa=>(za.cs (adw a:)).2
noncomputable def Pv:=mk Nc Tryz.func181 (hc Ef (hc za hn))
def vR:=λl m hl hn hm hma=>Pv.cs (afZ ⟨Pb,Pf⟩ ⟨El,Em⟩ l m hl hn hm hma:)
def aah:=λl m hl hn hm hma=>(vR l m hl hn hm hma).1
def aai:=λl m hl hn hm hma=>(vR l m hl hn hm hma).2
noncomputable def Pw:=mk Ng Tryz.func182 (hc lQ hn)
def ze:=λa ha=>Pw.cs (afR ⟨pF,pG⟩ a ha:)
def aaj:=λa ha=>(ze a ha).1
def aak:=λa ha=>(ze a ha).2
noncomputable def ad8:=mk WE Tryz.func169 (hc Eh (hc Pv (hc Pw hn)))
def vS:=λa b ha hb=>ad8.cs (aki ⟨FQ,FR⟩ ⟨aah,aai⟩ ⟨aaj,aak⟩ a b ha hb:)
def alO:=λa b ha hb=>(vS a b ha hb).1
def alP:=λa b ha hb=>(vS a b ha hb).2
noncomputable def ad9:=mk WG Tryz.func170 (hc Eh (hc za (hc lQ (hc yR hn))))
def qy:=λa n ha=>ad9.cs (akl ⟨FQ,FR⟩ ⟨El,Em⟩ ⟨pF,pG⟩ ⟨Ed,Ee⟩ a n ha:)
def alQ:=λa n ha=>(qy a n ha).1
def alR:=λa n ha=>(qy a n ha).2
noncomputable def Px:=mk Nh Tryz.func183 hn
def ahO:=λa b ha hb sa sb=>(Px.cs (X4 a b ha hb sa sb:)).1
def ahP:=λa b ha hb sa sb=>(Px.cs (X4 a b ha hb sa sb:)).2
noncomputable def aea:=mk WH Tryz.func171 (hc Eh (hc za (hc Pv (hc Px (hc Pw hn)))))
def vU:=λa b ha hb=>aea.cs (akj ⟨FQ,FR⟩ ⟨El,Em⟩ ⟨aah,aai⟩ ahO ahP ⟨aaj,aak⟩ a b ha hb:)
def alS:=λa b ha hb=>(vU a b ha hb).1
def alT:=λa b ha hb=>(vU a b ha hb).2
noncomputable def aal:=mk Ni Tryz.func148 (hc aea (hc ad8 (hc ad9 hn)))
def vV:=λop x y hx hy=>aal.cs (afX ⟨alS,alT⟩ ⟨alO,alP⟩ ⟨alQ,alR⟩ op x y hx hy:)
def ahQ:=λop x y hx hy=>(vV op x y hx hy).1
def ahR:=λop x y hx hy=>(vV op x y hx hy).2
noncomputable def KD:=mk WI Tryz.func142 (hc za (hc yR hn))
def zf:=λop a b=>KD.cs (akg ⟨Ed,Ee⟩ ⟨El,Em⟩ op a b:)
def RO:=λop a b=>(zf op a b).1
def RQ:=λop a b=>(zf op a b).2
noncomputable def RS:=mk WJ Tryz.func152 (hc Eh hn)
def vW:=λa ha=>RS.cs (akh ⟨FQ,FR⟩ a ha:)
def aam:=λa ha=>(vW a ha).1
def aan:=λa ha=>(vW a ha).2
noncomputable def aao:=mk Nj Tryz.func172 (hc lQ hn)
def vX:=λop n y hy=>aao.cs (afV ⟨pF,pG⟩ op n y hy:)
def ahS:=λop n y hy=>(vX op n y hy).1
def ahT:=λop n y hy=>(vX op n y hy).2
set_option maxRecDepth 100000
set_option maxHeartbeats 4000000
noncomputable def aap:=mk Nk Tryz.func149 (hc Bh (hc lQ (hc KD (hc aag (hc RS (hc aao hn))))))
def vY:=λop x y hx hy=>aap.cs (afW ⟨Ei,Ej⟩ ⟨pF,pG⟩ ⟨RO,RQ⟩ ⟨ad6,ad7⟩ ⟨aam,aan⟩ ahS ahT op x y hx hy:)
def ahU:=λop x y hx hy=>(vY op x y hx hy).1
def ahV:=λop x y hx hy=>(vY op x y hx hy).2
noncomputable def aaq:=mk Nl Tryz.func119 (hc KC (hc Bh (hc aal (hc aap (hc Iq hn)))))
def Bj:=λop x y t hop hx hy ht hok=>aaq.cs (afY ⟨RL,RN⟩ ⟨Ei,Ej⟩ ahQ ahR ahU ahV ⟨Po,Pp⟩ op x y t hop hx hy ht hok:)
def ahW:=λop x y t hop hx hy ht hok=>(Bj op x y t hop hx hy ht hok).1
def ahX:=λop x y t hop hx hy ht hok=>(Bj op x y t hop hx hy ht hok).2
noncomputable def Py:=mk Nn Tryz.func150 hn
def ahY:=λl k hl=>(Py.cs (Yz l k hl:)).1
def ahZ:=λl k hl=>(Py.cs (Yz l k hl:)).2
noncomputable def aar:=mk Np Tryz.func120 (hc KC (hc Iq (hc Py hn)))
def sM:=λl k t hl ht hk=>aar.cs (agu ⟨RL,RN⟩ ⟨Po,Pp⟩ ahY ahZ l k t hl ht hk:)
def ah0:=λl k t hl ht hk=>(sM l k t hl ht hk).1
def ah1:=λl k t hl ht hk=>(sM l k t hl ht hk).2
noncomputable def Ir:=mk Nq Tryz.func122 (hc lQ hn)
def sN:=λa ha=>Ir.cs (agt ⟨pF,pG⟩ a ha:)
def Pz:=λa ha=>(sN a ha).1
def PD:=λa ha=>(sN a ha).2
noncomputable def aas:=mk Nr Tryz.func121 (hc lQ (hc Ir hn))
def sO:=λo x y r hx hy hr=>aas.cs (agv ⟨pF,pG⟩ ⟨Pz,PD⟩ o x y r hx hy hr:)
def ah2:=λo x y r hx hy hr=>(sO o x y r hx hy hr).1
def ah3:=λo x y r hx hy hr=>(sO o x y r hx hy hr).2
noncomputable def PE:=mk Nt Tryz.func124 hn
def ah4:=λb=>(PE.cs (YB b:)).1
def ah5:=λb=>(PE.cs (YB b:)).2
noncomputable def PG:=mk Nu Tryz.func125 hn
def ah6:=λb=>(PG.cs (YC b:)).1
def ah7:=λb=>(PG.cs (YC b:)).2
noncomputable def Iu:=mk Nv Tryz.func153 hn
def aat:=λs k=>(Iu.cs (YA s k:)).1
def aau:=λs k=>(Iu.cs (YA s k:)).2
noncomputable def aav:=mk Nw Tryz.func154 (hc RS (hc Bh (hc Iu hn)))
def Bl:=λs n hs hx hy hf=>aav.cs (agw ⟨aam,aan⟩ ⟨Ei,Ej⟩ ⟨aat,aau⟩ s n hs hx hy hf:)
def ah8:=λs n hs hx hy hf=>(Bl s n hs hx hy hf).1
def ah9:=λs n hs hx hy hf=>(Bl s n hs hx hy hf).2
noncomputable def aeb:=mk WK Tryz.func126 (hc RS (hc Eh (hc lQ (hc Iu (hc aav (hc Ir hn))))))
def vZ:=λs n hs=>aeb.cs (akH ⟨aam,aan⟩ ⟨FQ,FR⟩ ⟨pF,pG⟩ ⟨aat,aau⟩ ah8 ah9 ⟨Pz,PD⟩ s n hs:)
def alU:=λs n hs=>(vZ s n hs).1
def alV:=λs n hs=>(vZ s n hs).2
noncomputable def aec:=mk WL Tryz.func89 (hc sJ (hc KC (hc aag (hc aeb (hc Z4 (hc ad5 (hc lQ (hc aaf (hc aaq (hc Iq (hc aar (hc aas (hc Pq (hc Ir (hc PE (hc PG hn))))))))))))))))
def wo:=λt b ht hb=>aec.cs (akI ⟨vJ,vK⟩ ⟨RL,RN⟩ ⟨ad6,ad7⟩ ⟨alU,alV⟩ ⟨ad3,ad4⟩ ⟨alM,alN⟩ ⟨pF,pG⟩ ⟨ahK,ahL⟩ ahW ahX ⟨Po,Pp⟩ ah0 ah1 ah2 ah3 ahM ahN ⟨Pz,PD⟩ ah4 ah5 ah6 ah7 t b ht hb:)
def alW:=λt b ht hb=>(wo t b ht hb).1
def alX:=λt b ht hb=>(wo t b ht hb).2
noncomputable def PI:=mk Ny Tryz.func127 (hc Bh hn)
def sP:=λa b ha=>PI.cs (agy ⟨Ei,Ej⟩ a b ha:)
def aaw:=λa b ha=>(sP a b ha).1
def aax:=λa b ha=>(sP a b ha).2
noncomputable def aay:=mk Nz Tryz.func129 (hc Bh (hc PI hn))
def sQ:=λa b ha=>aay.cs (agz ⟨Ei,Ej⟩ ⟨aaw,aax⟩ a b ha:)
def aia:=λa b ha=>(sQ a b ha).1
def aib:=λa b ha=>(sQ a b ha).2
noncomputable def aed:=mk WM Tryz.func90 (hc Bh (hc aay (hc PI hn)))
def sS:=λa b ha=>aed.cs (akM ⟨Ei,Ej⟩ ⟨aia,aib⟩ ⟨aaw,aax⟩ a b ha:)
def alY:=λa b ha=>(sS a b ha).1
def alZ:=λa b ha=>(sS a b ha).2
noncomputable def RU:=mk WO Tryz.func61 (hc sJ (hc RH (hc Z4 (hc aec (hc aed hn)))))
def sU:=λb c hb hc=>RU.cs (akN ⟨vJ,vK⟩ ⟨ad1,ad2⟩ ⟨ad3,ad4⟩ ⟨alW,alX⟩ ⟨alY,alZ⟩ b c hb hc:)
def aaz:=λb c hb hc=>(sU b c hb hc).1
def aaA:=λb c hb hc=>(sU b c hb hc).2
noncomputable def RV:=mk WQ Tryz.func110 (hc Ky (hc yR hn))
def sV:=λw=>RV.cs (ak1 ⟨Ry,Rz⟩ ⟨Ed,Ee⟩ w:)
def aaB:=λw=>(sV w).1
def aaC:=λw=>(sV w).2
noncomputable def aee:=mk WR Tryz.func85 (hc RV hn)
def sW:=λw h=>aee.cs (alg ⟨aaB,aaC⟩ w h:)
def al0:=λw h=>(sW w h).1
def al1:=λw h=>(sW w h).2
noncomputable def aef:=mk WS Tryz.func60 (hc KA (hc ZM (hc aee (hc RU hn))))
def qz:=λe hw ho=>aef.cs (ali ⟨RF,RG⟩ ⟨adY,adZ⟩ al0 al1 ⟨aaz,aaA⟩ e hw ho:)
def al2:=λe hw ho=>(qz e hw ho).1
def al3:=λe hw ho=>(qz e hw ho).2
noncomputable def aeg:=mk WT Tryz.func43 (hc aef (hc RD hn))
def zh:=λl mem h hm=>aeg.cs (alj al2 al3 ⟨adU,adV⟩ l mem h hm:)
def al4:=λl mem h hm=>(zh l mem h hm).1
def al5:=λl mem h hm=>(zh l mem h hm).2
noncomputable def aeh:=mk WU Tryz.func44 (hc RU hn)
def zi:=λl h=>aeh.cs (akO ⟨aaz,aaA⟩ l h:)
def al6:=λl h=>(zi l h).1
def al7:=λl h=>(zi l h).2
noncomputable def aei:=mk WW Tryz.func20 (hc aeg (hc aeh (hc FP hn)))
def zk:=λe h1 h2 h3=>aei.cs (alk al4 al5 ⟨al6,al7⟩ ⟨Kv,Kw⟩ e h1 h2 h3:)
def al8:=λe h1 h2 h3=>(zk e h1 h2 h3).1
def al9:=λe h1 h2 h3=>(zk e h1 h2 h3).2
noncomputable def aaD:=mk WX Tryz.func130 (hc sF hn)
def sZ:=λq h1 h2=>aaD.cs (akP ⟨Ao,Aq⟩ q h1 h2:)
def aej:=λq h1 h2=>(sZ q h1 h2).1
def aek:=λq h1 h2=>(sZ q h1 h2).2
noncomputable def ael:=mk WY Tryz.func94 (hc RA (hc aaD (hc Am hn)))
def tq:=λe h1 h2 h3=>ael.cs (alo ⟨ZJ,ZK⟩ ⟨aej,aek⟩ ⟨Ij,Ik⟩ e h1 h2 h3:)
def ama:=λe h1 h2 h3=>(tq e h1 h2 h3).1
def amb:=λe h1 h2 h3=>(tq e h1 h2 h3).2
noncomputable def En:=mk NA Tryz.func95 hn
def Iw:=λl n h=>(En.cs (YU l n h:)).1
def Iy:=λl n h=>(En.cs (YU l n h:)).2
noncomputable def PK:=mk NC Tryz.func156 hn
def aic:=λm b=>(PK.cs (YT m b:)).1
def aie:=λm b=>(PK.cs (YT m b:)).2
noncomputable def Eo:=mk ND Tryz.func157 hn
def PL:=λm h=>(Eo.cs (YQ m h:)).1
def PN:=λm h=>(Eo.cs (YQ m h:)).2
noncomputable def Au:=mk NG Tryz.func178 (hc za hn)
def wu:=λm n h=>Au.cs (agF ⟨El,Em⟩ m n h:)
def Av:=λm n h=>(wu m n h).1
def Aw:=λm n h=>(wu m n h).2
noncomputable def aaE:=mk NH Tryz.func174 (hc Eo (hc Au hn))
def wz:=λm i h ho=>aaE.cs (agL ⟨PL,PN⟩ ⟨Av,Aw⟩ m i h ho:)
def aif:=λm i h ho=>(wz m i h ho).1
def aii:=λm i h ho=>(wz m i h ho).2
noncomputable def Ep:=mk NI Tryz.func175 (hc Au hn)
def PO:=λm d v h d0 d1=>(Ep.cs (YS ⟨Av,Aw⟩ m d v h d0 d1:)).1
def PU:=λm d v h d0 d1=>(Ep.cs (YS ⟨Av,Aw⟩ m d v h d0 d1:)).2
noncomputable def aaF:=mk NJ Tryz.func176 (hc za hn)
def tu:=λv k h k0 k1=>aaF.cs (agG ⟨El,Em⟩ v k h k0 k1:)
def aij:=λv k h k0 k1=>(tu v k h k0 k1).1
def aik:=λv k h k0 k1=>(tu v k h k0 k1).2
noncomputable def aaG:=mk NK Tryz.func177 (hc za (hc Eo (hc Au (hc Ep hn))))
def tC:=λm i h hi ho=>aaG.cs (agJ ⟨El,Em⟩ ⟨PL,PN⟩ ⟨Av,Aw⟩ ⟨PO,PU⟩ m i h hi ho:)
def ail:=λm i h hi ho=>(tC m i h hi ho).1
def ain:=λm i h hi ho=>(tC m i h hi ho).2
set_option maxRecDepth 100000
set_option maxHeartbeats 4000000
noncomputable def aaH:=mk NP Tryz.func179 (hc Au (hc Ep hn))
def wB:=λm i h hi hq hn ho=>aaH.cs (agK ⟨Av,Aw⟩ ⟨PO,PU⟩ m i h hi hq hn ho:)
def aio:=λm i h hi hq hn ho=>(wB m i h hi hq hn ho).1
def aip:=λm i h hi hq hn ho=>(wB m i h hi hq hn ho).2
noncomputable def aaI:=mk NQ Tryz.func158 (hc KD (hc Au (hc aaH (hc aaG (hc Ep (hc aaF (hc aaE hn)))))))
def Bn:=λm i h hi hn ho=>aaI.cs (agM ⟨RO,RQ⟩ ⟨Av,Aw⟩ aio aip ail ain ⟨PO,PU⟩ aij aik aif aii m i h hi hn ho:)
def aiq:=λm i h hi hn ho=>(Bn m i h hi hn ho).1
def air:=λm i h hi hn ho=>(Bn m i h hi hn ho).2
noncomputable def aem:=mk WZ Tryz.func131 (hc RV (hc FP (hc Am (hc aaI (hc Eo (hc PK hn))))))
def tF:=λm b h ho=>aem.cs (ak6 ⟨aaB,aaC⟩ ⟨Kv,Kw⟩ ⟨Ij,Ik⟩ aiq air ⟨PL,PN⟩ aic aie m b h ho:)
def amc:=λm b h ho=>(tF m b h ho).1
def amd:=λm b h ho=>(tF m b h ho).2
noncomputable def aaJ:=mk NR Tryz.func96 (hc ZL (hc aem (hc En hn)))
def qA:=λe q h1 ho h2 hq=>aaJ.cs (agZ ⟨adW,adX⟩ ⟨amc,amd⟩ ⟨Iw,Iy⟩ e q h1 ho h2 hq:)
def ais:=λe q h1 ho h2 hq=>(qA e q h1 ho h2 hq).1
def ait:=λe q h1 ho h2 hq=>(qA e q h1 ho h2 hq).2
noncomputable def RX:=mk Xa Tryz.func9 hn
def aen:=λl pc h=>(RX.cs (adK l pc h:)).1
def aeo:=λl pc h=>(RX.cs (adK l pc h:)).2
noncomputable def aep:=mk Xb Tryz.func14 (hc RA hn)
def wC:=λl e h h1 h2=>aep.cs (alh ⟨ZJ,ZK⟩ l e h h1 h2:)
def ame:=λl e h h1 h2=>(wC l e h h1 h2).1
def amf:=λl e h h1 h2=>(wC l e h h1 h2).2
noncomputable def aaK:=mk Xc Tryz.func100 (hc Kz (hc RV (hc FP hn)))
def tH:=λm h=>aaK.cs (alu ⟨Zz,ZA⟩ ⟨aaB,aaC⟩ ⟨Kv,Kw⟩ m h:)
def aer:=λm h=>(tH m h).1
def aes:=λm h=>(tH m h).2
noncomputable def RY:=mk Xd Tryz.func109 (hc jE hn)
def aeu:=λo al hk hx hy=>(RY.cs (adG ⟨jW,jX⟩ o al hk hx hy:)).1
def aev:=λo al hk hx hy=>(RY.cs (adG ⟨jW,jX⟩ o al hk hx hy:)).2
noncomputable def aaL:=mk Xe Tryz.func84 (hc sJ (hc RY (hc sF hn)))
def tJ:=λb hb=>aaL.cs (akB ⟨vJ,vK⟩ ⟨aeu,aev⟩ ⟨Ao,Aq⟩ b hb:)
def aew:=λb hb=>(tJ b hb).1
def aex:=λb hb=>(tJ b hb).2
noncomputable def aaM:=mk Xf Tryz.func138 (hc RY hn)
def tK:=λb kp ok hk=>aaM.cs (aky ⟨aeu,aev⟩ b kp ok hk:)
def aey:=λb kp ok hk=>(tK b kp ok hk).1
def aez:=λb kp ok hk=>(tK b kp ok hk).2
noncomputable def aeA:=mk Xg Tryz.func139 (hc sJ (hc jE hn))
def tL:=λb hb=>aeA.cs (akx ⟨vJ,vK⟩ ⟨jW,jX⟩ b hb:)
def amg:=λb hb=>(tL b hb).1
def amh:=λb hb=>(tL b hb).2
noncomputable def aeB:=mk Xh Tryz.func106 (hc sJ (hc aeA (hc aaM hn)))
def tN:=λb hb=>aeB.cs (akz ⟨vJ,vK⟩ ⟨amg,amh⟩ ⟨aey,aez⟩ b hb:)
def ami:=λb hb=>(tN b hb).1
def amj:=λb hb=>(tN b hb).2
noncomputable def aaN:=mk Xi Tryz.func140 hn
def amk:=λops k h0 h1 h2=>(aaN.cs (adH ops k h0 h1 h2:)).1
def aml:=λops k h0 h1 h2=>(aaN.cs (adH ops k h0 h1 h2:)).2
noncomputable def aeC:=mk Xj Tryz.func107 (hc sJ (hc aaM (hc aaN hn)))
def tO:=λb hb=>aeC.cs (akA ⟨vJ,vK⟩ ⟨aey,aez⟩ amk aml b hb:)
def amm:=λb hb=>(tO b hb).1
def amn:=λb hb=>(tO b hb).2
noncomputable def RZ:=mk Xk Tryz.func141 hn
def aeD:=λops k=>(RZ.cs (adE ops k:)).1
def aeE:=λops k=>(RZ.cs (adE ops k:)).2
noncomputable def aaO:=mk Xl Tryz.func165 hn
def amo:=λb k=>(aaO.cs (adF b k:)).1
def amq:=λb k=>(aaO.cs (adF b k:)).2
noncomputable def aeF:=mk Xm Tryz.func143 (hc aaO (hc RZ hn))
def tQ:=λb h=>aeF.cs (aku amo amq ⟨aeD,aeE⟩ b h:)
def amr:=λb h=>(tQ b h).1
def ams:=λb h=>(tQ b h).2
noncomputable def aeG:=mk Xo Tryz.func108 (hc sJ (hc KD (hc aeF (hc RZ (hc sF hn)))))
def qB:=λb hb=>aeG.cs (akw ⟨vJ,vK⟩ ⟨RO,RQ⟩ amr ams ⟨aeD,aeE⟩ ⟨Ao,Aq⟩ b hb:)
def amt:=λb hb=>(qB b hb).1
def amu:=λb hb=>(qB b hb).2
noncomputable def R3:=mk Xp Tryz.func83 (hc aeG (hc aaL (hc aeB (hc aeC hn))))
def wD:=λb hb=>R3.cs (akv ⟨amt,amu⟩ ⟨aew,aex⟩ ⟨ami,amj⟩ ⟨amm,amn⟩ b hb:)
def aaP:=λb hb=>(wD b hb).1
def aaQ:=λb hb=>(wD b hb).2
noncomputable def aaR:=mk Xq Tryz.func184 hn
def amv:=λb k hb h0 h1 hl=>(aaR.cs (adM b k hb h0 h1 hl:)).1
def amw:=λb k hb h0 h1 hl=>(aaR.cs (adM b k hb h0 h1 hl:)).2
noncomputable def aeH:=mk Xr Tryz.func180 (hc sJ (hc aaR hn))
def wE:=λl hl hlen=>aeH.cs (alv ⟨vJ,vK⟩ amv amw l hl hlen:)
def amx:=λl hl hlen=>(wE l hl hlen).1
def amy:=λl hl hlen=>(wE l hl hlen).2
noncomputable def aeI:=mk Xt Tryz.func159 (hc aeH (hc R3 hn))
def tT:=λb a h ha hl=>aeI.cs (alx ⟨amx,amy⟩ ⟨aaP,aaQ⟩ b a h ha hl:)
def amA:=λb a h ha hl=>(tT b a h ha hl).1
def amB:=λb a h ha hl=>(tT b a h ha hl).2
noncomputable def aeJ:=mk Xu Tryz.func160 (hc RH hn)
def wF:=λl b c h=>aeJ.cs (akE ⟨ad1,ad2⟩ l b c h:)
def amC:=λl b c h=>(wF l b c h).1
def amD:=λl b c h=>(wF l b c h).2
noncomputable def aeK:=mk Xv Tryz.func161 (hc aaD hn)
def wG:=λl q h h1 h2=>aeK.cs (akR ⟨aej,aek⟩ l q h h1 h2:)
def amE:=λl q h h1 h2=>(wG l q h h1 h2).1
def amF:=λl q h h1 h2=>(wG l q h h1 h2).2
noncomputable def aeL:=mk Xw Tryz.func132 (hc aeJ (hc aeK (hc RU (hc aeI hn))))
def qC:=λe b a h hb ha hl=>aeL.cs (aly ⟨amC,amD⟩ ⟨amE,amF⟩ ⟨aaz,aaA⟩ amA amB e b a h hb ha hl:)
def amG:=λe b a h hb ha hl=>(qC e b a h hb ha hl).1
def amH:=λe b a h hb ha hl=>(qC e b a h hb ha hl).2
noncomputable def aeM:=mk Xx Tryz.func97 (hc aaK (hc KA (hc Zu (hc RX (hc aep (hc aeL hn))))))
def tV:=λe a h1 h2 h3 ha hl=>aeM.cs (alA ⟨aer,aes⟩ ⟨RF,RG⟩ ⟨adS,adT⟩ ⟨aen,aeo⟩ ⟨ame,amf⟩ amG amH e a h1 h2 h3 ha hl:)
def amI:=λe a h1 h2 h3 ha hl=>(tV e a h1 h2 h3 ha hl).1
def amJ:=λe a h1 h2 h3 ha hl=>(tV e a h1 h2 h3 ha hl).2
noncomputable def PW:=mk NS Tryz.func98 (hc En hn)
def aiu:=λm q left size hq h1 h2=>(PW.cs (Zh ⟨Iw,Iy⟩ m q left size hq h1 h2:)).1
def aiv:=λm q left size hq h1 h2=>(PW.cs (Zh ⟨Iw,Iy⟩ m q left size hq h1 h2:)).2
noncomputable def PX:=mk NT Tryz.func162 hn
def aiw:=λm b n h h1 h2 h3=>(PX.cs (Ze m b n h h1 h2 h3:)).1
def aix:=λm b n h h1 h2 h3=>(PX.cs (Ze m b n h h1 h2 h3:)).2
noncomputable def PZ:=mk NU Tryz.func163 hn
def aiy:=λb a n h2 h3 h4=>(PZ.cs (Zf b a n h2 h3 h4:)).1
def aiz:=λb a n h2 h3 h4=>(PZ.cs (Zf b a n h2 h3 h4:)).2
noncomputable def aaS:=mk NV Tryz.func133 (hc PX (hc PZ hn))
def tX:=λm b o x y hm x0 hi ho h1 h2 h3 h4=>aaS.cs (ag3 aiw aix aiy aiz m b o x y hm x0 hi ho h1 h2 h3 h4:)
def aiA:=λm b o x y hm x0 hi ho h1 h2 h3 h4=>(tX m b o x y hm x0 hi ho h1 h2 h3 h4).1
def aiB:=λm b o x y hm x0 hi ho h1 h2 h3 h4=>(tX m b o x y hm x0 hi ho h1 h2 h3 h4).2
noncomputable def P9:=mk NW Tryz.func134 hn
def aiC:=λl k=>(P9.cs (Zc l k:)).1
def aiD:=λl k=>(P9.cs (Zc l k:)).2
noncomputable def aaT:=mk NY Tryz.func135 (hc KD hn)
def wH:=λm o x y h=>aaT.cs (ag1 ⟨RO,RQ⟩ m o x y h:)
def aiE:=λm o x y h=>(wH m o x y h).1
def aiF:=λm o x y h=>(wH m o x y h).2
set_option maxRecDepth 100000
set_option maxHeartbeats 4000000
noncomputable def Qa:=mk NZ Tryz.func136 hn
def aiG:=λb v h3 h4 hx hy=>(Qa.cs (Zg b v h3 h4 hx hy:)).1
def aiH:=λb v h3 h4 hx hy=>(Qa.cs (Zg b v h3 h4 hx hy:)).2
noncomputable def aeN:=mk Xy Tryz.func99 (hc sJ (hc FP (hc Am (hc P9 (hc aaS (hc Qa (hc aaT hn)))))))
def zm:=λb m hs hb ho=>aeN.cs (alD ⟨vJ,vK⟩ ⟨Kv,Kw⟩ ⟨Ij,Ik⟩ ⟨aiC,aiD⟩ aiA aiB aiG aiH aiE aiF b m hs hb ho:)
def amK:=λb m hs hb ho=>(zm b m hs hb ho).1
def amL:=λb m hs hb ho=>(zm b m hs hb ho).2
noncomputable def aeO:=mk Xz Tryz.func67 (hc ZL (hc aei (hc aeN (hc ael (hc aeM (hc aaJ (hc PW (hc En hn))))))))
def tY:=λe q left a h1 ho h2 h3 hq ha hl=>aeO.cs (alE ⟨adW,adX⟩ ⟨al8,al9⟩ amK amL ama amb amI amJ ais ait aiu aiv ⟨Iw,Iy⟩ e q left a h1 ho h2 h3 hq ha hl:)
def amM:=λe q left a h1 ho h2 h3 hq ha hl=>(tY e q left a h1 ho h2 h3 hq ha hl).1
def amN:=λe q left a h1 ho h2 h3 hq ha hl=>(tY e q left a h1 ho h2 h3 hq ha hl).2
noncomputable def aaU:=mk G5 Tryz.func55 (hc gV (hc sF hn))
def tZ:=λc b p hc hb h1 h2=>aaU.cs (agq ⟨iL,iM⟩ ⟨Ao,Aq⟩ c b p hc hb h1 h2:)
def aiI:=λc b p hc hb h1 h2=>(tZ c b p hc hb h1 h2).1
def aiJ:=λc b p hc hb h1 h2=>(tZ c b p hc hb h1 h2).2
noncomputable def aaV:=mk N7 Tryz.func28 (hc Il (hc gV hn))
def uf:=λb p hb h1 h2=>aaV.cs (agk ⟨O5,O6⟩ ⟨iL,iM⟩ b p hb h1 h2:)
def aiK:=λb p hb h1 h2=>(uf b p hb h1 h2).1
def aiL:=λb p hb h1 h2=>(uf b p hb h1 h2).2
noncomputable def aaW:=mk N8 Tryz.func56 (hc KA (hc R3 (hc aaL (hc gV (hc aaV hn)))))
def qD:=λb p hb h1 h2=>aaW.cs (agn (λpc l h _=>RF pc l h) (λpc l h _=>Ii (RG pc l h)) ⟨aaP,aaQ⟩ ⟨aew,aex⟩ ⟨iL,iM⟩ ⟨aiK,aiL⟩ b p hb h1 h2:)
def aiM:=λb p hb h1 h2=>(qD b p hb h1 h2).1
def aiN:=λb p hb h1 h2=>(qD b p hb h1 h2).2
noncomputable def aaX:=mk XA Tryz.func137 hn
def amO:=λn b h0 h1 hb=>(aaX.cs (adN n b h0 h1 hb:)).1
def amP:=λn b h0 h1 hb=>(aaX.cs (adN n b h0 h1 hb:)).2
noncomputable def aeP:=mk XB Tryz.func101 (hc sJ (hc aaX hn))
def ug:=λb hb=>aeP.cs (alB ⟨vJ,vK⟩ amO amP b hb:)
def amQ:=λb hb=>(ug b hb).1
def amR:=λb hb=>(ug b hb).2
noncomputable def aaY:=mk N9 Tryz.func102 (hc gV (hc sF hn))
def oF:=λc b p ok hc hb h1 h2=>aaY.cs (agp ⟨iL,iM⟩ ⟨Ao,Aq⟩ c b p ok hc hb h1 h2:)
def aiO:=λc b p ok hc hb h1 h2=>(oF c b p ok hc hb h1 h2).1
def aiP:=λc b p ok hc hb h1 h2=>(oF c b p ok hc hb h1 h2).2
noncomputable def aaZ:=mk Oa Tryz.func103 (hc gV hn)
def uh:=λl b p hl h hb h1 h2=>aaZ.cs (ag5 ⟨iL,iM⟩ l b p hl h hb h1 h2:)
def aiQ:=λl b p hl h hb h1 h2=>(uh l b p hl h hb h1 h2).1
def aiR:=λl b p hl h hb h1 h2=>(uh l b p hl h hb h1 h2).2
noncomputable def aa0:=mk G6 Tryz.func68 (hc aaK (hc KA (hc aeP (hc R3 (hc gV (hc aaU (hc aaW (hc aaY (hc aaZ hn)))))))))
def wI:=λm b p h hb h1 h2=>aa0.cs (ag6 ⟨aer,aes⟩ ⟨RF,RG⟩ ⟨amQ,amR⟩ ⟨aaP,aaQ⟩ ⟨iL,iM⟩ ⟨aiI,aiJ⟩ ⟨aiM,aiN⟩ ⟨aiO,aiP⟩ aiQ aiR m b p h hb h1 h2:)
def aiS:=λm b p h hb h1 h2=>(wI m b p h hb h1 h2).1
def aiT:=λm b p h hb h1 h2=>(wI m b p h hb h1 h2).2
noncomputable def aa1:=mk Ob Tryz.func45 (hc adO (hc aeO (hc adP (hc ZG (hc ZI (hc gV (hc ZH (hc aa0 hn))))))))
def wJ:=λb p hb h1 h2=>aa1.cs (ag8 alG alH amM amN ⟨alI,alJ⟩ ⟨ahm,ahn⟩ ⟨ahq,ahr⟩ ⟨iL,iM⟩ ⟨aho,ahp⟩ aiS aiT b p hb h1 h2:)
def aiU:=λb p hb h1 h2=>(wJ b p hb h1 h2).1
def aiV:=λb p hb h1 h2=>(wJ b p hb h1 h2).2
noncomputable def aa2:=mk Oc Tryz.func22 (hc aa1 hn)
def uj:=λb p hb h1 h2=>aa2.cs (ag9 ⟨aiU,aiV⟩ b p hb h1 h2:)
def aiW:=λb p hb h1 h2=>(uj b p hb h1 h2).1
def aiX:=λb p hb h1 h2=>(uj b p hb h1 h2).2
noncomputable def aeQ:=mk XC Tryz.func7 (hc OU (hc gV (hc aa2 hn)))
def lS:=λc hc hl=>aeQ.cs (alF ⟨ahb,ahc⟩ ⟨iL,iM⟩ ⟨aiW,aiX⟩ c hc hl:)
def amS:=λc hc hl=>(lS c hc hl).1
def amT:=λc hc hl=>(lS c hc hl).2
noncomputable def aiY:=mk afy Tryz.func25 hn
def aot:=λe pc=>(aiY.cs (alp e pc:)).1
def aou:=λe pc=>(aiY.cs (alp e pc:)).2
noncomputable def aa3:=mk XD Tryz.func46 hn
def amU:=λa b c=>(aa3.cs (ads a b c:)).1
def amV:=λa b c=>(aa3.cs (ads a b c:)).2
noncomputable def aeR:=mk XE Tryz.func24 (hc aiY hn)
def bY:=λl pc h=>aeR.cs (alq aot aou l pc h:)
def amW:=λl pc h=>(bY l pc h).1
def amX:=λl pc h=>(bY l pc h).2
noncomputable def amY:=mk afz Tryz.func8 (hc aeR hn)
def um:=λl pc h=>amY.cs (aog amW amX l pc h:)
def aov:=λl pc h=>(um l pc h).1
def aow:=λl pc h=>(um l pc h).2
noncomputable def amZ:=mk afA Tryz.func26 (hc aa3 hn)
def zn:=λa=>amZ.cs (anP ⟨amU,amV⟩ a:)
def aox:=λa=>(zn a).1
def aoy:=λa=>(zn a).2
noncomputable def aeS:=mk XF Tryz.func10 (hc amZ hn)
def Bo:=aeS.cs (aj9 ⟨aox,aoy⟩:)
def am0:=(Bo).1
def am1:=(Bo).2
noncomputable def aeT:=mk XG Tryz.func3 (hc amY (hc aeS (hc RX (hc aeQ hn))))
def oG:=λc hc=>aeT.cs (alr ⟨aov,aow⟩ ⟨am0,am1⟩ ⟨aen,aeo⟩ amS amT c hc:)
def am2:=λc hc=>(oG c hc).1
def am3:=λc hc=>(oG c hc).2
set_option maxRecDepth 100000
set_option maxHeartbeats 4000000
end Go.TX.F
namespace Go.Proofs.YtpkmgiojecpceaaGreat
open Go.ChangeShapes Go.WideShapes Go.ChangeAt Go.RowKit
def aoz:ownKnob Tryz.prog.godebug=Option.none:=by kernel_rfl
def am4:laidOutB Tryz.prog=true:=by kernel_rfl
def aiZ:Tryz.prog.cellsOf 5=1:=by kernel_rfl
set_option maxRecDepth 100000 in
def lifted(os:Os)(started:os.Started)(H:Type)(enc:TypeId×Value->H):
  ReturnsInHanded {} Tryz.checked os 3 .any (Rows.fnCacFindSpec.pre6 enc Tryz.prog Tryz.f3 Rows.fnCacFindRow.domain false) (Rows.fnCacFindSpec.post enc Tryz.prog Tryz.f3 false true false false):=by
 refine returnsInHanded_of_change (C:=Tryz.checked) aoz started (by kernel_rfl) Tryz.func3
  (ChangeSpec.witness6 (enc:=enc) (C:=Tryz.checked) false ⟨#[], #[.slice none 0 0],[]⟩ 8 (by kernel_rfl) (by kernel_rfl) (by kernel_rfl) (by kernel_rfl)) ?_
 intro W base args ds gs before hval0 hW _ _;have hval:∀(j:Nat) t v,Tryz.f3.params[j]? =some t->args[j]? =some v->Value.okWide Tryz.prog W .any base t v:=hval0;have hW':=hW;obtain⟨p,q,hA0,hV,rfl,_,_⟩:=hW;have hA:DataW.TrodAll enc Tryz.prog W 0 (λ_=>true) true Tryz.f3.params.toList args.toList ds p:=hA0;rw [Tryz.params3]at hA hval;obtain⟨v0,d0,rfl,rfl,h0⟩:=trodAll_one hA;obtain⟨rfl,rfl⟩:=trodVars_none hV
 clear hA0 hval0
 simp only [List.append_nil]at hW';have hlt:∀x∈p,x.block<W.heap.size:=λx hx=>by simpa using hW'.lt x hx
 obtain⟨xs,hr,hb⟩:=Go.TX.Zo Tryz.underlying22 Tryz.underlying5 aiZ (hval 0 22 v0 rfl rfl) h0 hlt;have hp:=Go.TX.F.am2 xs hb;have hq:=Go.TX.F.am3 xs hb;refine(Go.TX.aoq Go.TX.F.aeT.ok hr (λg d h=>by cases h) hp).mono λe W' ⟨he,hw⟩=> ?_
 have he:e= .returned (.bool true):=he.trans (congrArg (λz:Bool×Unit=>Ending.returned (.bool z.1)) hq);refine⟨_,he,[d0],[],p,[],p,[],hW',trodAll_mk1 (shut_bool Tryz.underlying4 true),?_,rfl,hw.frame _,λh=>by cases h⟩;exact trodAll_mk1 (Below.trod am4 (by kernel_rfl) (of_decide_eq_true (by kernel_rfl)) h0 hw hlt)
def y1:Tryz.pinned.checked.prog.funcNamed Rows.fnCacFindRow.func=some 3:=by kernel_rfl
def aS{a b:Bool}(h:a=true)(k:b=true):(a&&b)=true:=by rw [h,k];rfl
set_option maxHeartbeats 4000000 in
def y2:joinedFacts Tryz.pinned.checked.prog 3 Tryz.f3 Rows.fnCacFindSpec Rows.fnCacFindRow=true:=by
 unfold joinedFacts
 repeat' with_reducible apply aS
 all_goals (as_aux_lemma=>kernel_rfl)
def y3:Func.isWrapper Tryz.prog Tryz.f3 Rows.fnCacFindRow.wrapper Rows.fnCacFindRow.mainSum:=(by unfold Func.isWrapper;first | (rw [if_pos (by decide+kernel)];kernel_rfl) | (rw [if_neg (by decide+kernel)];exact⟨rfl,rfl⟩))
theorem x_holds:Rows.FnCacFindSaid:=
 OpenClaim.holds_of_wide 3 Tryz.f3 rfl rfl rfl rfl rfl rfl rfl ⟨rfl,rfl,rfl,rfl,rfl⟩ rfl rfl rfl rfl rfl y1 Tryz.func3 y2
  (of_decide_eq_true (by kernel_rfl)) y3
  (λos started H enc _=>lifted os started H enc)
end Go.Proofs.YtpkmgiojecpceaaGreat
