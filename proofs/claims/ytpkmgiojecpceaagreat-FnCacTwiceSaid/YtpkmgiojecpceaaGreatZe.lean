/- For every input the law returns true, and the input reads as it did. No condition. -/
import Derived.Test.YtpkmgiojecpceaaGreatZd
import Derived.ChangeSlices
import Derived.ChangeSame
import Derived.JoinedOf
import Derived.JoinedAt
import Derived.Handed
import Derived.Below
import Derived.Carry
import Derived.OpenShut
import Derived.ChangeKeysEq
import Derived.Test.YtpkmgiojecpceaaGreatRows
set_option maxHeartbeats 1000000
set_option linter.all false
set_option linter.unusedSectionVars false
set_option linter.unusedVariables false
set_option linter.unusedSimpArgs false
namespace Go.TX.F
open Go Go.AE Go.TX
def CAB:(∀e:Cac,iE .cac 0 .i64 e=e.words)/\(∀e:Cac,dB .cac 1 e=e.blk.pc)/\(∀e:Cac,dB .cac 2 e=e.blk.len)/\(∀e:Cac,iE .cac 3 .iop e=e.blk.ops)/\(∀e:Cac,dB .cac 4 e=e.blk.fin)/\(∀e:Cac,dB .cac 5 e=e.blk.x)/\(∀e:Cac,dB .cac 6 e=e.blk.y)/\(∀e:Cac,dB .cac 7 e=e.blk.k):=
 ⟨λ_=>rfl,λ_=>rfl,λ_=>rfl,λ_=>rfl,λ_=>rfl,λ_=>rfl,λ_=>rfl,λ_=>rfl⟩
def CAM:(∀e:Cac,Co.mk .cac (e.words,e.blk.pc,e.blk.len,e.blk.ops,e.blk.fin,e.blk.x,e.blk.y,e.blk.k,())=e)/\(∀x:Cac,([x].length:Int)=1):=⟨λ_=>rfl,λ_=>rfl⟩
def ShK(l:List Cac):Prop:=l.length<1000/\∀x∈l,x.words.length<1000/\x.blk.ops.length<1000000/\x.blk.pc<=1000000
def ShK.at{l:List Cac}(h:ShK l)(i:Nat):(l.getD i default).words.length<1000/\(l.getD i default).blk.ops.length<1000000/\(l.getD i default).blk.pc<=1000000:=by
 by_cases c:i<l.length
 .rw [getD_lt c];exact h.2 _ (List.getElem_mem _)
 .rw [List.getD_eq_getElem?_getD,List.getElem?_eq_none ah];exact⟨by decide,by decide,by decide⟩
def ShK.sub{l r:List Cac}(h:ShK l)(n:r.length<1000)(s:∀x∈r,x∈l):ShK r:=⟨n,λx hx=>h.2 x (s x hx)⟩
def FC(l:List Cac)(pc k:Int):Prop:=(k= -1/\∀j:Int,0<=j->j<l.length->(((l).getD (j).toNat default)).blk.pc≠pc)\/(0<=k/\k<l.length/\(((l).getD (k).toNat default)).blk.pc=pc/\∀j:Int,0<=j->j<k->(((l).getD (j).toNat default)).blk.pc≠pc)
def FC.one{l:List Cac}{pc k m:Int}(h:FC l pc k)(g:FC l pc m):k=m:=by
 rcases h with⟨a,b⟩ | ⟨a,b,c,d⟩<;>rcases g with⟨a',b'⟩ | ⟨a',b',c',d'⟩
 .omega
 .exact absurd c' (b _ a' b')
 .exact absurd c (b' _ a b)
 .rcases Int.lt_trichotomy k m with h | h | h
  .exact absurd c (d' _ a h)
  .exact h
  .exact absurd c' (d _ a' h)
def afq(l:List Cac)(pc:Int)(h:l.length<1000000000):Yh.F () (l,pc,()) (λy=>FC l pc y.1):=by
 dsimp only [Yh,gm];refine aB (λ(y:List Cac×Int×Int×Unit)=>y.1=l/\y.2.1=pc/\0<=y.2.2.1/\y.2.2.1<=l.length/\∀j:Int,0<=j->j<y.2.2.1->(((l).getD (j).toNat default)).blk.pc≠pc) (λy=>(l.length-y.2.2.1).toNat) ⟨rfl,rfl,by simp,by simp,λj h0 h1=>absurd h1 (by simp;omega)⟩ ?_;rintro⟨(l:List Cac),(pc:Int),(i:Int),⟨⟩⟩ hI;dsimp only at hI ⊢;obtain⟨rfl,rfl,h1,h2,h3⟩:=hI;simp (disch:=omega) only [RR,CAB];refine⟨λg=>⟨h1,g,λe=>Or.inr ⟨h1,g,e,h3⟩,λe=>⟨⟨ah,ah,λj j0 j1=> ?_⟩,ah⟩⟩,λg=>Or.inl ⟨rfl,λj j0 j1=>h3 j j0 ah⟩⟩;by_cases c:j<i
 .exact h3 j j0 c
 .rw [show j=i by omega];exact e
def There(w mem:List Int)(pc:Int):Prop:=∀k:Int,0<=k->k<w.length->pc+k<mem.length/\((mem).getD (pc+k).toNat default)=((w).getD (k).toNat default)
def afr(w mem:List Int)(pc:Int)(hw:w.length<1000)(hm:mem.length<1000000000)(p0:0<=pc)(p1:pc<=1000000):XE.F () (w,mem,pc,()) (λy=>y=(bp (There w mem pc),())):=by
 dsimp only [XE,gm];refine aB (λ(y:List Int×List Int×Int×Int×Unit)=>y.1=w/\y.2.1=mem/\y.2.2.1=pc/\0<=y.2.2.2.1/\y.2.2.2.1<=w.length/\∀k:Int,0<=k->k<y.2.2.2.1->pc+k<mem.length/\((mem).getD (pc+k).toNat default)=((w).getD (k).toNat default)) (λy=>(w.length-y.2.2.2.1).toNat) ⟨rfl,rfl,rfl,by simp,by simp,λj h0 h1=>absurd h1 (by simp;omega)⟩ ?_;rintro⟨(w:List Int),(mem:List Int),(pc:Int),(i:Int),⟨⟩⟩ hI;dsimp only at hI ⊢;obtain⟨rfl,rfl,rfl,h1,h2,h3⟩:=hI;simp (disch:=omega) only [RR];refine⟨λg=>⟨ah,ah,ah,ah,λe=> ?_,λe=>⟨⟨ah,ah,λj j0 j1=> ?_⟩,ah⟩⟩,λg=> ?_⟩
 .rw [bL];intro q;obtain⟨q1,q2⟩:=q i h1 g;rcases e with e | e
  .omega
  .exact e q2
 .by_cases c:j<i
  .exact h3 j j0 c
  .rw [show j=i by omega];exact⟨ah,e.2⟩
 .rw [aP];exact λj j0 j1=>h3 j j0 ah
abbrev cE(e : Cac) : Int × Int × Int × Int × Int × Int × List Int × List IOp × Unit := (e.blk.pc, e.blk.len, e.blk.fin, e.blk.x, e.blk.y, e.blk.k, e.words, e.blk.ops, ())
theorem anj{p1 f1}(U1:Y77 p1 f1)(e:Cac)(hw:e.words.length<1000)(ho:e.blk.ops.length<1000000):XD.F (p1,f1,()) (e,()) (λy=>y=cE e):=by
 have mE:∀c:Blk,Co.mk .blk (c.pc,c.len,c.ops,c.fin,c.x,c.y,c.k,())=c:=λ_=>rfl
 dsimp only [XD,gm,jU];simp (disch:=omega) only [RR,CAB,mE,U1.hp _ ho,U1.hf _ ho,List.nil_append,List.length_nil];omega
noncomputable def fC (mem:List Int) (x:Cac):Bool:=bp (0<=x.blk.pc/\There x.words mem x.blk.pc)
def kP{α:Type}{d:α}{P:α->Bool}{l:List α}{i:Int}(h0:0<=i)(h:i<l.length):(l.take (i+1).toNat).filter P=(l.take i.toNat).filter P++(if P (l.getD i.toNat d)=true then [l.getD i.toNat d]else []):=by
 rw [show(i+1).toNat=i.toNat+1 by omega,List.take_succ_eq_append_getElem ah,getD_lt ah,List.filter_append]
 congr 1
 rw [List.filter_cons,List.filter_nil]
def sM{α:Type}(P:α->Bool)(l:List α)(i:Nat):((l.take i).filter P).length<=i:=Nat.le_trans (List.length_filter_le _ _) (List.length_take_le _ _)
structure ad3(pp:Cac×Unit->Bool)(ff:Cac×Unit->Int×Int×Int×Int×Int×Int×List Int×List IOp×Unit):Prop where
 hp:∀e,e.words.length<1000->e.blk.ops.length<1000000->pp (e,())=true
 hf:∀e,e.words.length<1000->e.blk.ops.length<1000000->ff (e,())=cE e
structure ank(pp:List Int×List Int×Int×Unit->Bool)(ff:List Int×List Int×Int×Unit->Bool×Unit):Prop where
 hp:∀w mem pc,w.length<1000->mem.length<1000000000->0<=pc->pc<=1000000->pp (w,mem,pc,())=true
 hf:∀w mem pc,w.length<1000->mem.length<1000000000->0<=pc->pc<=1000000->ff (w,mem,pc,())=(bp (There w mem pc),())
def anl{p1 f1 p2 f2}(U1:ad3 p1 f1)(U2:ank p2 f2)(l:List Cac)(mem:List Int)(h:ShK l)(hm:mem.length<1000000000):XF.F (p1,f1,p2,f2,()) (l,mem,()) (λy=>y=(l.filter (fC mem),())):=by
 obtain⟨hp1,hf1⟩:=U1;obtain⟨hp2,hf2⟩:=U2;have hl:=h.1;have mC:=CAM;dsimp only [XF,gm,jU,List.map_cons,List.map_nil]at*;refine aB (λ(y:List Cac×List Int×Int×List Cac×Unit)=>y.1=l/\y.2.1=mem/\0<=y.2.2.1/\y.2.2.1<=l.length/\y.2.2.2.1=(l.take y.2.2.1.toNat).filter (fC mem)) (λy=>(l.length-y.2.2.1).toNat) ⟨rfl,rfl,by simp,by simp,by simp⟩ ?_;rintro⟨(l:List Cac),(mem:List Int),(i:Int),(o:List Cac),⟨⟩⟩ hI;dsimp only at hI ⊢;obtain⟨rfl,rfl,h1,h2,rfl⟩:=hI;obtain⟨a1,a2,a3⟩:=h.at i.toNat;have fl:=sM (fC mem) l i.toNat;by_cases c:i<l.length
 .have fs:=kP (d:=default) (P:=fC mem) h1 c;by_cases d:0<=(((l).getD (i).toNat default)).blk.pc
  .have P2:=hp2 _ mem _ a1 hm d a3;have H2:=hf2 _ mem _ a1 hm d a3;have P1:=hp1 _ a1 a2;have H1:=hf1 _ a1 a2;simp (disch:=omega) only [RR,CAB,c,d,P1,P2,H1,H2,mC];refine⟨h1,h1,h1,λe=>⟨h1,ah,⟨ah,ah,?_⟩,ah⟩,λe=>⟨⟨ah,ah,?_⟩,ah⟩⟩
   .rw [fs,if_pos (show fC mem _=true from aP ⟨d,aU.1 e⟩)]
   .rw [fs,if_neg (by rw [fC,bL (λg=>by rw [aP g.2]at e;simp at e)];decide),List.append_nil]
  .simp (disch:=omega) only [RR,CAB,c,d,mC];refine⟨h1,λe=>e.1.elim,λ_=>⟨⟨ah,ah,?_⟩,ah⟩⟩;rw [fs,if_neg (by rw [fC,bL (λg=>d g.1)];decide),List.append_nil]
 .simp (disch:=omega) only [RR,CAB,c];rw [List.take_of_length_le ah]
noncomputable def lF:List Int->List Ins
 | []=> []
 | w::r=>if bp (Wo w/\bX (gU w))=true then gU w::lF r else []
def Td:∀w:List Int,(lF w).length<=w.length
 | []=>Nat.le_refl _
 | w::r=>by
  have:=Td r;unfold lF;split<;>simp only [List.length_cons,List.length_nil]<;>omega
def EU:∀(a b:List Int),(∀w∈a,Wo w/\bX (gU w))->lF (a++b)=a.map gU++lF b
 | [],b,_=>rfl
 | w::a,b,h=>by
  rw [List.cons_append,lF,if_pos (aP (h w (by simp))),EU a b (λx hx=>h x (by simp [hx]))];rfl
theorem anm{p1 f1}(U1:aiQ p1 f1)(w:List Int)(h:w.length<1000):X9.F (p1,f1,()) (w,()) (λy=>y=(lF w,())):=by
 have e:∀x y z u:Int,Co.mk .ins (x,y,z,u,())=⟨x,y,z,u⟩:=λ_ _ _ _=>rfl
 dsimp only [X9,gm];refine aB (λ(y:List Int×Int×List Ins×Unit)=>y.1=w/\0<=y.2.1/\y.2.1<=w.length/\y.2.2.1=(w.take y.2.1.toNat).map gU/\∀x∈w.take y.2.1.toNat,Wo x/\bX (gU x)) (λy=>(w.length-y.2.1).toNat) ⟨rfl,by simp,by simp,by simp,by simp⟩ ?_;rintro⟨(w:List Int),(i:Int),(o:List Ins),⟨⟩⟩ hI;dsimp only at hI ⊢;obtain⟨rfl,h1,h2,rfl,h3⟩:=hI;simp (disch:=omega) only [RR,U1.hp,U1.hf];have tl:=List.length_take_le' i.toNat w;refine⟨λg=>⟨h1,g,?_⟩,λg=> ?_⟩
 .have dr:w=w.take i.toNat++(w.getD i.toNat default::w.drop (i.toNat+1)):=by
   rw [getD_lt ah,<-List.drop_eq_getElem_cons ah,List.take_append_drop]
  unfold tkI;by_cases c:Wo (w.getD i.toNat default)/\bX (gU (w.getD i.toNat default))
  .rw [if_pos (aP c)];simp (disch:=omega) only [RR,e];have ts:=cZ (d:=default) h1 g (l:=w) rfl;have ml:((w.take i.toNat).map gU).length=i.toNat:=by rw [List.length_map,List.length_take];omega
   refine⟨by rw [ml];simp only [List.length_cons,List.length_nil];omega,⟨ah,ah,by rw [<-ts,List.map_append];rfl,λx hx=> ?_⟩,ah⟩;rw [<-ts,List.mem_append,List.mem_singleton]at hx;exact hx.elim (h3 x) (λq=>q▸c)
  .rw [if_neg (by rw [bL c];decide)];simp (disch:=omega) only [RR]
   conv=>rhs;rw [dr]
   rw [EU _ _ h3,lF,if_neg (by rw [bL c];decide),List.append_nil]
   done
 .rw [List.take_of_length_le ah]at h3 ⊢;have:=EU w [] h3;rw [List.append_nil]at this;rw [this];simp [lF]
def neP(pc:Int)(x:Cac):Bool:= !decide (x.blk.pc=pc)
def jJ(l:List Cac)(e:Cac):List Cac:=(l.filter (neP e.blk.pc)++ [e]).drop ((l.filter (neP e.blk.pc)).length+1-4)
def ano{p1 f1}(U1:ad3 p1 f1)(l:List Cac)(e:Cac)(h:ShK l)(h1:e.words.length<1000)(h2:e.blk.ops.length<1000000):Yi.F (p1,f1,()) (l,e,()) (λy=>y=(jJ l e,())):=by
 obtain⟨hp1,hf1⟩:=U1;have hl:=h.1;have mC:=CAM;dsimp only [Yi,gm,jU,List.map_cons,List.map_nil]at*;refine aB (λ(y:List Cac×Int×Cac×List Cac×Unit)=>y.1=l/\0<=y.2.1/\y.2.1<=l.length/\y.2.2.1=e/\y.2.2.2.1=(l.take y.2.1.toNat).filter (neP e.blk.pc)) (λy=>(l.length-y.2.1).toNat) ⟨rfl,by simp,by simp,rfl,by simp⟩ ?_;rintro⟨(l:List Cac),(i:Int),(e:Cac),(o:List Cac),⟨⟩⟩ hI;dsimp only at hI ⊢;obtain⟨rfl,i1,i2,rfl,rfl⟩:=hI;obtain⟨a1,a2,a3⟩:=h.at i.toNat;have fl:=sM (neP e.blk.pc) l i.toNat;have P0:=hp1 _ h1 h2;have H0:=hf1 _ h1 h2;by_cases c:i<l.length
 .have fs:=kP (d:=default) (P:=neP e.blk.pc) i1 c;by_cases d:(((l).getD (i).toNat default)).blk.pc=e.blk.pc
  .rw [if_neg (by simp [neP,d, -List.getD_eq_getElem?_getD])]at fs;simp (disch:=omega) only [RR,CAB,c,d,mC];exact⟨i1,⟨ah,ah,by rw [fs,List.append_nil]⟩,ah⟩
  .rw [if_pos (by simp [neP,d, -List.getD_eq_getElem?_getD])]at fs;have P1:=hp1 _ a1 a2;have H1:=hf1 _ a1 a2;simp (disch:=omega) only [RR,CAB,c,d,P1,H1,mC];exact⟨i1,i1,ah,⟨ah,ah,fs.symm⟩,ah⟩
 .simp (disch:=omega) only [RR,CAB,c,P0,H0,mC];rw [List.take_of_length_le ah]at fl ⊢;have el:((l.filter (neP e.blk.pc)++ [e]).length:Int)=(l.filter (neP e.blk.pc)).length+1:=by rw [List.length_append,List.length_singleton];omega
  have el':(l.filter (neP e.blk.pc)++ [e]).length=(l.filter (neP e.blk.pc)).length+1:=by rw [List.length_append,List.length_singleton]
  rw [el];generalize hn:(l.filter (neP e.blk.pc)).length=n at*;have w:IntKind.i64.wrap ((n:Int)+1-4)=n+1-4:=w64 ah ah;rw [w];unfold jJ;rw [hn];refine⟨ah,λg3=>⟨ah,ah,ah,ah,ah,ah,?_⟩,λg3=>by rw [show n+1-4=0 by omega];rfl⟩;rw [List.take_of_length_le ah,show((n:Int)+1-4).toNat=n+1-4 by omega]
def Ba(x:Cac):Prop:=(lF x.words).length=x.words.length/\nG x.blk.pc (lF x.words)/\chk (lower x.blk.pc (lF x.words)) x.blk=true
theorem anp{p1 f1 p2 f2 p4 f4}(U1:aas p1 f1)(U2:anh p2 f2){p3:List Int×Unit->Bool}{f3:List Int×Unit->List Ins×Unit}(hp3:∀w,w.length<1000->p3 (w,())=true)(hf3:∀w,w.length<1000->f3 (w,())=(lF w,()))(U4:Y96 p4 f4)(e:Cac)(hw:e.words.length<1000)(ho:e.blk.ops.length<1000000):Ya.F (p1,f1,p2,f2,p3,f3,p4,f4,()) (e,()) (λy=>y=(bp (Ba e),())):=by
 have mE:∀c:Blk,Co.mk .blk (c.pc,c.len,c.ops,c.fin,c.x,c.y,c.k,())=c:=λ_=>rfl
 have tl:=Td e.words;have P1:=U1.hp e.blk.pc (lF e.words) ah;have H1:=U1.hf e.blk.pc (lF e.words) ah;have P2:=U2.hp e.blk.pc (lF e.words) ah;have H2:=U2.hf e.blk.pc (lF e.words) ah;have lw:=Jo H1;rw [H1]at lw;have P4:=U4.hp (lower e.blk.pc (lF e.words)) e.blk (by have:((lower e.blk.pc (lF e.words)).ops.length:Int)<=5000:=lw;omega) ah;have H4:=U4.hf (lower e.blk.pc (lF e.words)) e.blk (by have:((lower e.blk.pc (lF e.words)).ops.length:Int)<=5000:=lw;omega) ah;dsimp only [Ya,gm,jU];simp (disch:=omega) only [RR,CAB,mE,hp3 _ hw,hf3 _ hw,P1,H1,P2,H2,P4,H4];have eq:bp (Ba e)=(decide (((lF e.words).length:Int)=e.words.length)&&bp (nG e.blk.pc (lF e.words))&&chk (lower e.blk.pc (lF e.words)) e.blk):=by
  rw [Bool.eq_iff_iff,aU,Bool.and_eq_true,Bool.and_eq_true,aU,decide_eq_true_eq];exact⟨λ⟨a,b,c⟩=>⟨⟨ah,b⟩,c⟩,λ⟨⟨a,b⟩,c⟩=>⟨ah,b,c⟩⟩
 exact⟨λ_=>by rw [eq],λg=>⟨g,by rw [eq,g];rfl⟩⟩
def Qi(l:List Cac)(mem:List Int):Prop:=l.length<=4/\(∀j:Int,0<=j->j<l.length->Ba ((l).getD (j).toNat default)/\There (((l).getD (j).toNat default)).words mem (((l).getD (j).toNat default)).blk.pc)/\∀i j:Int,0<=i->i<j->j<l.length->(((l).getD (i).toNat default)).blk.pc≠(((l).getD (j).toNat default)).blk.pc
def anq{p2 f2}{p1:Cac×Unit->Bool}{f1:Cac×Unit->Bool×Unit}(hp1:∀e,e.words.length<1000->e.blk.ops.length<1000000->p1 (e,())=true)(hf1:∀e,e.words.length<1000->e.blk.ops.length<1000000->f1 (e,())=(bp (Ba e),()))(U2:ank p2 f2)(l:List Cac)(mem:List Int)(h:ShK l)(hm:mem.length<1000000000):Yb.F (p1,f1,p2,f2,()) (l,mem,()) (λy=>y=(bp (Qi l mem),())):=by
 have hl:=h.1;dsimp only [Yb,gm,jU];simp (disch:=omega) only [RR,CAB];refine⟨λg=>by rw [bL (λe=>by have:=e.1;omega)],λg=> ?_⟩;refine aB (λ(y:List Cac×List Int×Int×Unit)=>y.1=l/\y.2.1=mem/\0<=y.2.2.1/\y.2.2.1<=l.length/\(∀j:Int,0<=j->j<y.2.2.1->Ba ((l).getD (j).toNat default)/\There (((l).getD (j).toNat default)).words mem (((l).getD (j).toNat default)).blk.pc)/\∀i j:Int,0<=i->i<j->j<y.2.2.1->(((l).getD (i).toNat default)).blk.pc≠(((l).getD (j).toNat default)).blk.pc) (λy=>(l.length-y.2.2.1).toNat) ⟨rfl,rfl,by simp,by simp,λj h0 h1=>absurd h1 (by simp;omega),λi j h0 h1 h2=>absurd h2 (by simp;omega)⟩ ?_;rintro⟨(l':List Cac),(mem':List Int),(i:Int),⟨⟩⟩ hI;dsimp only at hI ⊢;obtain⟨rfl,rfl,i1,i2,i3,i4⟩:=hI;obtain⟨a1,a2,a3⟩:=h.at i.toNat;by_cases c:i<l'.length
 .by_cases d:Ba ((l').getD (i).toNat default)
  .have pc:=d.2.1.pc;have P2:=U2.hp _ mem' _ a1 hm pc.1 a3;have H2:=U2.hf _ mem' _ a1 hm pc.1 a3;simp (disch:=omega) only [RR,CAB,c,hp1 _ a1 a2,hf1 _ a1 a2,aP d,P2,H2];refine⟨i1,i1,i1,λe=> ?_,λe=> ?_⟩
   .rw [bL];intro q;rw [aP (q.2.1 i i1 c).2]at e;cases e
   have th:=aU.1 e;refine aB (λ(y:List Cac×List Int×Int×Int×Unit)=>y.1=l'/\y.2.1=mem'/\y.2.2.1=i/\0<=y.2.2.2.1/\y.2.2.2.1<=i/\∀j:Int,0<=j->j<y.2.2.2.1->(((l').getD (j).toNat default)).blk.pc≠(((l').getD (i).toNat default)).blk.pc) (λy=>(i-y.2.2.2.1).toNat) ⟨rfl,rfl,rfl,by simp,i1,λj h0 h1=>absurd h1 (by simp;omega)⟩ ?_;rintro⟨(u:List Cac),(v:List Int),(w:Int),(k:Int),⟨⟩⟩ hJ;dsimp only at hJ ⊢;obtain⟨rfl,rfl,rfl,k1,k2,k3⟩:=hJ;simp (disch:=omega) only [RR];refine⟨λg1=>⟨k1,ah,i1,c,λq=> ?_,λq=>⟨⟨ah,ah,λj j0 j1=> ?_⟩,ah⟩⟩,λg1=>⟨⟨ah,ah,λj j0 j1=> ?_,λa b b0 b1 b2=> ?_⟩,ah⟩⟩
   .rw [bL];exact λz=>z.2.2 k w k1 g1 c q
   .by_cases y:j<k
    .exact k3 j j0 y
    .rw [show j=k by omega];exact q
   .by_cases y:j<w
    .exact i3 j j0 y
    .rw [show j=w by omega];exact⟨d,th⟩
   .by_cases y:b<w
    .exact i4 a b b0 b1 y
    .rw [show b=w by omega];exact k3 a b0 ah
  .simp (disch:=omega) only [RR,CAB,c,hp1 _ a1 a2,hf1 _ a1 a2,bL d];refine⟨i1,?_,λe=>e.1.elim⟩;rw [bL];exact λz=>d (z.2.1 i i1 c).1
 .simp (disch:=omega) only [RR,CAB,c];rw [aP];exact⟨ah,λj j0 j1=>i3 j j0 ah,λa b a0 a1 a2=>i4 a b a0 a1 ah⟩
def EGB:(∀e:Eng,iE .eng 0 .i64 e=e.au.regs)/\(∀e:Eng,dB .eng 1 e=e.au.pc)/\(∀e:Eng,iE .eng 2 .i64 e=e.au.mem)/\(∀e:Eng,dB .eng 3 e=e.au.save)/\(∀e:Eng,ML .eng 4 e=e.au.bF)/\(∀e:Eng,ML .eng 5 e=e.au.waits)/\(∀e:Eng,dB .eng 6 e=e.au.halt)/\(∀e:Eng,iE .eng 7 .i64 e=e.au.ins)/\(∀e:Eng,iE .eng 8 .i64 e=e.au.outs)/\(∀e:Eng,dB .eng 9 e=e.au.count)/\(∀e:Eng,iE .eng 10 .cac e=e.cache)/\(∀e:Eng,iE .eng 11 .cer e=e.aY):=
 ⟨λ_=>rfl,λ_=>rfl,λ_=>rfl,λ_=>rfl,λ_=>rfl,λ_=>rfl,λ_=>rfl,λ_=>rfl,λ_=>rfl,λ_=>rfl,λ_=>rfl,λ_=>rfl⟩
theorem MKM:∀m:aG,Co.mk .au (m.regs,m.pc,m.mem,m.save,m.bF,m.waits,m.halt,m.ins,m.outs,m.count,())=m:=λ_=>rfl
def Ll(e:Eng):Prop:=MOK e.au/\Qi e.cache e.au.mem/\K6 e.aY
def anr{p2 f2 p3 f3}{p1:List Cac×List Int×Unit->Bool}{f1:List Cac×List Int×Unit->Bool×Unit}(hp1:∀l mem,ShK l->mem.length<1000000000->p1 (l,mem,())=true)(hf1:∀l mem,ShK l->mem.length<1000000000->f1 (l,mem,())=(bp (Qi l mem),()))(U2:aqo p2 f2)(U3:UY p3 f3)(e:Eng)(h1:MSh e.au)(h2:ShK e.cache)(h3:ShD e.aY):Yd.F (p1,f1,p2,f2,p3,f3,()) (e,()) (λy=>y=(bp (Ll e),())):=by
 obtain⟨hp2,hf2⟩:=U2;obtain⟨hp3,hf3⟩:=U3;have mM:=MKM;have P1:=hp1 _ e.au.mem h2 h1.2.1;have H1:=hf1 _ e.au.mem h2 h1.2.1;dsimp only [Yd,gm,oH]at*;simp (disch:=omega) only [RR,EGB,mM,hp3 _ h1,hf3 _ h1,P1,H1,hp2 _ h3,hf2 _ h3];unfold Ll;rw [pV,pV,Bool.and_assoc]
abbrev e12(e : Eng) : List Int × Int × Int × Bool × Bool × Int × List Int × List Int × Int × List Cer × List Int × List Cac × Unit := (e.au.regs, e.au.pc, e.au.save, e.au.bF, e.au.waits, e.au.halt, e.au.ins, e.au.outs, e.au.count, e.aY, e.au.mem, e.cache, ())
noncomputable def newE (m:aG):Eng:=if bp (MOK m)=true then⟨m,[],[]⟩else⟨Li,[],[]⟩
def ant{p1 f1 p2 f2}(U1:UY p1 f1)(U2:aaf p2 f2)(m:aG)(h:MSh m):Xx.F (p1,f1,p2,f2,()) (m,()) (λy=>y=e12 (newE m)):=by
 dsimp only [Xx,gm];simp (disch:=omega) only [RR,U1.hp _ h,U1.hf _ h,U2.hp _ h,U2.hf _ h];unfold newE;exact⟨λg=>by rw [g];rfl,λg=>by rw [g];rfl⟩
def aav{m:aG}(h:MSh m)(ho:m.outs.length<900000000)(b:Bool):MSh (stS m b)/\(stS m b).outs.length<=m.outs.length+1/\(stS m b).ins.length<=m.ins.length:=by
 obtain⟨a1,a2,a3,a4⟩:=h;unfold stS;split
 .rename_i g;have ok:=aU.1 g;split
  .exact⟨⟨a1,a2,a3,a4⟩,Nat.le_succ _,Nat.le_refl _⟩
  .have k:=EO ok (by have:=ok.ct;omega) b;have l:=EP m b;exact⟨⟨by rw [k.r4];omega,by have:=k.m64;omega,ah,ah⟩,l.2,l.1⟩
 .exact⟨⟨by decide,by decide,by decide,by decide⟩,Nat.zero_le _,Nat.zero_le _⟩
noncomputable def sN (e:Eng) (q:List Int):Eng:=⟨stS e.au (bp (e.au.count∈q)),e.cache.filter (fC (stS e.au (bp (e.au.count∈q))).mem),e.aY⟩
structure aiZ(pp:List Cac×List Int×Unit->Bool)(ff:List Cac×List Int×Unit->List Cac×Unit):Prop where
 hp:∀l mem,ShK l->mem.length<1000000000->pp (l,mem,())=true
 hf:∀l mem,ShK l->mem.length<1000000000->ff (l,mem,())=(l.filter (fC mem),())
def ai0{p1 f1 p2 f2 p3 f3}(U1:aiZ p1 f1)(U2:am6 p2 f2)(U3:adZ p3 f3)(e:Eng)(q:List Int)(h1:MSh e.au)(ho:e.au.outs.length<900000000)(h2:ShK e.cache)(hq:q.length<1000000000):OW.F (p1,f1,p2,f2,p3,f3,()) (e.au.regs,e.au.pc,e.au.mem,e.au.save,e.au.bF,e.au.waits,e.au.halt,e.au.ins,e.au.outs,e.au.count,e.cache,q,e.aY,()) (λy=>y=e12 (sN e q)):=by
 obtain⟨hp1,hf1⟩:=U1;obtain⟨hp2,hf2⟩:=U2;obtain⟨hp3,hf3⟩:=U3;have mM:=MKM;dsimp only [OW,gm,oH]at*;have P3:=hp3 _ e.au.count hq;have H3:=hf3 _ e.au.count hq;have P2:=hp2 e.au (bp (e.au.count∈q)) h1 ho;have H2:=hf2 e.au (bp (e.au.count∈q)) h1 ho;have sh:=(aav h1 ho (bp (e.au.count∈q))).1;have P1:=hp1 _ (stS e.au (bp (e.au.count∈q))).mem h2 sh.2.1;have H1:=hf1 _ (stS e.au (bp (e.au.count∈q))).mem h2 sh.2.1;simp (disch:=omega) only [RR,mM,P3,H3,P2,H2,P1,H1];rfl
theorem anu{p1 f1 p2 f2 p3 f3}(U1:ad3 p1 f1)(U2:amP p2 f2)(U3:aaf p3 f3)(e:Eng)(h1:MSh e.au)(h2:ShK e.cache)(h3:ShC e.aY):Yf.F (p1,f1,p2,f2,p3,f3,()) (e,()) (λy=>y=e12 e):=by
 obtain⟨hp1,hf1⟩:=U1;obtain⟨hp2,hf2⟩:=U2;obtain⟨hp3,hf3⟩:=U3;have mM:=MKM;have mC:=CAM;have mQ:∀q:Cer,Co.mk .cer (q.base.pc,q.base.len,q.base.ops,q.base.fin,q.base.x,q.base.y,q.base.k,q.made.pc,q.made.len,q.made.ops,q.made.fin,q.made.x,q.made.y,q.made.k,())=q:=λ_=>rfl
 unfold adR at hf2;dsimp only [Yf,gm,oH,jU,List.cons_append,List.nil_append,List.map_cons,List.map_nil]at*;simp (disch:=omega) only [RR,EGB,mM,hp3 _ h1,hf3 _ h1];have l2:=h2.1;have l3:=h3.1;have cq:∀x:Cer,([x].length:Int)=1:=λ_=>rfl
 refine aB (λy=>∃i:Nat,i<=e.cache.length/\y=((i:Int),e,(0:Int),(0:Int),false,false,(0:Int),(0:Int),e.au.pc,e.au.save,e.au.bF,e.au.waits,e.au.halt,e.au.count,e.au.regs,e.au.mem,e.au.ins,e.au.outs,e.cache.take i,())) (λy=>(e.cache.length-y.1).toNat) ⟨0,Nat.zero_le _,rfl⟩ ?_;rintro y ⟨i,hi,rfl⟩;dsimp only;obtain⟨a1,a2,a3⟩:=h2.at i;have ei:((i:Int)).toNat=i:=rfl;by_cases c:(i:Int)<e.cache.length
 .have tl:=List.length_take_le' i e.cache;simp (disch:=omega) only [RR,c,ei,hp1 _ a1 a2,hf1 _ a1 a2,mC];refine⟨ah,ah,⟨i+1,ah,?_⟩,ah⟩;rw [List.take_succ_eq_append_getElem ah,getD_lt ah];rfl
 .simp (disch:=omega) only [RR,c];rw [List.take_of_length_le ah];refine aB (λy=>∃i:Nat,i<=e.aY.length/\y=((i:Int),e,(0:Int),(0:Int),false,false,(0:Int),(0:Int),e.au.pc,e.au.save,e.au.bF,e.au.waits,e.au.halt,e.au.count,e.au.regs,e.au.mem,e.au.ins,e.au.outs,e.cache,e.aY.take i,())) (λy=>(e.aY.length-y.1).toNat) ⟨0,Nat.zero_le _,rfl⟩ ?_;rintro y ⟨j,hj,rfl⟩;dsimp only;have b:=h3.at j;have ej:((j:Int)).toNat=j:=rfl;by_cases c:(j:Int)<e.aY.length
  .have tl:=List.length_take_le' j e.aY;simp (disch:=omega) only [RR,c,ej,hp2 _ b.1 b.2,hf2 _ b.1 b.2,mQ,cq];refine⟨ah,ah,⟨j+1,ah,?_⟩,ah⟩;rw [List.take_succ_eq_append_getElem ah,getD_lt ah];rfl
  .simp (disch:=omega) only [RR,c];rw [List.take_of_length_le ah]
structure aqM(pp:List Cac×Int×Unit->Bool)(ff:List Cac×Int×Unit->Int×Unit):Prop where
 hp:∀l pc,l.length<1000000000->pp (l,pc,())=true
 hf:∀l pc,l.length<1000000000->FC l pc (ff (l,pc,())).1
def lvS(m:aG)(b:Blk)(n h:Int):aG:={m with pc:=b.pc+n,count:=m.count+n,halt:=h}
def aaw(m:aG)(b:Blk)(n h:Int)(h1:0<=m.count/\m.count<=2000000)(h2:0<=n/\n<=1000)(h3: -1000<=b.pc/\b.pc<=1000000):OY.F () (m.pc,m.save,m.bF,m.waits,m.halt,m.ins,m.count,b,n,h,m.regs,m.mem,m.outs,()) (λy=>y=mB (lvS m b n h)):=by
 dsimp only [OY,gm];simp (disch:=omega) only [RR,RB];rfl
def aax(b:Blk)(a n:Int)(h2:0<=n/\n<=1000)(h3: -1000<=b.pc/\b.pc<=1000000)(h4: -1000<=b.len/\b.len<=1000000):OZ.F () (b,a,n,()) (λy=>y=(decide (b.pc+n<a)&&decide (a<b.pc+b.len),())):=by
 dsimp only [OZ,gm];simp (disch:=omega) only [RR,RB]
def ai1{p1 f1}(U1:Y24 p1 f1)(m:aG)(o:IOp)(x y:Int)(h:o.kind=2->0<=o.k/\o.k<m.regs.length):O7.F (p1,f1,()) (m,o,x,y,()) (λz=>z=(if o.kind=1 then o.k else if o.kind=2 then((m.regs).getD (o.k).toNat default)else if o.kind=3 then wdo o.k x y else 0,())):=by
 dsimp only [O7,gm];simp (disch:=omega) only [RR,RB,MRB,U1.hp,U1.hf];refine⟨λe=>by rw [if_pos e],λe=>⟨λg=>⟨(h g).1,(h g).2,by rw [if_neg e,if_pos g]⟩,λg=>⟨λk=>by rw [if_neg e,if_neg g,if_pos k],λk=>by rw [if_neg e,if_neg g,if_neg k]⟩⟩⟩
def goS(b:Blk)(v:List Int):Int:=if b.fin=1 then b.k else if b.fin=2 then((v).getD (b.x).toNat default)else if b.fin=3/\((v).getD (b.x).toNat default)=((v).getD (b.y).toNat default)then b.k else if b.fin=4/\((v).getD (b.x).toNat default)< ((v).getD (b.y).toNat default)then b.k else b.pc+b.len
def aay(b:Blk)(v:List Int)(h3: -1000<=b.pc/\b.pc<=1000000)(h4: -1000<=b.len/\b.len<=1000000)(hx:b.fin≠1->0<=b.x/\b.x<v.length)(hy:3<=b.fin->0<=b.y/\b.y<v.length):O8.F () (b,v,()) (λz=>z=(goS b v,())):=by
 dsimp only [O8,gm];simp (disch:=omega) only [RR,RB];unfold goS;refine⟨λe=>by rw [if_pos e],λe=>⟨λg=>⟨(hx e).1,(hx e).2,by rw [if_neg e,if_pos g]⟩,λg=>⟨λk=> ?_,λk=>⟨λj=> ?_,λj=>by rw [if_neg e,if_neg g,if_neg (λz=>k z.1),if_neg (λz=>j z.1)]⟩⟩⟩⟩
 .have Y:=hy ah;exact⟨(hx e).1,(hx e).2,Y.1,Y.2,λz=>by rw [if_neg e,if_neg g,if_pos ⟨k,z⟩],λz=>by rw [if_neg e,if_neg g,if_neg (λw=>z w.2),if_neg (λw=>by omega)]⟩
 .have Y:=hy ah;exact⟨(hx e).1,(hx e).2,Y.1,Y.2,λz=>by rw [if_neg e,if_neg g,if_neg (λw=>k w.1),if_pos ⟨j,z⟩],λz=>by rw [if_neg e,if_neg g,if_neg (λw=>k w.1),if_neg (λw=>z w.2)]⟩
noncomputable def EZ (m:aG) (q:List Int) (left size:Int):Bool:=bp (size<=left/\m.count<=1000000-size/\∀k:Int,1<=k->k<size->m.count+k∉q)
def aaz{p1 f1}(U1:adZ p1 f1)(m:aG)(q:List Int)(left size:Int)(hq:q.length<1000000000)(h1:0<=m.count/\m.count<=2000000)(h2: -1000<=size/\size<=1000000):OX.F (p1,f1,()) (m,q,left,size,()) (λy=>y=(EZ m q left size,())):=by
 dsimp only [OX,gm];simp (disch:=omega) only [RR,MRB];refine⟨λg=>by unfold EZ;rw [bL (λz=>by omega)],λg=> ?_⟩;refine aB (λ(y:List Int×Int×Int×aG×Unit)=>y.1=q/\y.2.1=size/\1<=y.2.2.1/\(y.2.2.1<=size\/y.2.2.1=1)/\y.2.2.2.1=m/\∀k:Int,1<=k->k<y.2.2.1->m.count+k∉q) (λy=>(size-y.2.2.1).toNat) ⟨rfl,rfl,by simp,Or.inr rfl,rfl,λk h0 h1=>absurd h1 (by simp;omega)⟩ ?_;rintro⟨(q:List Int),(s:Int),(k:Int),(m:aG),⟨⟩⟩ hI;dsimp only at hI ⊢;obtain⟨rfl,rfl,k1,k2,rfl,k3⟩:=hI;simp (disch:=omega) only [RR,U1.hp _ _ hq,U1.hf _ _ hq];refine⟨λc=>⟨λe=> ?_,λe=> ?_⟩,λc=>by unfold EZ;rw [aP ⟨ah,ah,λj j0 j1=>k3 j j0 ah⟩]⟩
 .unfold EZ;rw [bL (λz=>z.2.2 k k1 c (aU.1 e))]
 .refine⟨⟨ah,ah,λj j0 j1=> ?_⟩,ah⟩;by_cases z:j<k
  .exact k3 j j0 z
  .rw [show j=k by omega];exact kU.1 e
def afs(b:List Int)(k:Int)(hb:By b)(h0:0<=k)(h1:k+1<b.length)(hl:b.length<1000000000):Yx.F () (b,k,()) (λy=>y=(((b).getD (k).toNat default)*256+((b).getD (k+1).toNat default),())):=by
 have B:=λk:Nat=>hb.at k
 have c:∀k:Nat,IntKind.i64.wrap (b.getD k default)=b.getD k default:=λk=>by have:=B k;exact w64 ah ah
 have B0:=B k.toNat;have B1:=B (k+1).toNat;dsimp only [Yx,gm];simp (disch:=omega) only [RR,c];exact⟨h0,ah,ah,h1⟩
def evR(m:aG)(b:Blk)(o:IOp)(x y:Int):aG×Int×Bool:=
 if o.kind=7 then({m with outs:=m.outs++ [x]},0,false)
 else if o.kind=6 then({m with ins:=m.ins.drop 1},m.ins.getD 0 0,false)
 else if 64<=x then(lvS m b o.at_ 3,0,true)
 else if o.kind=4 then(m,((m.mem).getD (x).toNat default),false)
 else if b.pc+o.at_<x/\x<b.pc+b.len then(lvS {m with mem:=m.mem.set x.toNat y} b (o.at_+1) 0,0,true)
 else({m with mem:=m.mem.set x.toNat y},0,false)
abbrev ai2(z : aG × Int × Bool) : Int × Int × Bool × Bool × Int × List Int × Int × Int × Bool × List Int × List Int × List Int × Unit := (z.1.pc, z.1.save, z.1.bF, z.1.waits, z.1.halt, z.1.ins, z.1.count, z.2.1, z.2.2, z.1.regs, z.1.mem, z.1.outs, ())
theorem ai3{p1:Int×Int×Bool×Bool×Int×List Int×Int×Blk×Int×Int×List Int×List Int×List Int×Unit->Bool}{f1:Int×Int×Bool×Bool×Int×List Int×Int×Blk×Int×Int×List Int×List Int×List Int×Unit->Int×Int×Bool×Bool×Int×List Int×Int×List Int×List Int×List Int×Unit}(hp1:∀(m:aG) (b:Blk) (n h:Int),0<=m.count/\m.count<=2000000->0<=n/\n<=1000-> -1000<=b.pc/\b.pc<=1000000->p1 (m.pc,m.save,m.bF,m.waits,m.halt,m.ins,m.count,b,n,h,m.regs,m.mem,m.outs,())=true)(hf1:∀(m:aG) (b:Blk) (n h:Int),0<=m.count/\m.count<=2000000->0<=n/\n<=1000-> -1000<=b.pc/\b.pc<=1000000->f1 (m.pc,m.save,m.bF,m.waits,m.halt,m.ins,m.count,b,n,h,m.regs,m.mem,m.outs,())=mB (lvS m b n h)){p2:Blk×Int×Int×Unit->Bool}{f2:Blk×Int×Int×Unit->Bool×Unit}(hp2:∀(b:Blk) (a n:Int),0<=n/\n<=1000-> -1000<=b.pc/\b.pc<=1000000-> -1000<=b.len/\b.len<=1000000->p2 (b,a,n,())=true)(hf2:∀(b:Blk) (a n:Int),0<=n/\n<=1000-> -1000<=b.pc/\b.pc<=1000000-> -1000<=b.len/\b.len<=1000000->f2 (b,a,n,())=(decide (b.pc+n<a)&&decide (a<b.pc+b.len),()))(m:aG)(b:Blk)(o:IOp)(x y:Int)(hm:m.mem.length=64)(x0:0<=x)(hi:m.ins.length<1000000000)(ho:m.outs.length<900000000)(h1:0<=m.count/\m.count<=1000000)(h2:0<=o.at_/\o.at_<=100)(h3: -1000<=b.pc/\b.pc<=1000000)(h4: -1000<=b.len/\b.len<=1000000):O5.F (p1,f1,p2,f2,()) (m.pc,m.save,m.bF,m.waits,m.halt,m.ins,m.count,b,o,x,y,m.regs,m.mem,m.outs,()) (λz=>z=ai2 (evR m b o x y)):=by
 unfold mB at hf1;have P1:=hp1 m b o.at_ 3 ah ah h3;have H1:=hf1 m b o.at_ 3 ah ah h3;have P2:=hp2 b x o.at_ ah h3 h4;have H2:=hf2 b x o.at_ ah h3 h4;have P3:=hp1 {m with mem:=m.mem.set x.toNat y} b (o.at_+1) 0 (show 0<=m.count/\m.count<=2000000 by omega) ah h3;have H3:=hf1 {m with mem:=m.mem.set x.toNat y} b (o.at_+1) 0 (show 0<=m.count/\m.count<=2000000 by omega) ah h3;dsimp only at P3 H3;dsimp only [O5,gm];simp (disch:=omega) only [RR,RB,P1,H1,P2,H2,P3,H3,hm,nX];unfold evR;have d0:(default:Int)=0:=rfl;refine⟨λe=>⟨by simp only [List.length_cons,List.length_nil];omega,by rw [if_pos e]⟩,λe7=>⟨λe=>⟨λg=>⟨ah,g,ah,ah,ah,?_⟩,λg=> ?_⟩,λe6=>⟨λg=>by rw [if_neg e7,if_neg e6,if_pos g],λg=>⟨λe=>⟨x0,ah,x0,ah,by rw [if_neg e7,if_neg e6,if_neg g,if_pos e]⟩,λe4=>⟨x0,ah,x0,ah,λe=>by rw [if_neg e7,if_neg e6,if_neg g,if_neg e4,if_pos e],λe=> ?_⟩⟩⟩⟩⟩
 .rw [if_neg e7,if_pos e,List.take_of_length_le ah];rfl
 .have n:m.ins=[]:=List.eq_nil_of_length_eq_zero ah;rw [if_neg e7,if_pos e,n];rfl
 .rw [if_neg e7,if_neg e6,if_neg g,if_neg e4,if_neg (λz=>by rw [decide_eq_true z.1,decide_eq_true z.2]at e;cases e)]
noncomputable def eZ (mem:List Int):Nat->Int->List Ins
 | 0,_=> []
 | n+1,p=>if bp (p<64/\(Wo ((mem).getD (p).toNat default)/\bX (gU ((mem).getD (p).toNat default)))/\(gU ((mem).getD (p).toNat default)).op≠0)=true then(if bp (11<=(gU ((mem).getD (p).toNat default)).op/\(gU ((mem).getD (p).toNat default)).op<=13)=true then [gU ((mem).getD (p).toNat default)]else gU ((mem).getD (p).toNat default)::eZ mem n (p+1))else []
noncomputable def findF (m:aG):List Ins:=if bp (MOK m)=true then eZ m.mem 8 m.pc else []
def sD(mem:List Int):∀(n:Nat) (p:Int),(eZ mem n p).length<=n/\(0< (eZ mem n p).length->p+(eZ mem n p).length<=64)/\
  ∀i:Nat,i< (eZ mem n p).length->bX ((eZ mem n p).getD i default)/\((eZ mem n p).getD i default).op≠0/\(11<=((eZ mem n p).getD i default).op/\((eZ mem n p).getD i default).op<=13->i+1=(eZ mem n p).length)
 | 0,_=>⟨Nat.le_refl _,λh=>absurd h (by simp [eZ]),λi hi=>absurd hi (by simp [eZ])⟩
 | n+1,p=>by
  obtain⟨r1,r2,r3⟩:=sD mem n (p+1);unfold eZ;split
  .rename_i g;obtain⟨g1,⟨g2,g3⟩,g4⟩:=aU.1 g;split
   .refine⟨by simp,λ_=>by simp;omega,λi hi=> ?_⟩;have:i=0:=by simp at hi;omega
    subst this;exact⟨g3,g4,λ_=>by simp⟩
   .rename_i e;have e':=kU.1 (by simpa using e);refine⟨by simp;omega,λ_=> ?_,λi hi=> ?_⟩
    .by_cases z:0< (eZ mem n (p+1)).length
     .have:=r2 z;simp;omega
     .simp;omega
    .cases i with
     | zero=>exact⟨g3,g4,λq=>absurd q e'⟩
     | succ i=>
      have:=r3 i (by simpa using hi);exact⟨this.1,this.2.1,λq=>by have:=this.2.2 q;simp;omega⟩
  .exact⟨by simp,λh=>absurd h (by simp),λi hi=>absurd hi (by simp)⟩
def E5(m:aG):(findF m).length<=8/\(0< (findF m).length->MOK m/\nG m.pc (findF m)):=by
 unfold findF;split
 .rename_i g;have ok:=aU.1 g;have pw:0<=m.pc/\m.pc<=65535:=ok.pc;obtain⟨r1,r2,r3⟩:=sD m.mem 8 m.pc;exact⟨r1,λh=>⟨ok,⟨ah,ah⟩,⟨ah,by have:=r2 h;omega⟩,r3⟩⟩
 .exact⟨by simp,λh=>absurd h (by simp)⟩
def anv{w:Int}(h:Wo w/\bX (gU w)):tkI w=((gU w).op,(gU w).d,(gU w).a,(gU w).k,true,()):=by unfold tkI;rw [if_pos (aP h)]
theorem anw{p1 f1 p2 f2 p3 f3}(U1:aiC p1 f1)(U2:aiQ p2 f2)(U3:UY p3 f3)(m:aG)(h:MSh m):Yj.F (p1,f1,p2,f2,p3,f3,()) (m,()) (λy=>y=(findF m,())):=by
 obtain⟨hp1,hf1⟩:=U1;obtain⟨hp2,hf2⟩:=U2;obtain⟨hp3,hf3⟩:=U3
 replace hf1:∀i:Int,f1 (i,())=(bp (11<=i/\i<=13),()):=λi=>by rw [hf1 i,Prod.ext_iff];exact⟨by rw [Bool.eq_iff_iff,dF,aU],rfl⟩
 have e4:∀x y z u:Int,Co.mk .ins (x,y,z,u,())=⟨x,y,z,u⟩:=λ_ _ _ _=>rfl
 dsimp only [Yj,gm,oH];simp (disch:=omega) only [RR,MRB,hp3 _ h,hf3 _ h];refine⟨λg=>by unfold findF;rw [g];rfl,λg=> ?_⟩;have ok:=aU.1 g;have pw:0<=m.pc/\m.pc<=65535:=ok.pc;have m6:=ok.m64;have fE:findF m=eZ m.mem 8 m.pc:=by unfold findF;rw [g,if_pos rfl]
 rw [fE];generalize hG:eZ m.mem 8 m.pc=G;refine aB (λ(y:Int×aG×List Ins×Unit)=>0<=y.1/\y.1<=8/\y.2.1=m/\y.2.2.1.length<=y.1/\y.2.2.1++eZ m.mem (8-y.1).toNat (m.pc+y.1)=G) (λy=>(8-y.1).toNat) ⟨by simp,by simp,rfl,by simp,by simpa using hG⟩ ?_;rintro⟨(i:Int),(m:aG),(o:List Ins),⟨⟩⟩ hI;dsimp only at hI ⊢;obtain⟨i1,i2,rfl,i3,i4⟩:=hI;simp (disch:=omega) only [RR,hp1,hf1,hp2,hf2,MRB,m6,List.length_cons,List.length_nil,List.length_append,e4];have w:IntKind.i64.wrap (m.pc+i)=m.pc+i:=w64 ah ah;refine⟨λc=> ?_,λc=> ?_⟩
 .obtain⟨n,hn⟩:∃n,(8-i).toNat=n+1:=⟨(8-i).toNat-1,ah⟩;rw [hn]at i4;unfold eZ at i4;by_cases z:Wo ((m.mem).getD ((m.pc+i)).toNat default)/\bX (gU ((m.mem).getD ((m.pc+i)).toNat default))
  .rw [anv z];generalize hd:gU ((m.mem).getD ((m.pc+i)).toNat default)=d at*;have md:(⟨d.op,d.d,d.a,d.k⟩:Ins)=d:=rfl;dsimp only;rw [md];refine⟨ah,ah,λe=> ?_,λe=>⟨ah,λq=> ?_,λq=>⟨⟨ah,ah,ah,?_⟩,ah⟩⟩⟩
   .rw [if_neg (by rw [bL (λy=>y.2.2 (by simpa using e))];decide)]at i4;rw [<-i4,List.append_nil]
   .rw [if_pos (aP ⟨ah,z,by simpa using e⟩),if_pos q]at i4;rw [<-i4]
   .rw [if_pos (aP ⟨ah,z,by simpa using e⟩),if_neg (by rw [q];decide)]at i4;rw [show(8- (i+1)).toNat=n by omega,<-i4,List.append_assoc,show m.pc+(i+1)=m.pc+i+1 by omega];rfl
  .have tf:(tkI ((m.mem).getD ((m.pc+i)).toNat default)).2.2.2.2.1=false:=by unfold tkI;rw [if_neg (by rw [bL z];decide)]
   rw [if_neg (by rw [bL (λy=>z y.2.1)];decide),List.append_nil]at i4;rw [tf];refine⟨ah,ah,λ_=>by rw [<-i4],λe=>by simp at e⟩
 .have:o=G:=by
   rw [<-i4];by_cases z:i<8
   .obtain⟨n,hn⟩:∃n,(8-i).toNat=n+1:=⟨(8-i).toNat-1,ah⟩;rw [hn];unfold eZ;have c:=Bool.and_eq_false_iff.1 c;rw [decide_eq_false_iff_not,decide_eq_false_iff_not]at c;rw [if_neg (by rw [bL (λy=>by have:=y.1;omega)];decide),List.append_nil]
   .rw [show(8-i).toNat=0 by omega];unfold eZ;rw [List.append_nil]
  rw [this]
def ad4{l:List Int}{n i:Nat}(h:i<n):(vJ l n).getD i default=rdO l (7+6*i):=by
 rw [getD_lt (by unfold vJ;rw [List.length_map,List.length_range];exact h)];simp [vJ]
def ai4{l:List Int}(hl:By l)(h7:7<=l.length)(h6:(l.length-7)%6=0):Jj (rdB l)=l:=by
 have B:=λk:Nat=>hl.at k
 have ol:(rdB l).ops.length=(l.length-7)/6:=by show(vJ l _).length=_;unfold vJ;rw [List.length_map,List.length_range]
 have key:∀n,n<l.length->(Jj (rdB l)).getD n default=l.getD n default:=λn hn=>by
  by_cases c:n<7
  .have b0:=B 0;have b1:=B 1;have b2:=B 2;have b3:=B 3;have b4:=B 4;have b5:=B 5;have b6:=B 6;have e:n=0\/n=1\/n=2\/n=3\/n=4\/n=5\/n=6:=by omega
   rcases e with rfl | rfl | rfl | rfl | rfl | rfl | rfl
   .show l.getD 0 default%256=_;omega
   .show l.getD 1 default%256=_;omega
   .show l.getD 2 default%256=_;omega
   .show l.getD 3 default%256=_;omega
   .show l.getD 4 default%256=_;omega
   .show(l.getD 5 default*256+l.getD 6 default)/256%256=_;omega
   .show(l.getD 5 default*256+l.getD 6 default)%256=_;omega
  .obtain⟨i,j,hj,rfl⟩:∃i j,j<6/\n=7+6*i+j:=⟨(n-7)/6,(n-7)%6,ah,ah⟩;have hi:i< (l.length-7)/6:=by omega
   rw [aiB _ i j (by rw [ol];exact hi) hj];have er:(rdB l).ops.getD i default=rdO l (7+6*i):=ad4 hi;rw [er];have b0:=B (7+6*i);have b1:=B (7+6*i+1);have b2:=B (7+6*i+2);have b3:=B (7+6*i+3);have b4:=B (7+6*i+4);have b5:=B (7+6*i+5);have e:j=0\/j=1\/j=2\/j=3\/j=4\/j=5:=by omega
   rcases e with rfl | rfl | rfl | rfl | rfl | rfl
   .show l.getD (7+6*i) default%256=l.getD (7+6*i) default;omega
   .show l.getD (7+6*i+1) default%256=_;omega
   .show l.getD (7+6*i+2) default%256=_;omega
   .show(l.getD (7+6*i+3) default*256+l.getD (7+6*i+4) default)/256%256=_;omega
   .show(l.getD (7+6*i+3) default*256+l.getD (7+6*i+4) default)%256=_;omega
   .show l.getD (7+6*i+5) default%256=_;omega
 refine List.ext_getElem (by rw [Z7,ol];omega) λn h1 h2=> ?_
 have:=key n h2
 rwa [getD_lt h1,getD_lt h2]at this
def Lm{l:List Int}(hl:By l):adS l↔(7<=l.length/\(l.length-7)%6=0/\l.length<=295)/\cu (rdB l):=by
 refine⟨λ⟨a,b⟩=>⟨a,?_⟩,λ⟨a,b⟩=>⟨a,?_⟩⟩
 .by_cases c:cu (rdB l)
  .exact c
  .unfold irB at b;rw [if_neg (by rw [bL c];decide)]at b;have:=a.1;rw [<-b]at this;simp at this
 .unfold irB;rw [if_pos (aP b)];exact ai4 hl a.1 a.2.1
theorem anx{p1 f1}(U1:Y60 p1 f1){p2:List Int×Int×Unit->Bool}{f2:List Int×Int×Unit->Int×Unit}(hp2:∀b k,By b->0<=k->k+1< (b.length:Int)->b.length<1000000000->p2 (b,k,())=true)(hf2:∀b k,By b->0<=k->k+1< (b.length:Int)->b.length<1000000000->f2 (b,k,())=(((b).getD (k).toNat default)*256+((b).getD (k+1).toNat default),()))(l:List Int)(hl:By l)(hlen:l.length<1000000000):Yy.F (p1,f1,p2,f2,()) (l,()) (λy=>y=rdF l):=by
 have B:=λk:Nat=>hl.at k
 have c:∀k:Nat,IntKind.i64.wrap (l.getD k default)=l.getD k default:=λk=>by have:=B k;exact w64 ah ah
 have no:¬adS l->rdF l=(0,0,0,0,0,0,false,[],()):=λh=>by unfold rdF;rw [if_neg (by rw [bL h];decide)]
 have tm:7<=l.length->((l.length:Int)-7).tmod 6=((l.length-7)%6:Nat):=λh=>by
  rw [Int.tmod_eq_emod_of_nonneg ah];omega
 dsimp only [Yy,gm,jU];simp (disch:=omega) only [RR,c];refine⟨Or.inr (by decide),λh=> ?_,λg=> ?_⟩
 .rw [no];rintro⟨⟨g1,g2,g3⟩,_⟩;rw [tm g1]at h;omega
 obtain⟨⟨g1,g2⟩,g3⟩:=g;have l7:7<=l.length:=by omega
 rw [tm l7]at g2;have l6:(l.length-7)%6=0:=by omega
 have aqN:l.length<=295:=by omega
 refine⟨ah,ah,ah,ah,ah,ah,ah,ah,ah,ah,hp2 l 5 hl ah ah hlen,?_⟩;rw [hf2 l 5 hl ah ah hlen];refine aB (λ(y:List Int×Int×Int×Int×Int×Int×Int×Int×Int×Int×Int×Int×Int×Int×List IOp×Unit)=>y.1=l/\(∃j:Nat,y.2.1=7+6*j/\7+6*j<=l.length/\y.2.2.2.2.2.2.2.2.2.2.2.2.2.2.1=vJ l j)/\y.2.2.2.2.2.2.2.2.1=l.getD 0 default/\y.2.2.2.2.2.2.2.2.2.1=l.getD 1 default/\y.2.2.2.2.2.2.2.2.2.2.1=l.getD 2 default/\y.2.2.2.2.2.2.2.2.2.2.2.1=l.getD 3 default/\y.2.2.2.2.2.2.2.2.2.2.2.2.1=l.getD 4 default/\y.2.2.2.2.2.2.2.2.2.2.2.2.2.1=l.getD 5 default*256+l.getD 6 default) (λy=>(l.length-y.2.1).toNat) ⟨rfl,⟨0,rfl,ah,rfl⟩,rfl,rfl,rfl,rfl,rfl,rfl⟩ ?_;rintro⟨(l:List Int),(at_:Int),(z1:Int),(z2:Int),(z3:Int),(z4:Int),(z5:Int),(z6:Int),(pc:Int),(len:Int),(fin:Int),(x:Int),(y:Int),(k:Int),(ops:List IOp),⟨⟩⟩ hI;dsimp only at hI ⊢;obtain⟨rfl,⟨j,rfl,j1,rfl⟩,rfl,rfl,rfl,rfl,rfl,rfl⟩:=hI;have ol:(vJ l j).length=j:=by unfold vJ;rw [List.length_map,List.length_range]
 by_cases h:7+6*(j:Int)<l.length
 .have w:IntKind.i64.wrap (7+6*(j:Int)+3)=7+6*(j:Int)+3:=w64 ah ah;have P2:=hp2 l (7+6*(j:Int)+3) hl ah ah hlen;have H2:=hf2 l (7+6*(j:Int)+3) hl ah ah hlen;have lo:∀x:IOp,([x].length:Int)=1:=λ_=>rfl
  simp (disch:=omega) only [RR,h,c,P2,H2,lo];have es:vJ l (j+1)=vJ l j++ [rdO l (7+6*j)]:=by unfold vJ;rw [List.range_succ,List.map_append];rfl
  repeat' apply And.intro
  all_goals first | omega | exact⟨j+1,ah,ah,by rw [es];rfl⟩
 .have e:7+6*j=l.length:=by omega
  have er:(⟨l.getD 0 default,l.getD 1 default,vJ l j,l.getD 2 default,l.getD 3 default,l.getD 4 default,l.getD 5 default*256+l.getD 6 default⟩:Blk)=rdB l:=by
   unfold rdB;rw [show(l.length-7)/6=j by omega]
  have mE:∀(a1 a2:Int) (a3:List IOp) (a4 a5 a6 a7:Int),Co.mk .blk (a1,a2,a3,a4,a5,a6,a7,())=⟨a1,a2,a3,a4,a5,a6,a7⟩:=λ_ _ _ _ _ _ _=>rfl
  have ob:(rdB l).ops.length<1000000000:=by
   rw [<-er];show(vJ l j).length<_;omega
  simp (disch:=omega) only [RR,h,mE,er,U1.hp _ ob,U1.hf _ ob];refine⟨λg=> ?_,λg=> ?_⟩
  .rw [no];intro z;rw [aP ((Lm hl).1 z).2]at g;cases g
  .unfold rdF;rw [if_pos (aP ((Lm hl).2 ⟨⟨l7,l6,aqN⟩,aU.1 g⟩)),<-er]
noncomputable def mdF (b:Blk) (a:Ask):Blk×Bool:=if a.own=true then(xX b,true)else if bp (adS a.bytes)=true then(rdB a.bytes,true)else(PG,false)
theorem anz{p1 f1 p2 f2}(U1:aqC p1 f1)(U2:Y81 p2 f2)(b:Blk)(a:Ask)(h:b.ops.length<1000000)(ha:By a.bytes)(hl:a.bytes.length<1000000000):Yz.F (p1,f1,p2,f2,()) (b,a,()) (λy=>y=((mdF b a).1,(mdF b a).2,())):=by
 have mE:∀c:Blk,Co.mk .blk (c.pc,c.len,c.ops,c.fin,c.x,c.y,c.k,())=c:=λ_=>rfl
 have ak:∀a:Ask,ML .ask 0 a=a.own/\iE .ask 1 .u8 a=a.bytes:=λ_=>⟨rfl,rfl⟩
 have H1:=U1.hf a.bytes ha hl;dsimp only [Yz,gm,jU];simp (disch:=omega) only [RR,ak,mE,U1.hp _ ha hl,U2.hp _ h,U2.hf _ h];unfold mdF;refine⟨λg=>by rw [g];rfl,λg=> ?_⟩;rw [g,if_neg (by decide),H1];unfold rdF;split<;>rfl
def aaA{b:Blk}{a:Ask}(h:b.ops.length<1000000)(hl:a.bytes.length<1000000000):(mdF b a).1.ops.length<1000000:=by
 have L:=GI b;unfold mdF;split
 .dsimp only;omega
 split
 .rename_i g;have:=(aU.1 g).1;show(vJ _ _).length<_;unfold vJ;rw [List.length_map,List.length_range];omega
 .decide
noncomputable def nZ (cs:List Cer) (b:Blk) (a:Ask):Blk×List Cer:=
 if(mdF b a).2=false then(b,cs)else if bp (ZN cs b (mdF b a).1)=true then((mdF b a).1,cs)else if chk b (mdF b a).1=true then((mdF b a).1,Lh cs ⟨b,(mdF b a).1⟩)else(b,cs)
def ad5{l:List Cer}{q:Cer}(h:ShC l)(h1:q.base.ops.length<1000000)(h2:q.made.ops.length<1000000):ShC (Lh l q):=by
 unfold Lh;have:=h.1;refine⟨by rw [List.length_drop,List.length_append,List.length_singleton];omega,λc hc=> ?_⟩;have:=List.mem_of_mem_drop hc;rw [List.mem_append,List.mem_singleton]at this;rcases this with g | rfl
 .exact h.2 c g
 .exact⟨h1,h2⟩
def anA{p1 f1 p2 f2 p3 f3}(U1:aqn p1 f1)(U2:aqA p2 f2)(U3:Y96 p3 f3){p4:Blk×Ask×Unit->Bool}{f4:Blk×Ask×Unit->Blk×Bool×Unit}(hp4:∀b a,b.ops.length<1000000->By a.bytes->a.bytes.length<1000000000->p4 (b,a,())=true)(hf4:∀b a,b.ops.length<1000000->By a.bytes->a.bytes.length<1000000000->f4 (b,a,())=((mdF b a).1,(mdF b a).2,()))(e:Eng)(b:Blk)(a:Ask)(h:ShC e.aY)(hb:b.ops.length<1000000)(ha:By a.bytes)(hl:a.bytes.length<1000000000):YC.F (p1,f1,p2,f2,p3,f3,p4,f4,()) (e.au.regs,e.au.pc,e.au.mem,e.au.save,e.au.bF,e.au.waits,e.au.halt,e.au.ins,e.au.outs,e.au.count,e.cache,b,a,e.aY,()) (λy=>y=(e.au.regs,e.au.pc,e.au.mem,e.au.save,e.au.bF,e.au.waits,e.au.halt,e.au.ins,e.au.outs,e.au.count,e.cache,(nZ e.aY b a).1,(nZ e.aY b a).2,())):=by
 obtain⟨hp1,hf1⟩:=U1;obtain⟨hp2,hf2⟩:=U2;obtain⟨hp3,hf3⟩:=U3;have M:=aaA (a:=a) hb hl;have H4:=hf4 b a hb ha hl;unfold nZ;generalize hm:mdF b a=d at*;have P3:=hp3 b d.1 ah ah;have H3:=hf3 b d.1 ah ah;have P1:=hp1 _ b d.1 h;have H1:=hf1 _ b d.1 h;have P2:=hp2 e.aY ⟨b,d.1⟩ h hb M;have H2:=hf2 e.aY ⟨b,d.1⟩ h hb M;have H2:(f2 (e.aY,⟨b,d.1⟩,())).1=Lh e.aY ⟨b,d.1⟩:=by rw [H2]
 dsimp only [YC,gm,jU,oH];simp (disch:=omega) only [RR,RB,hp4 b a hb ha hl,H4,P1,H1,P3,H3];refine⟨λg=>by rw [if_pos g],λg=>⟨λk=>by rw [if_neg (by rw [g];decide),if_pos k],λk=>⟨λz=>by rw [if_neg (by rw [g];decide),if_neg (by rw [k];decide),if_neg (by rw [z];decide)],λz=>⟨P2,by
  rw [if_neg (by rw [g];decide),if_neg (by rw [k];decide),if_pos z];show(_,_,_,_,_,_,_,_,_,_,_,_,(f2 (e.aY,⟨b,d.1⟩,())).1,())=_;rw [H2]⟩⟩⟩⟩
def Te{cs:List Cer}{b:Blk}{a:Ask}(h:ShC cs)(hb:b.ops.length<1000000)(hl:a.bytes.length<1000000000):(nZ cs b a).1.ops.length<1000000/\ShC (nZ cs b a).2:=by
 have M:=aaA (a:=a) hb hl;unfold nZ;split
 .exact⟨hb,h⟩
 split
 .exact⟨M,h⟩
 split
 .exact⟨M,ad5 h hb M⟩
 .exact⟨hb,h⟩
def Lp(pc:Int)(l:List Ins):(lower pc l).pc<=1000000:=by
 by_cases h:nG pc l
 .have:=(mg h).pc;have:=(mg h).ln;omega
 .unfold lower;rw [if_neg (by rw [bL h];decide)];decide
def ad6{cs:List Cer}{b:Blk}{a:Ask}(h:K6 cs):(nZ cs b a).1=b\/chk b (nZ cs b a).1=true:=by
 unfold nZ;split
 .exact Or.inl rfl
 split
 .rename_i g;obtain⟨q,hq,q1,q2⟩:=aU.1 g;refine Or.inr ?_;have:=h.2 q hq;rw [q1,q2]at this;exact this
 split
 .rename_i g;exact Or.inr g
 .exact Or.inl rfl
def Jq{l:List Cac}{e:Cac}(h:ShK l)(h1:e.words.length<1000)(h2:e.blk.ops.length<1000000)(h3:e.blk.pc<=1000000):ShK (jJ l e)/\0< (jJ l e).length:=by
 unfold jJ;have fl:=List.length_filter_le (neP e.blk.pc) l;refine⟨⟨by rw [List.length_drop,List.length_append,List.length_singleton];omega,λc hc=> ?_⟩,by rw [List.length_drop,List.length_append,List.length_singleton];omega⟩;have:=List.mem_of_mem_drop hc;rw [List.mem_append,List.mem_singleton]at this;rcases this with g | rfl
 .exact h.2 c (List.mem_filter.1 g).1
 .exact⟨h1,h2,h3⟩
def fcI(l:List Cac)(pc:Int):Int:=match l.findIdx? (λx=>decide (x.blk.pc=pc))with | some i=>i | none=> -1
def aaB(l:List Cac)(pc:Int):FC l pc (fcI l pc):=by
 unfold fcI;split
 .rename_i i h;obtain⟨h1,h2,h3⟩:=List.findIdx?_eq_some_iff_getElem.1 h;refine Or.inr ⟨ah,ah,?_,λj j0 j1=> ?_⟩
  .rw [Int.toNat_natCast,getD_lt h1];simpa using h2
  .rw [getD_lt ah];simpa using h3 j.toNat ah
 .rename_i h;rw [List.findIdx?_eq_none_iff]at h;refine Or.inl ⟨rfl,λj j0 j1=> ?_⟩;rw [getD_lt ah];simpa using h _ (List.getElem_mem ah)
noncomputable def eF (e:Eng) (a:Ask):Eng×Int×Bool:=
 if 0<=fcI e.cache e.au.pc then(e,fcI e.cache e.au.pc,false)else if(findF e.au).length=0 then(e, -1,false)else
  (⟨e.au,jJ e.cache ⟨(findF e.au).map kD,(nZ e.aY (lower e.au.pc (findF e.au)) a).1⟩,(nZ e.aY (lower e.au.pc (findF e.au)) a).2⟩,((jJ e.cache ⟨(findF e.au).map kD,(nZ e.aY (lower e.au.pc (findF e.au)) a).1⟩).length:Int)-1,true)
structure anB(pp:aG×Unit->Bool)(ff:aG×Unit->List Ins×Unit):Prop where
 hp:∀m,MSh m->pp (m,())=true
 hf:∀m,MSh m->ff (m,())=(findF m,())
structure aqO(pp:List Cac×Cac×Unit->Bool)(ff:List Cac×Cac×Unit->List Cac×Unit):Prop where
 hp:∀l e,ShK l->e.words.length<1000->e.blk.ops.length<1000000->pp (l,e,())=true
 hf:∀l e,ShK l->e.words.length<1000->e.blk.ops.length<1000000->ff (l,e,())=(jJ l e,())
theorem anC{p1 f1 p2 f2 p3 f3 p4 f4 p5 f5}(U1:anB p1 f1)(U2:aas p2 f2)(U3:aiU p3 f3)(U4:aqM p4 f4)(U5:aqO p5 f5){p6:List Int×Int×List Int×Int×Bool×Bool×Int×List Int×List Int×Int×List Cac×Blk×Ask×List Cer×Unit->Bool}{f6:List Int×Int×List Int×Int×Bool×Bool×Int×List Int×List Int×Int×List Cac×Blk×Ask×List Cer×Unit->List Int×Int×List Int×Int×Bool×Bool×Int×List Int×List Int×Int×List Cac×Blk×List Cer×Unit}(hp6:∀(e:Eng) (b:Blk) (a:Ask),ShC e.aY->b.ops.length<1000000->By a.bytes->a.bytes.length<1000000000->p6 (e.au.regs,e.au.pc,e.au.mem,e.au.save,e.au.bF,e.au.waits,e.au.halt,e.au.ins,e.au.outs,e.au.count,e.cache,b,a,e.aY,())=true)(hf6:∀(e:Eng) (b:Blk) (a:Ask),ShC e.aY->b.ops.length<1000000->By a.bytes->a.bytes.length<1000000000->f6 (e.au.regs,e.au.pc,e.au.mem,e.au.save,e.au.bF,e.au.waits,e.au.halt,e.au.ins,e.au.outs,e.au.count,e.cache,b,a,e.aY,())=(e.au.regs,e.au.pc,e.au.mem,e.au.save,e.au.bF,e.au.waits,e.au.halt,e.au.ins,e.au.outs,e.au.count,e.cache,(nZ e.aY b a).1,(nZ e.aY b a).2,()))(e:Eng)(a:Ask)(h1:MSh e.au)(h2:ShK e.cache)(h3:ShC e.aY)(ha:By a.bytes)(hl:a.bytes.length<1000000000):YD.F (p1,f1,p2,f2,p3,f3,p4,f4,p5,f5,p6,f6,()) (e.au.regs,e.au.pc,e.au.mem,e.au.save,e.au.bF,e.au.waits,e.au.halt,e.au.ins,e.au.outs,e.au.count,e.cache,a,e.aY,()) (λy=>y=((eF e a).1.au.regs,(eF e a).1.au.pc,(eF e a).1.au.mem,(eF e a).1.au.save,(eF e a).1.au.bF,(eF e a).1.au.waits,(eF e a).1.au.halt,(eF e a).1.au.ins,(eF e a).1.au.outs,(eF e a).1.au.count,(eF e a).1.cache,(eF e a).2.1,(eF e a).2.2,(eF e a).1.aY,())):=by
 obtain⟨hp1,hf1⟩:=U1;obtain⟨hp2,hf2⟩:=U2;obtain⟨hp3,hf3⟩:=U3;obtain⟨hp4,hf4⟩:=U4;obtain⟨hp5,hf5⟩:=U5;have mM:=MKM;have mE:∀c:Blk,Co.mk .blk (c.pc,c.len,c.ops,c.fin,c.x,c.y,c.k,())=c:=λ_=>rfl
 have l2:=h2.1;have P4:=hp4 e.cache e.au.pc ah;have H4:(f4 (e.cache,e.au.pc,())).1=fcI e.cache e.au.pc:=FC.one (hf4 e.cache e.au.pc ah) (aaB _ _);have B:=E5 e.au;have P1:=hp1 _ h1;have H1:=hf1 _ h1;unfold eF;generalize fcI e.cache e.au.pc=k at*;generalize findF e.au=l at*;have P2:=hp2 e.au.pc l ah;have H2:=hf2 e.au.pc l ah;have lw:((lower e.au.pc l).ops.length:Int)<=5000:=by have:=Jo H2;rw [H2]at this;exact this
 generalize lower e.au.pc l=b at*;have P6:=hp6 e b a h3 ah ha hl;have H6:=hf6 e b a h3 ah ha hl;have A:=Te (a:=a) h3 (show b.ops.length<1000000 by omega) hl;generalize nZ e.aY b a=z at*;have P3:=hp3 l ah;have H3:=hf3 l ah;have wl:(l.map kD).length<1000:=by rw [List.length_map];omega
 have P5:=hp5 e.cache ⟨l.map kD,z.1⟩ h2 wl A.1;have H5:=hf5 e.cache ⟨l.map kD,z.1⟩ h2 wl A.1;have kl:(jJ e.cache ⟨l.map kD,z.1⟩).length<=e.cache.length+1:=by
  unfold jJ;have fl:=List.length_filter_le (neP z.1.pc) e.cache;rw [List.length_drop,List.length_append,List.length_singleton];dsimp only;omega
 have mK:Co.mk .cac (l.map kD,z.1.pc,z.1.len,z.1.ops,z.1.fin,z.1.x,z.1.y,z.1.k,())=(⟨l.map kD,z.1⟩:Cac):=rfl;dsimp only [YD,gm,jU,oH]at*;simp (disch:=omega) only [RR,RB,mM,P4,H4,P1,H1,P2,H2,mE,P6,H6,P3,H3,mK,P5,H5];refine⟨λn=>by rw [if_pos n],λn=>⟨λg=>by rw [if_neg ah,if_pos ah],λg=> ?_⟩⟩;rw [if_neg ah,if_neg ah]
theorem aft(n:Int)(b:List Int)(h0:0<=n)(h1:n<=1000000)(hb:b.length<1000000000):YG.F () (n,b,()) (λy=>y=(b++ [n/256%256,n%256],())):=by
 have m8:∀x:Int,Co.mk .u8 (x,())=x:=λ_=>rfl
 dsimp only [YG,gm];simp (disch:=omega) only [RR,m8,u8w];rw [Int.tmod_eq_emod_of_nonneg h0,Int.tdiv_eq_ediv_of_nonneg h0,w64 ah ah,Int.emod_emod];exact⟨by decide,by decide,by simp only [List.length_cons,List.length_nil];omega,rfl⟩
def aqP{b:Blk}(h:cu b):0<=b.k/\b.k<=1000000:=by
 have:=h.en.k1;have:=h.en.k0;omega
def opk{ops:List IOp}{n i:Int}{o:IOp}(h:lC ops n i o):0<=o.k/\o.k<=1000000:=by
 have:=h.kd;have:=h.k1;have:=h.k2;have:=h.k3;have:=h.k0;omega
theorem anD{p1 f1}(U1:Y60 p1 f1){p2:Int×List Int×Unit->Bool}{f2:Int×List Int×Unit->List Int×Unit}(hp2:∀n b,0<=n->n<=1000000->b.length<1000000000->p2 (n,b,())=true)(hf2:∀n b,0<=n->n<=1000000->b.length<1000000000->f2 (n,b,())=(b++ [n/256%256,n%256],()))(b:Blk)(hb:b.ops.length<1000000000):YH.F (p1,f1,p2,f2,()) (b,()) (λy=>y=(irB b,())):=by
 have m8:∀x:Int,Co.mk .u8 (x,())=x:=λ_=>rfl
 dsimp only [YH,gm];simp (disch:=omega) only [RR,RB,U1.hp b hb,U1.hf b hb,m8,u8w];refine⟨λh=>by unfold irB;rw [h];rfl,λh=> ?_⟩;have ok:=aU.1 h;have sz:=ok.sz;have kk:=aqP ok;rw [hp2 _ _ kk.1 kk.2 (by simp only [List.length_cons,List.length_nil];omega),hf2 _ _ kk.1 kk.2 (by simp only [List.length_cons,List.length_nil];omega)];refine⟨rfl,?_⟩;refine aB (λ(y:Int×Blk×List Int×Unit)=>y.2.1=b/\0<=y.1/\y.1<=b.ops.length/\y.2.2.1=[b.pc%256,b.len%256,b.fin%256,b.x%256,b.y%256,b.k/256%256,b.k%256]++(b.ops.take y.1.toNat).flatMap opB) (λy=>(b.ops.length-y.1).toNat) ⟨rfl,by simp,by simp,by simp⟩ ?_;rintro⟨(i:Int),(c:Blk),(acc:List Int),⟨⟩⟩ hI;dsimp only at hI ⊢;obtain⟨rfl,h1,h2,h3⟩:=hI;have al:acc.length<=1000:=by
  rw [h3,List.length_append,zo];have:=List.length_take_le' i.toNat c.ops;simp only [List.length_cons,List.length_nil];omega
 refine⟨λg=> ?_,λg=> ?_⟩
 .have ko:=opk (ok.op i h1 g);rw [hp2 _ _ ko.1 ko.2 (by simp only [List.length_append,List.length_cons,List.length_nil];omega),hf2 _ _ ko.1 ko.2 (by simp only [List.length_append,List.length_cons,List.length_nil];omega)];simp (disch:=omega) only [RR,List.length_append,List.length_cons,List.length_nil];refine⟨h1,g,ah,ah,⟨ah,ah,?_⟩,ah⟩;rw [h3,show(i+1).toNat=i.toNat+1 by omega,List.take_succ_eq_append_getElem ah,List.flatMap_append,getD_lt (show i.toNat<c.ops.length by omega)];simp only [List.append_assoc];rfl
 .rw [h3,List.take_of_length_le ah];unfold irB;rw [h];rfl
structure TuD(b l:List Int)(p:Int)(y:List Int×Int×List Int×Unit):Prop where
 b:y.1=b
 p:p<=y.2.1/\y.2.1<=p+20
 l:By y.2.2.1/\y.2.2.1.length<=l.length+1
theorem ai5{p1 f1}(U1:Y38 p1 f1)(l:List Int)(b:List Int)(p:Int)(hl:By l)(h:l.length<100000000)(hb:Bt b)(h1:0<=p)(h2:p<900000000):Ph.F (p1,f1,()) (l,b,p,()) (λy=>TuD b l p y):=by
 obtain⟨hp1,hf1⟩:=U1;have m8:∀x:Int,Co.mk .u8 (x,())=x:=λ_=>rfl
 dsimp only [Ph,gm];have R:=pkR hb hf1;have P:=λn p h1 h2=>hp1 n b p hb h1 h2
 have f0:=hf1 256 b p hb h1 ah;have f1':=hf1 256 b (p+1) hb ah ah;simp (disch:=omega) only [RR,m8,u8w,R,P];have g0:=f0.2.2;have g1:=f1'.2.2;generalize (f1 (256,b,p,())).1=u at*;generalize (f1 (256,b,p+1,())).1=v at*;have w1:IntKind.i64.wrap (u*256)=u*256:=w64 ah ah;have w2:IntKind.i64.wrap (u*256+v)=u*256+v:=w64 ah ah;rw [w1,w2];refine⟨λ_=>⟨rfl,⟨by dsimp only;omega,by dsimp only;omega⟩,λx hx=> ?_,by simp⟩,λn=>⟨n,?_⟩⟩
 .dsimp only at hx;rw [List.mem_singleton]at hx;omega
 have k0:0<=(u*256+v).tmod l.length:=Int.tmod_nonneg _ ah;have k1:(u*256+v).tmod l.length<l.length:=Int.tmod_lt_of_pos _ ah;generalize (u*256+v).tmod l.length=k at*;have tk:∀x∈l.take k.toNat,0<=x/\x<=255:=λx hx=>hl x (List.mem_of_mem_take hx)
 have w3:IntKind.i64.wrap (k+1)=k+1:=w64 ah ah;rw [w3];simp only [List.length_append,List.length_drop,List.length_take,List.length_nil,List.length_cons,Int.toNat_zero,List.drop_zero,List.nil_append,Int.toNat_natCast,List.take_length];have dk:∀j,∀x∈l.drop j,0<=x/\x<=255:=λj x hx=>hl x (List.mem_of_mem_drop hx)
 have g2:=(hf1 2 b (p+1+1+1+1+1) hb ah ah).2.2;refine⟨λ_=>⟨ah,ah,ah,ah,ah,ah,ah,ah,ah,⟨rfl,⟨by dsimp only;omega,by dsimp only;omega⟩,λx hx=> ?_,?_⟩⟩,λ_=>⟨λ_=>⟨ah,ah,ah,ah,ah,ah,ah,ah,ah,ah,⟨rfl,⟨by dsimp only;omega,by dsimp only;omega⟩,λx hx=> ?_,?_⟩⟩,λ_=>⟨ah,ah,ah,ah,ah,ah,ah,⟨rfl,⟨by dsimp only;omega,by dsimp only;omega⟩,λx hx=> ?_,?_⟩⟩⟩⟩
 .rcases List.mem_append.1 hx with g | g
  .exact tk x g
  .exact dk _ x g
 .dsimp only;rw [List.length_append,List.length_take,List.length_drop];omega
 .rcases List.mem_append.1 hx with g | g
  .rcases List.mem_append.1 g with g | g
   .exact tk x g
   .rw [List.mem_singleton]at g;omega
  .exact dk _ x g
 .dsimp only;rw [List.length_append,List.length_append,List.length_take,List.length_drop,List.length_singleton];omega
 .rcases List.mem_or_eq_of_mem_set hx with g | g
  .exact hl x g
  .omega
 .dsimp only;rw [List.length_set];omega
structure AsD(b:List Int)(p:Int)(y:Bool×List Int×Int×List Int×Unit):Prop where
 b:y.2.1=b
 p:p<=y.2.2.1/\y.2.2.1<=p+2000000
 l:By y.2.2.2.1/\y.2.2.2.1.length<200000000
def CF{b:Blk}(h:b.ops.length<=1000000):(irB b).length<100000000:=by
 unfold irB;split
 .unfold Jj;rw [List.length_append,zo];simp only [List.length_cons,List.length_nil];omega
 .simp
theorem ai6{p1 f1 p2 f2 p3 f3 p4 f4 p5 f5 p6 f6 p7 f7 p8 f8}(U1:anB p1 f1)(U2:aas p2 f2)(U3:aqB p3 f3)(U4:Y81 p4 f4)(U5:Y38 p5 f5)(U6:Y83 p6 f6)(U7:Y84 p7 f7)(U8:Y86 p8 f8){p9:List Int×List Int×Int×Unit->Bool}{f9:List Int×List Int×Int×Unit->List Int×Int×List Int×Unit}(hp9:∀l b p,By l->l.length<100000000->Bt b->0<=p->p<900000000->p9 (l,b,p,())=true)(hf9:∀l b p,By l->l.length<100000000->Bt b->0<=p->p<900000000->TuD b l p (f9 (l,b,p,())))(m:aG)(b:List Int)(p:Int)(h:MSh m)(hb:Bt b)(h1:0<=p)(h2:p<500000000):IU.F (p1,f1,p2,f2,p3,f3,p4,f4,p5,f5,p6,f6,p7,f7,p8,f8,p9,f9,()) (m,b,p,()) (λ(y:Bool×List Int×Int×List Int×Unit)=>AsD b p y):=by
 obtain⟨hp1,hf1⟩:=U1;obtain⟨hp2,hf2⟩:=U2;obtain⟨hp3,hf3⟩:=U3;obtain⟨hp4,hf4⟩:=U4;obtain⟨hp5,hf5⟩:=U5;obtain⟨hp6,hf6⟩:=U6;obtain⟨hp7,hf7⟩:=U7;obtain⟨hp8,hf8⟩:=U8;have m8:∀x:Int,Co.mk .u8 (x,())=x:=λ_=>rfl
 have mE:∀c:Blk,Co.mk .blk (c.pc,c.len,c.ops,c.fin,c.x,c.y,c.k,())=c:=λ_=>rfl
 have R:=pkR hb hf5;have P:=λn p h1 h2=>hp5 n b p hb h1 h2
 have P1:=hp1 m h;have hL:=hf1 m h;have B:=E5 m;have no:AsD b p (true,b,p+1,[],()):=⟨rfl,⟨by dsimp only;omega,by dsimp only;omega⟩,λx hx=>(by cases hx),by simp⟩;generalize findF m=l at*;by_cases n:0<l.length
 .have ir:=mg (B.2 n).2;have sz:=ir.sz;have P2:=hp2 m.pc l ah;have H2:=hf2 m.pc l ah;generalize lower m.pc l=c at*;have P4:=hp4 c ah;have H4:=hf4 c ah;have lk:=(UN ir).oc;have sz2:=lk.sz;generalize xX c=d at*;dsimp only [IU,gm,oH,jU];simp (disch:=omega) only [RR,m8,u8w,MRB,R,P,P1,hL,P2,H2,mE,P4,H4];have W:∀(z:Int×Int×Int×Int×Int×Int×List Int×Int×List IOp×Unit) (M:Int) (N:Nat) (q:Int),BkD M N b q z->N<=1000000->M<=1000000->p<=q->q<=p+2->p3 (Co.mk .blk (z.1,z.2.1,z.2.2.2.2.2.2.2.2.1,z.2.2.1,z.2.2.2.1,z.2.2.2.2.1,z.2.2.2.2.2.1,()),())=true/\AsD b p (false,z.2.2.2.2.2.2.1,z.2.2.2.2.2.2.2.1,(f3 (Co.mk .blk (z.1,z.2.1,z.2.2.2.2.2.2.2.2.1,z.2.2.1,z.2.2.2.1,z.2.2.2.2.1,z.2.2.2.2.2.1,()),())).1,()):=by
   intro z M N q D a1 a2 a3 a4;have d1:=D.len;have d2:=D.lo;have d3:=D.hi;have K:z.2.2.2.2.2.2.2.2.1.length<1000000000:=by omega
   have e:=hf3 (Co.mk .blk (z.1,z.2.1,z.2.2.2.2.2.2.2.2.1,z.2.2.1,z.2.2.2.1,z.2.2.2.2.1,z.2.2.2.2.2.1,())) K;refine⟨hp3 _ K,D.b,⟨by dsimp only;omega,by dsimp only;omega⟩,?_⟩;dsimp only;rw [e];exact⟨Jk _,Nat.lt_of_lt_of_le (CF (show z.2.2.2.2.2.2.2.2.1.length<=1000000 by omega)) (by decide)⟩
  have c3:=hp3 c ah;have k3:=hf3 c ah;have d3:=hp3 d ah;have j3:=hf3 d ah;have T:=hf9 (irB c) b (p+1+1) (Jk c) (CF ah) hb ah ah;rw [k3,j3];have tl:=CF (b:=c) ah;have T1:=T.p;have T2:=T.l;refine⟨λ_=>no,λ_=>⟨λ_=>⟨hp8 d b _ lk ah hb ah ah,W _ _ _ _ (hf8 d b (p+1+1) lk ah hb ah ah) ah ah ah ah⟩,λ_=>⟨λ_=>⟨hp6 c b _ ah hb ah ah,W _ _ _ _ (hf6 c b (p+1+1) ah hb ah ah).1 ah ah ah ah⟩,λ_=>⟨λ_=>⟨hp6 d b _ ah hb ah ah,W _ _ _ _ (hf6 d b (p+1+1) ah hb ah ah).1 ah ah ah ah⟩,λ_=>⟨λ_=>⟨c3,hp9 _ b _ (Jk c) tl hb ah ah,T.b,⟨by dsimp only;omega,by dsimp only;omega⟩,T2.1,by dsimp only;omega⟩,λ_=>⟨λ_=>⟨hp7 b _ hb ah ah,W _ _ _ _ (hf7 b (p+1+1) hb ah ah) ah ah ah ah⟩,λ_=>⟨λ_=>⟨rfl,⟨by dsimp only;omega,by dsimp only;omega⟩,λx hx=> ?_,by simp⟩,λ_=>⟨d3,rfl,⟨by dsimp only;omega,by dsimp only;omega⟩,Jk d,Nat.lt_of_lt_of_le (CF ah) (by decide)⟩⟩⟩⟩⟩⟩⟩⟩;dsimp only at hx;rw [List.mem_singleton]at hx;omega
 .dsimp only [IU,gm,oH,jU];simp (disch:=omega) only [RR,m8,u8w,MRB,R,P,P1,hL];exact⟨λ_=>no,λg=>absurd (Int.natCast_eq_zero.2 ah) g.2⟩
structure SJ(b:Blk)(m0:aG)(i:Nat)(S:MS):Prop where
 r:RJ b m0 i S
 p:S.m.pc=m0.pc
 h:S.m.halt=m0.halt
 c:S.m.count=m0.count
abbrev yS(b : Blk)(i : Int)(S : MS) : Int × Blk × Int × Int × Bool × Bool × Int × Int × Int × Int × Bool × Bool × Int × List Int × Int × List Int × List Int × List Int × List Int × Unit := (i, b, 0, 0, false, false, 0, 0, S.m.pc, S.m.save, S.m.bF, S.m.waits, S.m.halt, S.m.ins, S.m.count, S.vals, S.m.regs, S.m.mem, S.m.outs, ())
abbrev anE(z : aG × Bool) : Int × Int × Bool × Bool × Int × List Int × Int × Bool × List Int × List Int × List Int × Unit := (z.1.pc, z.1.save, z.1.bF, z.1.waits, z.1.halt, z.1.ins, z.1.count, z.2, z.1.regs, z.1.mem, z.1.outs, ())
def SIv(b:Blk)(m0:aG)(y:Int×Blk×Int×Int×Bool×Bool×Int×Int×Int×Int×Bool×Bool×Int×List Int×Int×List Int×List Int×List Int×List Int×Unit):Prop:=∃(i:Nat) (S:MS),i<=b.ops.length/\SJ b m0 i S/\y=yS b i S
def SIv.next{b:Blk}{m0:aG}{i:Nat}{S:MS}{o:IOp}{y:Int×Blk×Int×Int×Bool×Bool×Int×Int×Int×Int×Bool×Bool×Int×List Int×Int×List Int×List Int×List Int×List Int×Unit}(h:SJ b m0 i S)(hi:i<b.ops.length)(ho:b.ops.getD i default=o)(k1:o.kind=1->0<=o.k/\o.k<=65535)
  (c1:¬((o.kind=4\/o.kind=5)/\64<=vx S o)) (c2:¬(o.kind=5/\b.pc+o.at_+1<=vx S o/\vx S o<=b.pc+b.len-1))
  (e:y=yS b ((i:Int)+1) ⟨mM S o,S.vals++ [mV S o],false⟩):SIv b m0 y/\(b.ops.length-y.1).toNat< (b.ops.length- (i:Int)).toNat:=by
 subst e;have k:=ad2 (s:=S) o;exact⟨⟨i+1,_,hi,⟨h.r.next hi ho k1 c1 c2,k.1.trans h.p,k.2.1.trans h.h,k.2.2.trans h.c⟩,rfl⟩,by dsimp only;omega⟩
def aaC{b:Blk}{m:aG}(h1:cu b)(h2:MOK m)(h:¬(m.halt≠0\/m.pc≠b.pc\/1000000-b.len<m.count)):oU b m=(Qf b (b.ops.foldl (fO b) ⟨m,[],false⟩),true):=by
 unfold oU;rw [if_pos (aP ⟨h1,h2⟩),if_neg h]
set_option maxHeartbeats 4000000 in
theorem anF{p1 f1 p2 f2 p3 f3 p4 f4}(U1:Y60 p1 f1)(U2:UY p2 f2)(U3:aaf p3 f3)(U4:aqK p4 f4){p5:Int×Int×Bool×Bool×Int×List Int×Int×Blk×IOp×Int×Int×List Int×List Int×List Int×Unit->Bool}{f5:Int×Int×Bool×Bool×Int×List Int×Int×Blk×IOp×Int×Int×List Int×List Int×List Int×Unit->Int×Int×Bool×Bool×Int×List Int×Int×Int×Bool×List Int×List Int×List Int×Unit}(hp5:∀(m:aG) (b:Blk) (o:IOp) (x y:Int),m.mem.length=64->0<=x->m.ins.length<1000000000->m.outs.length<900000000->0<=m.count/\m.count<=1000000->0<=o.at_/\o.at_<=100-> -1000<=b.pc/\b.pc<=1000000-> -1000<=b.len/\b.len<=1000000->p5 (m.pc,m.save,m.bF,m.waits,m.halt,m.ins,m.count,b,o,x,y,m.regs,m.mem,m.outs,())=true)(hf5:∀(m:aG) (b:Blk) (o:IOp) (x y:Int),m.mem.length=64->0<=x->m.ins.length<1000000000->m.outs.length<900000000->0<=m.count/\m.count<=1000000->0<=o.at_/\o.at_<=100-> -1000<=b.pc/\b.pc<=1000000-> -1000<=b.len/\b.len<=1000000->f5 (m.pc,m.save,m.bF,m.waits,m.halt,m.ins,m.count,b,o,x,y,m.regs,m.mem,m.outs,())=ai2 (evR m b o x y)){p6:Blk×List Int×Unit->Bool}{f6:Blk×List Int×Unit->Int×Unit}(hp6:∀(b:Blk) (v:List Int), -1000<=b.pc/\b.pc<=1000000-> -1000<=b.len/\b.len<=1000000->(b.fin≠1->0<=b.x/\b.x<v.length)->(3<=b.fin->0<=b.y/\b.y<v.length)->p6 (b,v,())=true)(hf6:∀(b:Blk) (v:List Int), -1000<=b.pc/\b.pc<=1000000-> -1000<=b.len/\b.len<=1000000->(b.fin≠1->0<=b.x/\b.x<v.length)->(3<=b.fin->0<=b.y/\b.y<v.length)->f6 (b,v,())=(goS b v,())){p7:aG×IOp×Int×Int×Unit->Bool}{f7:aG×IOp×Int×Int×Unit->Int×Unit}(hp7:∀(m:aG) (o:IOp) (x y:Int),(o.kind=2->0<=o.k/\o.k<m.regs.length)->p7 (m,o,x,y,())=true)(hf7:∀(m:aG) (o:IOp) (x y:Int),(o.kind=2->0<=o.k/\o.k<m.regs.length)->f7 (m,o,x,y,())=(if o.kind=1 then o.k else if o.kind=2 then((m.regs).getD (o.k).toNat default)else if o.kind=3 then wdo o.k x y else 0,()))(b:Blk)(m:aG)(hs:MSh m)(hb:b.ops.length<1000000000)(ho:m.outs.length<800000000):YE.F (p1,f1,p2,f2,p3,f3,p4,f4,p5,f5,p6,f6,p7,f7,()) (b,m,()) (λy=>y=anE (oU b m)):=by
 obtain⟨hp1,hf1⟩:=U1;obtain⟨hp2,hf2⟩:=U2;obtain⟨hp3,hf3⟩:=U3;obtain⟨hp4,hf4⟩:=U4;unfold m10 at hf3;unfold ai2 at hf5;have mM':=MKM;dsimp only [YE,gm,oH,jU];simp (disch:=omega) only [RR,RB,MRB,hp1 b hb,hf1 b hb,hp2 m hs,hf2 m hs,hp3 m hs,hf3 m hs];refine⟨λg=> ?_,λg=> ?_⟩
 .unfold oU;rw [if_neg]
  .rfl
  .intro z;have z:=aU.1 z;rw [aP z.1,aP z.2]at g;rcases g with g | g<;>cases g
 have c1:=aU.1 g.1;have c2:=aU.1 g.2;have bl:=c1.ln;have cw:=c2.ct;have sz:=c1.sz;have bp':=c1.pc;have en:=c1.en;have w0:IntKind.i64.wrap (1000000-b.len)=1000000-b.len:=w64 ah ah;rw [w0];refine⟨λh=> ?_,λh=> ?_⟩
 .unfold oU;rw [if_pos (aP ⟨c1,c2⟩),if_pos (show m.halt≠0\/m.pc≠b.pc\/1000000-b.len<m.count by omega)]
 have st:¬(m.halt≠0\/m.pc≠b.pc\/1000000-b.len<m.count):=by omega
 rw [aaC c1 c2 st];refine aB (SIv b m) (λy=>(b.ops.length-y.1).toNat) ⟨0,⟨m,[],false⟩,Nat.zero_le _,⟨⟨rfl,rfl,rfl,(by intro n hn;cases hn),c2,hs.2.2.1,Nat.le_add_right _ _⟩,rfl,rfl,rfl⟩,rfl⟩ ?_;rintro y ⟨i,S,hi,J,rfl⟩;dsimp only;have R:=J.r;have ok:=R.ok;have ln:=R.ln;have Jp:=J.p;have Jh:=J.h;have Jc:=J.c;by_cases h7:(i:Int)<b.ops.length
 case neg=>
  have ei:i=b.ops.length:=by omega
  have eS:b.ops.foldl (fO b) ⟨m,[],false⟩=S:=by rw [R.e,ei];unfold SM;rw [List.take_of_length_le (Nat.le_refl _)]
  have x1:=en.x1;have y1:=en.y1;unfold Vl at x1 y1;have hf:=en.f;have hx:b.fin≠1->0<=b.x/\b.x<S.vals.length:=λz=>by have:=x1 ah;omega
  have hy:3<=b.fin->0<=b.y/\b.y<S.vals.length:=λz=>by have:=y1 ah;omega
  have P6:=hp6 b S.vals ah ah hx hy;have H6:=hf6 b S.vals ah ah hx hy;simp (disch:=omega) only [RR,h7,RB,P6,H6];rw [eS];unfold Qf;rw [R.lf,if_neg (by decide)];have wx:=R.wv.at b.x;have wy:=R.wv.at b.y;unfold Wo at wx wy;have eg:goS b S.vals=if b.fin=1 then b.k else if b.fin=2 then((S.vals).getD (b.x).toNat default)else if Jl (b.fin-2) ((S.vals).getD (b.x).toNat default) ((S.vals).getD (b.y).toNat default)=true then b.k else b.pc+b.len:=by
   unfold goS;have ix:=dF.2 wx;have iy:=dF.2 wy;rcases(by omega:b.fin=1\/b.fin=2\/b.fin=3\/b.fin=4)with f | f | f | f
   all_goals simp only [f,Int.reduceEq,if_false,if_true,true_and,false_and,Int.reduceSub,aad,aae,ix,iy,Bool.true_and,decide_eq_true_eq]
  rw [eg]
 have hop:=c1.op i ah ah;have eT:((i:Int)).toNat=i:=rfl;generalize hq:((b.ops).getD ((i:Int)).toNat default)=o at*;rw [eT]at hq;have kd:=hop.kd;have x1:=hop.x1;have y1:=hop.y1;unfold Vl at x1 y1;have k1:=hop.k1;have k2:=hop.k2;have k3:=hop.k3;have a1:=hop.a1;have a0:=hop.a0;have m64:=ok.m64;have r4:=ok.r4;have lo:=R.lo;have li:=R.li;have nx:=λ{y} c1 c2 e=>SIv.next (y:=y) J ah hq k1 c1 c2 e
 have lv:∀mm:aG,fO b S o=⟨mm,S.vals,true⟩->b.ops.foldl (fO b) ⟨m,[],false⟩=⟨mm,S.vals,true⟩:=λmm h=>adU (i:=i+1) (by rw [SL ah,<-R.e,hq];exact h)
 have X0:0<=o.x:=by
  by_cases h:hX o
  .have:=x1 h;omega
  .have:=hop.x0 h;omega
 have Y0:0<=o.y:=by
  by_cases h:hY o
  .have:=y1 h;omega
  .have:=hop.y0 h;omega
 have A4:∀k:Int,0<=k->f4 (S.vals,k,())=(vI S.vals k,()):=λk h=>by rw [hf4,if_neg ah]
 have wV:∀k:Int,Wo (vI S.vals k):=λk=>by
  unfold vI;split
  .exact R.wv.at _
  .exact wo0
 have ex:hX o->vI S.vals o.x=vx S o:=λh=>by
  have:=x1 h;unfold vx vI;rw [if_pos ah,if_pos h]
 have ey:hY o->vI S.vals o.y=vy S o:=λh=>by
  have:=y1 h;unfold vy vI;rw [if_pos ah,if_pos h]
 have wx:=wV o.x;have wy:=wV o.y;have F4x:=A4 o.x X0;have F4y:=A4 o.y Y0;generalize vI S.vals o.x=X at*;generalize vI S.vals o.y=Y at*;have ln':S.vals.length<1000:=by omega
 have cl:∀v:Int,(([v]:List Int).length:Int)=1:=λ_=>rfl
 have EV:evO o->p5 (S.m.pc,S.m.save,S.m.bF,S.m.waits,S.m.halt,S.m.ins,S.m.count,b,o,X,Y,S.m.regs,S.m.mem,S.m.outs,())=true:=λz=>by
  have:=a1 z;exact hp5 S.m b o X Y m64 wx.1 li ah ok.ct ah ah ah
 have EW:=λz:evO o=>hf5 S.m b o X Y m64 wx.1 li ah ok.ct (by have:=a1 z;omega) ah ah
 have EL:∀(mm:aG) (n h:Int),mm.pc=b.pc->lvS mm b n h=leave mm n h:=λmm n h e=>by unfold lvS leave;rw [e]
 have Sp:S.m.pc=b.pc:=by omega
 have Sh:S.m.halt=0:=by omega
 rcases(by omega:o.kind=1\/o.kind=2\/o.kind=3\/o.kind=4\/o.kind=5\/o.kind=6\/o.kind=7\/o.kind=8)with k | k | k | k | k | k | k | k
 .have P7:=hp7 S.m o X Y (λz=>by omega);have H7:=hf7 S.m o X Y (λz=>by omega);rw [if_pos k]at H7;simp (disch:=omega) only [RR,h7,RB,hq,eT,k,Int.reduceEq,hp4,F4x,F4y,mM',P7,H7,cl];exact⟨ah,ah,nx (λh=>by omega) (λh=>by omega) (by simp [mM,mV,k])⟩
 .have g:=k2 (Or.inl k);have P7:=hp7 S.m o X Y (λz=>by omega);have H7:=hf7 S.m o X Y (λz=>by omega);rw [if_neg ah,if_pos k]at H7;simp (disch:=omega) only [RR,h7,RB,hq,eT,k,Int.reduceEq,hp4,F4x,F4y,mM',P7,H7,cl];exact⟨ah,ah,nx (λh=>by omega) (λh=>by omega) (by simp [mM,mV,k])⟩
 .have P7:=hp7 S.m o X Y (λz=>by omega);have H7:=hf7 S.m o X Y (λz=>by omega);rw [if_neg ah,if_neg ah,if_pos k]at H7;have e1:=ex (by unfold hX;omega);have e2:=ey (Or.inl k);simp (disch:=omega) only [RR,h7,RB,hq,eT,k,Int.reduceEq,hp4,F4x,F4y,mM',P7,H7,cl];exact⟨ah,ah,nx (λh=>by omega) (λh=>by omega) (by simp [mM,mV,k,e1,e2])⟩
 .have e1:=ex (by unfold hX;omega);have Q:=EV (by unfold evO;omega);have V:=EW (by unfold evO;omega);by_cases z:64<=X
  .have ev:evR S.m b o X Y=(lvS S.m b o.at_ 3,0,true):=by unfold evR;rw [if_neg ah,if_neg ah,if_pos z]
   rw [ev]at V;simp (disch:=omega) only [RR,h7,RB,hq,eT,k,Int.reduceEq,hp4,F4x,F4y,mM',Q,V,cl];rw [lv (leave S.m o.at_ 3) (by unfold fO;rw [if_neg (by rw [R.lf];decide),if_pos ⟨Or.inl k,ah⟩]),EL _ _ _ Sp];exact⟨ah,rfl⟩
  .have ev:evR S.m b o X Y=(S.m,((S.m.mem).getD (X).toNat default),false):=by unfold evR;rw [if_neg ah,if_neg ah,if_neg z,if_pos k]
   rw [ev]at V;simp (disch:=omega) only [RR,h7,RB,hq,eT,k,Int.reduceEq,hp4,F4x,F4y,mM',Q,V,cl];exact⟨ah,ah,nx (λh=>by omega) (λh=>by omega) (by simp [mM,mV,k,e1])⟩
 .have e1:=ex (by unfold hX;omega);have e2:=ey (Or.inr k);have Q:=EV (by unfold evO;omega);have V:=EW (by unfold evO;omega);by_cases z:64<=X
  .have ev:evR S.m b o X Y=(lvS S.m b o.at_ 3,0,true):=by unfold evR;rw [if_neg ah,if_neg ah,if_pos z]
   rw [ev]at V;simp (disch:=omega) only [RR,h7,RB,hq,eT,k,Int.reduceEq,hp4,F4x,F4y,mM',Q,V,cl];rw [lv (leave S.m o.at_ 3) (by unfold fO;rw [if_neg (by rw [R.lf];decide),if_pos ⟨Or.inr k,ah⟩]),EL _ _ _ Sp];exact⟨ah,rfl⟩
  .have mm:mM S o={S.m with mem:=S.m.mem.set X.toNat Y}:=by unfold mM;rw [if_pos k,e1,e2]
   by_cases y:b.pc+o.at_<X/\X<b.pc+b.len
   .have ev:evR S.m b o X Y=(lvS {S.m with mem:=S.m.mem.set X.toNat Y} b (o.at_+1) 0,0,true):=by unfold evR;rw [if_neg ah,if_neg ah,if_neg z,if_neg ah,if_pos y]
    rw [ev]at V;simp (disch:=omega) only [RR,h7,RB,hq,eT,k,Int.reduceEq,hp4,F4x,F4y,mM',Q,V,cl];rw [lv (leave (mM S o) (o.at_+1) (mM S o).halt) (by unfold fO;rw [if_neg (by rw [R.lf];decide),if_neg ah,if_pos ⟨k,ah⟩]),mm,EL {S.m with mem:=S.m.mem.set X.toNat Y} _ _ Sp];dsimp only;rw [Sh];exact⟨ah,rfl⟩
   .have ev:evR S.m b o X Y=({S.m with mem:=S.m.mem.set X.toNat Y},0,false):=by unfold evR;rw [if_neg ah,if_neg ah,if_neg z,if_neg ah,if_neg y]
    rw [ev]at V;simp (disch:=omega) only [RR,h7,RB,hq,eT,k,Int.reduceEq,hp4,F4x,F4y,mM',Q,V,cl];exact⟨ah,ah,nx (λh=>by omega) (λh=>by omega) (by rw [mm];simp [mV,k])⟩
 .have Q:=EV (by unfold evO;omega);have V:=EW (by unfold evO;omega);have ev:evR S.m b o X Y=({S.m with ins:=S.m.ins.drop 1},S.m.ins.getD 0 0,false):=by unfold evR;rw [if_neg ah,if_pos k]
  rw [ev]at V;simp (disch:=omega) only [RR,h7,RB,hq,eT,k,Int.reduceEq,hp4,F4x,F4y,mM',Q,V,cl];exact⟨ah,ah,nx (λh=>by omega) (λh=>by omega) (by simp [mM,mV,k])⟩
 .have e1:=ex (by unfold hX;omega);have Q:=EV (by unfold evO;omega);have V:=EW (by unfold evO;omega);have ev:evR S.m b o X Y=({S.m with outs:=S.m.outs++ [X]},0,false):=by unfold evR;rw [if_pos k]
  rw [ev]at V;simp (disch:=omega) only [RR,h7,RB,hq,eT,k,Int.reduceEq,hp4,F4x,F4y,mM',Q,V,cl];exact⟨ah,ah,nx (λh=>by omega) (λh=>by omega) (by simp [mM,mV,k,e1])⟩
 .have e1:=ex (by unfold hX;omega);have xv:=x1 (by unfold hX;omega);have g:=k2 (Or.inr k);have eX:((S.vals).getD (o.x).toNat default)=vx S o:=by unfold vx;rw [if_pos (by unfold hX;omega)]
  simp (disch:=omega) only [RR,h7,RB,hq,eT,k,Int.reduceEq,hp4,F4x,F4y,mM',cl,eX];exact⟨ah,ah,ah,ah,ah,ah,ah,ah,ah,ah,nx (λh=>by omega) (λh=>by omega) (by simp [mM,mV,k])⟩
theorem EGM:∀e:Eng,Co.mk .eng (e.au.regs,e.au.pc,e.au.mem,e.au.save,e.au.bF,e.au.waits,e.au.halt,e.au.ins,e.au.outs,e.au.count,e.cache,e.aY,())=e:=λ_=>rfl
def aqQ:Eng:=⟨Li,[],[]⟩
noncomputable def goE (e:Eng) (q:List Int) (left:Int) (a:Ask):Eng×Bool:=
 if(e.au.waits=true\/e.au.count∈q)/\e.au.bF=true then(sN e q,false)
 else if(eF e a).2.1<0 then(sN (eF e a).1 q,(eF e a).2.2)
 else if EZ e.au q left ((((eF e a).1.cache).getD ((eF e a).2.1).toNat default)).blk.len=false then(sN (eF e a).1 q,(eF e a).2.2)
 else(⟨(oU ((((eF e a).1.cache).getD ((eF e a).2.1).toNat default)).blk {e.au with waits:=e.au.waits || bp (e.au.count∈q)}).1,(eF e a).1.cache.filter (fC (oU ((((eF e a).1.cache).getD ((eF e a).2.1).toNat default)).blk {e.au with waits:=e.au.waits || bp (e.au.count∈q)}).1.mem),(eF e a).1.aY⟩,(eF e a).2.2)
noncomputable def GK (e:Eng) (q:List Int) (left:Int) (a:Ask):Eng×Bool:=
 if bp (Ll e)=false then(aqQ,false)else if e.au.halt≠0\/left<1\/e.au.count=1000000 then(e,false)else goE e q left a
def Tf:∀(r:List Ins) (n:Int) (b:Blk),(l9 n b r).pc=b.pc/\(l9 n b r).len=b.len
 | [],_,_=>⟨rfl,rfl⟩
 | i::r,n,b=>by
  have e:(gH n b i).pc=b.pc/\(gH n b i).len=b.len:=by
   unfold gH;split
   .exact⟨rfl,rfl⟩
   split<;>exact⟨rfl,rfl⟩
  have h:=Tf r (n+1) (gH n b i);exact⟨h.1.trans e.1,h.2.trans e.2⟩
def Va{pc:Int}{l:List Ins}(h:nG pc l):(lower pc l).pc=pc:=by
 unfold lower;rw [if_pos (aP h)];exact(Tf l 0 (xZ pc l)).1
def aaD{b c:Blk}(h:chk b c=true):cu b/\cu c/\b.pc=c.pc/\b.len=c.len:=by
 have:=aU.1 h;exact⟨this.1,this.2.1,this.2.2.1,this.2.2.2.1⟩
def Vb(l:List Cac)(e:Cac):((jJ l e).getD (((jJ l e).length:Int)-1).toNat default)=e:=by
 have n:(jJ l e).length=(l.filter (neP e.blk.pc)).length+1- ((l.filter (neP e.blk.pc)).length+1-4):=by unfold jJ;rw [List.length_drop,List.length_append,List.length_singleton]
 rw [n,getD_lt (by rw [n];omega)];unfold jJ;rw [List.getElem_drop,List.getElem_append_right ah];simp
def GL(e:Eng)(a:Ask):(eF e a).1.au=e.au:=by
 unfold eF;split
 .rfl
 split<;>rfl
def ad7{cs:List Cer}{b:Blk}{a:Ask}(h:cs.length<=3):(nZ cs b a).2.length<=3:=by
 unfold nZ;split
 .exact h
 split
 .exact h
 split
 .unfold Lh;rw [List.length_drop,List.length_append,List.length_singleton];omega
 .exact h
structure FnS(e:Eng)(y:Eng×Int×Bool):Prop where
 l:y.1.cache.length<=e.cache.length+4/\(e.cache.length<=4->y.1.cache.length<=4)/\(e.aY.length<=3->y.1.aY.length<=3)
 w:(∀x∈e.cache,0<x.words.length)->∀x∈y.1.cache,0<x.words.length
 k:ShK y.1.cache
 c:ShC y.1.aY
 r:y.2.1<y.1.cache.length
 b:0<=y.2.1->cu (((y.1.cache).getD (y.2.1).toNat default)).blk/\(((y.1.cache).getD (y.2.1).toNat default)).blk.pc=e.au.pc
def aaE{e:Eng}{a:Ask}(h2:ShK e.cache)(h3:ShC e.aY)(ok:Ll e)(hl:a.bytes.length<1000000000):FnS e (eF e a):=by
 have B:=E5 e.au;have fc:=aaB e.cache e.au.pc;unfold eF;split
 .rename_i g;rcases fc with f | ⟨f1,f2,f3,_⟩
  .omega
  .exact⟨⟨Nat.le_add_right _ _,id,id⟩,id,h2,h3,f2,λ_=>⟨(aaD (ok.2.1.2.1 _ f1 f2).1.2.2).2.1,f3⟩⟩
 split
 .exact⟨⟨Nat.le_add_right _ _,id,id⟩,id,h2,h3,by dsimp only;omega,λg=>absurd (show(0:Int)<= -1 from g) (by decide)⟩
 .rename_i g;have bk:=(B.2 ah).2;have ir:=mg bk;have sz:=ir.sz;have A:=Te (a:=a) h3 (show(lower e.au.pc (findF e.au)).ops.length<1000000 by omega) hl;have Q:=ad6 (a:=a) (b:=lower e.au.pc (findF e.au)) ok.2.2;have lpc:(lower e.au.pc (findF e.au)).pc=e.au.pc:=Va bk;have Z:cu (nZ e.aY (lower e.au.pc (findF e.au)) a).1/\(nZ e.aY (lower e.au.pc (findF e.au)) a).1.pc=e.au.pc:=by
   rcases Q with q | q
   .rw [q];exact⟨ir,lpc⟩
   .have k:=aaD q;exact⟨k.2.1,by rw [<-k.2.2.1,lpc]⟩
  have wl:((findF e.au).map kD).length<1000:=by rw [List.length_map];omega
  have zp:=Z.1.pc;have zl:=Z.1.ln;have S:=Jq h2 (e:=⟨(findF e.au).map kD,(nZ e.aY (lower e.au.pc (findF e.au)) a).1⟩) wl A.1 (by dsimp only;omega);have kl:(jJ e.cache ⟨(findF e.au).map kD,(nZ e.aY (lower e.au.pc (findF e.au)) a).1⟩).length<=4:=by
   unfold jJ;rw [List.length_drop,List.length_append,List.length_singleton];omega
  exact⟨⟨by dsimp only;omega,λ_=>kl,λz=>ad7 z⟩,λhw x hx=>by
   unfold jJ at hx;have hx:=List.mem_of_mem_drop hx;rw [List.mem_append,List.mem_singleton]at hx;rcases hx with hx | rfl
   .exact hw x (List.mem_filter.1 hx).1
   .show 0< ((findF e.au).map kD).length;rw [List.length_map];omega,S.1,A.2,Int.sub_lt_self _ (by decide),λ_=>by rw [Vb];exact Z⟩
def zu{l:List Cac}(h:ShK l)(P:Cac->Bool):ShK (l.filter P):=h.sub (Nat.lt_of_le_of_lt (List.length_filter_le _ _) h.1) λx hx=>(List.mem_filter.1 hx).1
abbrev e13(y : Eng × Bool) : List Int × Int × Int × Bool × Bool × Int × List Int × List Int × Int × Bool × List Cer × List Int × List Cac × Unit := (y.1.au.regs, y.1.au.pc, y.1.au.save, y.1.au.bF, y.1.au.waits, y.1.au.halt, y.1.au.ins, y.1.au.outs, y.1.au.count, y.2, y.1.aY, y.1.au.mem, y.1.cache, ())
def Lr{b:Blk}{m:aG}(hs:MSh m)(ho:m.outs.length<900000000):MSh (oU b m).1/\(oU b m).1.outs.length<=m.outs.length+48/\(oU b m).1.ins.length<=m.ins.length:=by
 unfold oU;split
 .rename_i g;have g:=aU.1 g;split
  .exact⟨hs,Nat.le_add_right _ _,Nat.le_refl _⟩
  .have l:=Jm b b.ops ⟨m,[],false⟩;have sz:=g.1.sz;refine⟨adT g.1 hs ho,?_,?_⟩
   .unfold Qf;split<;>(dsimp only;have:=l.2.1;dsimp only at this;omega)
   .unfold Qf;split<;>exact l.1
 .exact⟨⟨by decide,by decide,by decide,by decide⟩,Nat.zero_le _,Nat.zero_le _⟩
structure anG(pp:Eng×Unit->Bool)(ff:Eng×Unit->Bool×Unit):Prop where
 hp:∀e,MSh e.au->ShK e.cache->ShD e.aY->pp (e,())=true
 hf:∀e,MSh e.au->ShK e.cache->ShD e.aY->ff (e,())=(bp (Ll e),())
theorem anH{p1 f1 p2 f2 p8 f8}(U1:aiZ p1 f1)(U2:anG p2 f2){p3:Blk×aG×Unit->Bool}{f3:Blk×aG×Unit->Int×Int×Bool×Bool×Int×List Int×Int×Bool×List Int×List Int×List Int×Unit}(hp3:∀(b:Blk) (m:aG),MSh m->b.ops.length<1000000000->m.outs.length<800000000->p3 (b,m,())=true)(hf3:∀(b:Blk) (m:aG),MSh m->b.ops.length<1000000000->m.outs.length<800000000->f3 (b,m,())=anE (oU b m)){p4:Eng×Unit->Bool}{f4:Eng×Unit->List Int×Int×Int×Bool×Bool×Int×List Int×List Int×Int×List Cer×List Int×List Cac×Unit}(hp4:∀e,MSh e.au->ShK e.cache->ShC e.aY->p4 (e,())=true)(hf4:∀e,MSh e.au->ShK e.cache->ShC e.aY->f4 (e,())=e12 e){p5:List Int×Int×List Int×Int×Bool×Bool×Int×List Int×List Int×Int×List Cac×Ask×List Cer×Unit->Bool}{f5:List Int×Int×List Int×Int×Bool×Bool×Int×List Int×List Int×Int×List Cac×Ask×List Cer×Unit->List Int×Int×List Int×Int×Bool×Bool×Int×List Int×List Int×Int×List Cac×Int×Bool×List Cer×Unit}(hp5:∀(e:Eng) (a:Ask),MSh e.au->ShK e.cache->ShC e.aY->By a.bytes->a.bytes.length<1000000000->p5 (e.au.regs,e.au.pc,e.au.mem,e.au.save,e.au.bF,e.au.waits,e.au.halt,e.au.ins,e.au.outs,e.au.count,e.cache,a,e.aY,())=true)(hf5:∀(e:Eng) (a:Ask),MSh e.au->ShK e.cache->ShC e.aY->By a.bytes->a.bytes.length<1000000000->f5 (e.au.regs,e.au.pc,e.au.mem,e.au.save,e.au.bF,e.au.waits,e.au.halt,e.au.ins,e.au.outs,e.au.count,e.cache,a,e.aY,())=((eF e a).1.au.regs,(eF e a).1.au.pc,(eF e a).1.au.mem,(eF e a).1.au.save,(eF e a).1.au.bF,(eF e a).1.au.waits,(eF e a).1.au.halt,(eF e a).1.au.ins,(eF e a).1.au.outs,(eF e a).1.au.count,(eF e a).1.cache,(eF e a).2.1,(eF e a).2.2,(eF e a).1.aY,())){p6:List Int×Int×List Int×Int×Bool×Bool×Int×List Int×List Int×Int×List Cac×List Int×List Cer×Unit->Bool}{f6:List Int×Int×List Int×Int×Bool×Bool×Int×List Int×List Int×Int×List Cac×List Int×List Cer×Unit->List Int×Int×Int×Bool×Bool×Int×List Int×List Int×Int×List Cer×List Int×List Cac×Unit}(hp6:∀(e:Eng) (q:List Int),MSh e.au->e.au.outs.length<900000000->ShK e.cache->q.length<1000000000->p6 (e.au.regs,e.au.pc,e.au.mem,e.au.save,e.au.bF,e.au.waits,e.au.halt,e.au.ins,e.au.outs,e.au.count,e.cache,q,e.aY,())=true)(hf6:∀(e:Eng) (q:List Int),MSh e.au->e.au.outs.length<900000000->ShK e.cache->q.length<1000000000->f6 (e.au.regs,e.au.pc,e.au.mem,e.au.save,e.au.bF,e.au.waits,e.au.halt,e.au.ins,e.au.outs,e.au.count,e.cache,q,e.aY,())=e12 (sN e q)){p7:aG×List Int×Int×Int×Unit->Bool}{f7:aG×List Int×Int×Int×Unit->Bool×Unit}(hp7:∀m q l s,q.length<1000000000->0<=m.count/\m.count<=2000000-> -1000<=s/\s<=1000000->p7 (m,q,l,s,())=true)(hf7:∀m q l s,q.length<1000000000->0<=m.count/\m.count<=2000000-> -1000<=s/\s<=1000000->f7 (m,q,l,s,())=(EZ m q l s,()))(U8:adZ p8 f8)(e:Eng)(q:List Int)(left:Int)(a:Ask)(h1:MSh e.au)(ho:e.au.outs.length<700000000)(h2:ShK e.cache)(h3:ShC e.aY)(hq:q.length<1000000000)(ha:By a.bytes)(hl:a.bytes.length<1000000000):YF.F (p1,f1,p2,f2,p3,f3,p4,f4,p5,f5,p6,f6,p7,f7,p8,f8,()) (e,q,left,a,()) (λy=>y=e13 (GK e q left a)):=by
 obtain⟨hp1,hf1⟩:=U1;obtain⟨hp2,hf2⟩:=U2;obtain⟨hp8,hf8⟩:=U8;have mM:=MKM;have mE:∀c:Blk,Co.mk .blk (c.pc,c.len,c.ops,c.fin,c.x,c.y,c.k,())=c:=λ_=>rfl
 dsimp only [YF,gm,oH,jU]at*;have P6:=hp6 e q h1 ah h2 hq;have H6:=hf6 e q h1 ah h2 hq;have P5:=hp5 e a h1 h2 h3 ha hl;have H5:=hf5 e a h1 h2 h3 ha hl;have P8:=hp8 q e.au.count hq;have H8:=hf8 q e.au.count hq;have fm:=GL e a;have S:Ll e->FnS e (eF e a):=λk=>aaE h2 h3 k hl
 unfold GK goE;generalize eF e a=Y at*;simp (disch:=omega) only [RR,mM,hp2 e h1 h2 h3.d,hf2 e h1 h2 h3.d,hp4 e h1 h2 h3,hf4 e h1 h2 h3,P6,H6,P5,H5,P8,H8,CAB,mE];refine⟨λg=>by rw [if_pos g];rfl,λg=>⟨λh=>by rw [if_neg (by rw [g];decide),if_pos (show e.au.halt≠0\/left<1\/e.au.count=1000000 by omega)],λh=> ?_⟩⟩;have ok:=aU.1 g;have S:=S ok;have cw:=ok.1.ct;rw [if_neg (by rw [g];decide),if_neg (show¬(e.au.halt≠0\/left<1\/e.au.count=1000000) by omega)];have PY:=hp6 Y.1 q (by rw [fm];exact h1) (by rw [fm];omega) S.k hq;have HY:=hf6 Y.1 q (by rw [fm];exact h1) (by rw [fm];omega) S.k hq;rw [HY];have ec:((e.au.waits=true\/bp (e.au.count∈q)=true)/\e.au.bF=true)↔((e.au.waits=true\/e.au.count∈q)/\e.au.bF=true):=by rw [aU]
 refine⟨λw=>by rw [if_pos (ec.1 w)],λw=> ?_⟩;rw [if_neg (λz=>by
  have:((e.au.waits || bp (e.au.count∈q))&&e.au.bF)=true:=by rw [Bool.and_eq_true,Bool.or_eq_true];exact ec.2 z
  rw [this]at w;cases w)]
 refine⟨λn=>⟨PY,by rw [if_pos n]⟩,λn=> ?_⟩;rw [if_neg ah];have k0:0<=Y.2.1:=by omega
 have Sr:=S.r;obtain⟨B1,B2⟩:=S.b k0;have s1:=(S.k.at Y.2.1.toNat).2.1;generalize hb:(((Y.1.cache).getD (Y.2.1).toNat default)).blk=b at*;have bl:=B1.ln;have P7:=hp7 e.au q left b.len hq ah ah;have H7:=hf7 e.au q left b.len hq ah ah;refine⟨k0,Sr,P7,?_⟩;rw [H7];refine⟨λr=>⟨PY,by rw [if_pos r]⟩,λr=> ?_⟩;have r:EZ e.au q left b.len=true:=r;rw [if_neg (by rw [r];decide)];obtain⟨M,hM⟩:∃M:aG,M={e.au with waits:=e.au.waits || bp (e.au.count∈q)}:=⟨_,rfl⟩;have eM:Co.mk .au (e.au.regs,e.au.pc,e.au.mem,e.au.save,e.au.bF,e.au.waits || bp (e.au.count∈q),e.au.halt,e.au.ins,e.au.outs,e.au.count,())=M:=hM.symm;have Ms:MSh M:=by rw [hM];exact h1
 have Mo:M.outs.length<700000000:=by rw [hM];exact ho
 rw [<-hM];have R:=Lr (b:=b) Ms ah;simp only [eM,hp3 b M Ms ah ah,hf3 b M Ms ah ah,hp1 _ _ S.k R.1.2.1,hf1 _ _ S.k R.1.2.1];exact⟨trivial,trivial,trivial⟩
structure EgS(e:Eng)(n:Nat):Prop where
 m:MSh e.au
 o:e.au.outs.length<=n
 k:ShK e.cache
 c:ShC e.aY
 kl:e.cache.length<=4
 cl:e.aY.length<=3
 w:∀x∈e.cache,0<x.words.length
 v:∀x∈e.cache,0<=x.blk.pc/\x.blk.pc<e.au.mem.length
def aaF{l:List Cac}{mem:List Int}(w:∀x∈l,0<x.words.length):∀x∈l.filter (fC mem),0<=x.blk.pc/\x.blk.pc<mem.length:=λx hx=>by
 have h:=List.mem_filter.1 hx;have d:=aU.1 (show bp _=true from h.2);have t:=d.2 0 (by decide) (by have:=w x h.1;omega);exact⟨d.1,ah⟩
def ad8{e:Eng}{n:Nat}(h:EgS e n)(hn:n<700000000)(q:List Int)(left:Int){a:Ask}(hl:a.bytes.length<1000000000):EgS (GK e q left a).1 (n+50):=by
 have ho:=h.o;unfold GK;split
 .exact⟨⟨by decide,by decide,by decide,by decide⟩,Nat.zero_le _,⟨by decide,λx hx=>by cases hx⟩,⟨by decide,λx hx=>by cases hx⟩,by decide,by decide,(λx hx=>by cases hx),λx hx=>by cases hx⟩
 rename_i g;have ok:Ll e:=aU.1 (by simpa using g);split
 .exact⟨h.m,by have:=h.o;dsimp only;omega,h.k,h.c,h.kl,h.cl,h.w,h.v⟩
 have pl:∀y:Eng,y.au=e.au->ShK y.cache->ShC y.aY->y.cache.length<=4->y.aY.length<=3->(∀x∈y.cache,0<x.words.length)->EgS (sN y q) (n+50):=λy ym yk yc yl ym' yw=>by
  have s:=aav (m:=y.au) (by rw [ym];exact h.m) (by rw [ym];omega) (bp (y.au.count∈q));rw [ym]at s;exact⟨by unfold sN;rw [ym];exact s.1,by have:=s.2.1;unfold sN;rw [ym];dsimp only;omega,zu yk _,yc,Nat.le_trans (List.length_filter_le _ _) yl,ym',λx hx=>yw x (List.mem_filter.1 hx).1,aaF yw⟩
 have S:=aaE h.k h.c ok hl;have fm:=GL e a;unfold goE;split
 .exact pl e rfl h.k h.c h.kl h.cl h.w
 split
 .exact pl _ fm S.k S.c (S.l.2.1 h.kl) (S.l.2.2 h.cl) (S.w h.w)
 split
 .exact pl _ fm S.k S.c (S.l.2.1 h.kl) (S.l.2.2 h.cl) (S.w h.w)
 .have R:=Lr (b:=((((eF e a).1.cache).getD ((eF e a).2.1).toNat default)).blk) (m:={e.au with waits:=e.au.waits || bp (e.au.count∈q)}) h.m (by dsimp only;omega);exact⟨R.1,by have:=R.2.1;dsimp only at this ⊢;omega,zu S.k _,S.c,Nat.le_trans (List.length_filter_le _ _) (S.l.2.1 h.kl),S.l.2.2 h.cl,λx hx=>S.w h.w x (List.mem_filter.1 hx).1,aaF (S.w h.w)⟩
def EnD(b:List Int)(p:Int)(y:List Int×Int×Int×Bool×Bool×Int×List Int×List Int×Int×List Int×Int×List Cer×List Int×List Cac×Unit):Prop:=
 ∃(e:Eng) (p':Int),EgS e 1000/\p<=p'/\p'<=p+30000000/\y=(e.au.regs,e.au.pc,e.au.save,e.au.bF,e.au.waits,e.au.halt,e.au.ins,e.au.outs,e.au.count,b,p',e.aY,e.au.mem,e.cache,())
def ShK.nil:ShK []:=⟨by decide,λx hx=>by cases hx⟩
def ShC.nil:ShC []:=⟨by decide,λx hx=>by cases hx⟩
def ai7{m:aG}(h:MSh m)(ho:m.outs.length<=0):EgS (newE m) 0:=by
 unfold newE;split
 .exact⟨h,ho,ShK.nil,ShC.nil,Nat.zero_le _,Nat.zero_le _,(λx hx=>by cases hx),λx hx=>by cases hx⟩
 .exact⟨⟨by decide,by decide,by decide,by decide⟩,Nat.le_refl _,ShK.nil,ShC.nil,by decide,by decide,(λx hx=>by cases hx),λx hx=>by cases hx⟩
theorem ai8{p3 f3 p4 f4 p5 f5 p6 f6 p7 f7}{p1:aG×Unit->Bool}{f1:aG×Unit->List Int×Int×Int×Bool×Bool×Int×List Int×List Int×Int×List Cer×List Int×List Cac×Unit}(hp1:∀m,MSh m->p1 (m,())=true)(hf1:∀m,MSh m->f1 (m,())=e12 (newE m)){p2:Eng×List Int×Int×Ask×Unit->Bool}{f2:Eng×List Int×Int×Ask×Unit->List Int×Int×Int×Bool×Bool×Int×List Int×List Int×Int×Bool×List Cer×List Int×List Cac×Unit}(hp2:∀(e:Eng) (q:List Int) (l:Int) (a:Ask),MSh e.au->e.au.outs.length<700000000->ShK e.cache->ShC e.aY->q.length<1000000000->By a.bytes->a.bytes.length<1000000000->p2 (e,q,l,a,())=true)(hf2:∀(e:Eng) (q:List Int) (l:Int) (a:Ask),MSh e.au->e.au.outs.length<700000000->ShK e.cache->ShC e.aY->q.length<1000000000->By a.bytes->a.bytes.length<1000000000->f2 (e,q,l,a,())=e13 (GK e q l a))(U3:am9 p3 f3)(U4:ana p4 f4)(U5:anb p5 f5)(U6:Y38 p6 f6)(U7:ane p7 f7){p8:aG×List Int×Int×Unit->Bool}{f8:aG×List Int×Int×Unit->Bool×List Int×Int×List Int×Unit}(hp8:∀m b p,MSh m->Bt b->0<=p->p<500000000->p8 (m,b,p,())=true)(hf8:∀m b p,MSh m->Bt b->0<=p->p<500000000->AsD b p (f8 (m,b,p,())))(b:List Int)(p:Int)(hb:Bt b)(h1:0<=p)(h2:p<300000000):Pj.F (p1,f1,p2,f2,p3,f3,p4,f4,p5,f5,p6,f6,p7,f7,p8,f8,()) (b,p,()) (λy=>EnD b p y):=by
 obtain⟨hp3,hf3⟩:=U3;obtain⟨hp4,hf4⟩:=U4;obtain⟨hp5,hf5⟩:=U5;obtain⟨hp6,hf6⟩:=U6;obtain⟨hp7,hf7⟩:=U7;have R:=pkR hb hf6;have P:=λn p h1 h2=>hp6 n b p hb h1 h2
 obtain⟨i1,i2,i3,i4,i5⟩:=hf4 b p hb h1 ah;have P4:=hp4 b p hb h1 ah;generalize hy:f4 (b,p,())=y at i1 i2 i3 i4 i5;obtain⟨b',q0,w,⟨⟩⟩:=y;dsimp only at i1 i2 i3 i4 i5;subst i1;obtain⟨a1,a2,a3,a4⟩:=hf6 4 b' q0 hb ah ah;have P6:=hp6 4 b' q0 hb ah ah;generalize hk:f6 (4,b',q0,())=k at a1 a2 a3 a4;obtain⟨n,b'',q1,⟨⟩⟩:=k;dsimp only at a1 a2 a3 a4;subst a1;subst a2;obtain⟨w1,w2,w3,w4,w5⟩:=hf7 n b'' (q0+1) hb ah ah ah;have P7:=hp7 n b'' (q0+1) hb ah ah ah;generalize hw:f7 (n,b'',q0+1,())=v at w1 w2 w3 w4 w5;obtain⟨c,q2,ins,⟨⟩⟩:=v;dsimp only at w1 w2 w3 w4 w5;subst w1;have ok:=SY i4 i5 w5;have P3:=hp3 w ins ah ah;have H3:=hf3 w ins ah ah;have Nm:(iO w ins).outs=[]/\(iO w ins).ins.length<=ins.length:=by
  unfold iO;split<;>exact⟨rfl,by simp [Li]⟩
 have Ns:MSh (iO w ins):=⟨by rw [ok.r4];decide,by have:=ok.m64;omega,ah,by rw [Nm.1];decide⟩;have P1:=hp1 _ Ns;have H1:=hf1 _ Ns;have E0:=ai7 Ns (by rw [Nm.1];exact Nat.le_refl _);obtain⟨s1,s2,s3,s4⟩:=hf5 c q2 hb ah ah;have P5:=hp5 c q2 hb ah ah;generalize hs:f5 (c,q2,())=z at s1 s2 s3 s4;obtain⟨d,q3,irq,⟨⟩⟩:=z;dsimp only at s1 s2 s3 s4;subst s1;have mM:=MKM;generalize iO w ins=M at*;have mK:Co.mk .au (M.regs,M.pc,M.mem,M.save,M.bF,M.waits,M.halt,M.ins,[],M.count,())=M:=by
  have:=Nm.1;cases M;dsimp only at this;subst this;rfl
 generalize newE M=N at*;dsimp only [Pj,gm,oH];simp (disch:=omega) only [RR,P4,hy,P6,hk,P7,hw,P3,H3,P5,hs,R,P,mK,P1,H1];obtain⟨t1,t2,t3,t4⟩:=hf6 12 d q3 hb ah ah;refine aB (λy=>∃(k q:Int) (e:Eng),0<=k/\k<=11/\p<=q/\q<=p+20000+2000100*(11-k)/\EgS e (50*(11-k).toNat)/\y=(k,d,q,0,0,false,false,0,0,e.au.regs,e.au.pc,e.au.save,e.au.bF,e.au.waits,e.au.halt,e.au.ins,e.au.outs,e.au.count,irq,e.au.mem,e.cache,e.aY,())) (λy=>y.1.toNat) ⟨(f6 (12,d,q3,())).1,q3+1,N,t3,ah,ah,ah,⟨E0.m,by have:=E0.o;omega,E0.k,E0.c,E0.kl,E0.cl,E0.w,E0.v⟩,rfl⟩ ?_;rintro y ⟨k,q,e,k0,k1,k2,k3,E,rfl⟩;dsimp only;have eo:=E.o;by_cases c:0<k
 .obtain⟨u1,u2,u3,u4⟩:=hf6 30 d q hb ah ah;have P8:=hp8 e.au d (q+1) E.m hb ah ah;have A:=hf8 e.au d (q+1) E.m hb ah ah;have Ap:=A.p;have Ab:=A.b;obtain⟨Al,An⟩:=A.l;generalize hA8:f8 (e.au,d,q+1,())=a at*;have w1:IntKind.i64.wrap (1+(f6 (30,d,q,())).1)=1+(f6 (30,d,q,())).1:=w64 ah ah;have P2:=hp2 e irq (1+(f6 (30,d,q,())).1) ⟨a.1,a.2.2.2.1⟩ E.m ah E.k E.c ah Al (by dsimp only;omega);have H2:=hf2 e irq (1+(f6 (30,d,q,())).1) ⟨a.1,a.2.2.2.1⟩ E.m ah E.k E.c ah Al (by dsimp only;omega);have T:=ad8 E ah irq (1+(f6 (30,d,q,())).1) (a:=⟨a.1,a.2.2.2.1⟩) (by dsimp only;omega);have mA:∀(x:Bool) (y:List Int),Co.mk .ask (x,y,())=(⟨x,y⟩:Ask):=λ_ _=>rfl
  have mG:=EGM;generalize GK e irq (1+(f6 (30,d,q,())).1) ⟨a.1,a.2.2.2.1⟩=X at*;simp (disch:=omega) only [RR,c,R,P,mM,P8,hA8,mA,mG,w1,P2,H2];exact⟨⟨k-1,a.2.2.1,X.1,ah,ah,ah,ah,⟨T.m,by have:=T.o;omega,T.k,T.c,T.kl,T.cl,T.w,T.v⟩,by rw [Ab]⟩,ah⟩
 .simp (disch:=omega) only [RR,c];exact⟨e,q,⟨E.m,ah,E.k,E.c,E.kl,E.cl,E.w,E.v⟩,k2,ah,rfl⟩
def KpD(b:List Int)(p:Int)(y:List Int×List Int×Int×List Cac×Unit):Prop:=
 ∃(e:Eng) (p':Int),EgS e 1000/\p<=p'/\p'<=p+30000000/\y=(e.au.mem,b,p',e.cache,())
structure anI(pp:List Int×Int×Unit->Bool)(ff:List Int×Int×Unit->List Int×Int×Int×Bool×Bool×Int×List Int×List Int×Int×List Int×Int×List Cer×List Int×List Cac×Unit):Prop where
 hp:∀b p,Bt b->0<=p->p<300000000->pp (b,p,())=true
 hf:∀b p,Bt b->0<=p->p<300000000->EnD b p (ff (b,p,()))
def ai9{p1 f1}(U1:anI p1 f1)(b:List Int)(p:Int)(hb:Bt b)(h1:0<=p)(h2:p<100000000):Pm.F (p1,f1,()) (b,p,()) (λy=>KpD b p y):=by
 obtain⟨e,p',E,e1,e2,H⟩:=U1.hf b p hb h1 ah;have P1:=U1.hp b p hb h1 ah;dsimp only [Pm,gm];simp (disch:=omega) only [RR,P1,H];exact⟨e,p',E,e1,e2,rfl⟩
structure aqR(pp:List Int×Int×Unit->Bool)(ff:List Int×Int×Unit->List Int×List Int×Int×List Cac×Unit):Prop where
 hp:∀b p,Bt b->0<=p->p<100000000->pp (b,p,())=true
 hf:∀b p,Bt b->0<=p->p<100000000->KpD b p (ff (b,p,()))
def PuD(y:List Cac×Cac×Unit):Prop:=ShK y.1/\y.2.1.words.length<1000/\y.2.1.blk.ops.length<1000000/\y.2.1.blk.pc<=1000000
def ShK.add{l:List Cac}(h:ShK l)(n:l.length<999){x:Cac}(h1:x.words.length<1000)(h2:x.blk.ops.length<1000000)(h3:x.blk.pc<=1000000):ShK (l++ [x]):=by
 refine⟨by rw [List.length_append,List.length_singleton];omega,λc hc=> ?_⟩;rw [List.mem_append,List.mem_singleton]at hc;rcases hc with g | rfl
 .exact h.2 c g
 .exact⟨h1,h2,h3⟩
theorem anJ{p1 f1 p2 f2 p3 f3 p4 f4 p5 f5 p6 f6 p7 f7}(U1:aas p1 f1)(U2:aiU p2 f2)(U3:Y41 p3 f3)(U4:Y39 p4 f4)(U5:Y38 p5 f5)(U6:aqR p6 f6)(U7:Y82 p7 f7)(c:List Int)(hc:By c)(hl:c.length<1000000000):YN.F (p1,f1,p2,f2,p3,f3,p4,f4,p5,f5,p6,f6,p7,f7,()) (c,()) (λy=>PuD y):=by
 obtain⟨hp1,hf1⟩:=U1;obtain⟨hp2,hf2⟩:=U2;obtain⟨hp3,hf3⟩:=U3;obtain⟨hp4,hf4⟩:=U4;obtain⟨hp5,hf5⟩:=U5;obtain⟨hp6,hf6⟩:=U6;obtain⟨hp7,hf7⟩:=U7;have mC:=CAM;obtain⟨hb,e0⟩:=hf3 c hc hl;generalize hbe:(f3 (c,())).1=b at hb;obtain⟨e,q,E,e1,e2,H⟩:=hf6 b 0 hb ah ah;have P6:=hp6 b 0 hb ah ah;have R:=pkR hb hf5;have P:=λn p h1 h2=>hp5 n b p hb h1 h2
 have l:=E.kl;obtain⟨o1,o2⟩:=hf4 5 b q hb ah ah;have OP:=hp4 5 b q hb ah ah;have li:∀x:Int,(([x]:List Int).length:Int)=1:=λ_=>rfl
 have lc:∀x:Cac,(([x]:List Cac).length:Int)=1:=λ_=>rfl
 have mK:∀(w:List Int) (x:Blk),Co.mk .cac (w,x.pc,x.len,x.ops,x.fin,x.x,x.y,x.k,())=(⟨w,x⟩:Cac):=λ_ _=>rfl
 have D:=hf7 b (q+1) hb ah ah;have P7:=hp7 b (q+1) hb ah ah;generalize hz:f7 (b,q+1,())=z at*;obtain⟨b',q3,ins,⟨⟩⟩:=z;have Db:b'=b:=D.b;have D1:q+1<=q3:=D.lo;have D2:q3<=q+1+1000:=D.hi;have D3:(ins.length:Int)<=20:=D.len;subst Db;have P2:=hp2 ins ah;have H2:=hf2 ins ah;have P1:=λn:Int=>hp1 n ins ah
 have H1:=λn:Int=>hf1 n ins ah
 have nw:∀pc:Int,(⟨ins.map kD,lower pc ins⟩:Cac).words.length<1000/\(⟨ins.map kD,lower pc ins⟩:Cac).blk.ops.length<1000000/\(⟨ins.map kD,lower pc ins⟩:Cac).blk.pc<=1000000:=λpc=>by
  have lw:((lower pc ins).ops.length:Int)<=5000:=ET pc ins;exact⟨by dsimp only;rw [List.length_map];omega,by dsimp only;omega,Lp pc ins⟩
 have fin:∀(L:List Cac) (x:Int),ShK L->PuD (L,Co.mk .cac (ins.map kD,(lower x ins).pc,(lower x ins).len,(lower x ins).ops,(lower x ins).fin,(lower x ins).x,(lower x ins).y,(lower x ins).k,()),()):=λL x h=>⟨h,nw x⟩
 have bd:∀L:List Cac,ShK L->0< (L.length:Int)->(f5 ((L.length:Int),b',q3+1+1,())).1<L.length:=λL _ g=>by
  have:=(hf5 (L.length:Int) b' (q3+1+1) hb ah ah).2.2.2;omega
 dsimp only [YN,gm,jU];simp (disch:=omega) only [RR,hp3 c hc hl,hbe,e0,P6,H,OP,o1,o2];refine⟨λg=> ?_,λg=> ?_⟩
 .refine aB (λy=>∃(k:Int) (L:List Cac),0<=k/\k<=4/\ShK L/\(L.length:Int)<=4+k/\y=(k,0,0,0,0,0,0,b',q+1,L,())) (λy=>(4-y.1).toNat) ⟨0,e.cache,ah,ah,E.k,ah,rfl⟩ ?_;rintro y ⟨k,L,k0,k1,hL,hl',rfl⟩;dsimp only;by_cases c4:k<4
  .simp (disch:=omega) only [RR,c4];refine⟨by simp only [List.length_cons,List.length_nil];omega,⟨k+1,_,ah,ah,hL.add ah (x:=⟨[k],⟨70+k,0,[],0,0,0,0⟩⟩) (show 1<1000 by decide) (show 0<1000000 by decide) (by dsimp only;omega),by rw [List.length_append];simp only [List.length_cons,List.length_nil];omega,rfl⟩,ah⟩
  .simp (disch:=omega) only [RR,c4,P7,hz,P2,H2,P1,H1,R,P,mK];exact⟨λg=>⟨λh=>⟨bd L hL g,bd L hL g,hL,hL.at _⟩,λh=>fin L _ hL⟩,λg=>⟨g,fin L _ hL⟩⟩
 .have hL:=E.k;generalize e.cache=L at*;simp (disch:=omega) only [RR,P7,hz,P2,H2,P1,H1,R,P,mK];exact⟨λg=>⟨λh=>⟨bd L hL g,bd L hL g,hL,hL.at _⟩,λh=>fin L _ hL⟩,λg=>⟨g,fin L _ hL⟩⟩
def anK(e x:Cac):aht.F () (e,x,()) (λy=>y=(decide (e.blk.pc=x.blk.pc),x,())):=by
 dsimp only [aht,gm];simp (disch:=omega) only [RR,CAB]
structure anL(pp:Cac×Cac×Unit->Bool)(ff:Cac×Cac×Unit->Bool×Cac×Unit):Prop where
 hp:∀e x,pp (e,x,())=true
 hf:∀e x,ff (e,x,())=(decide (e.blk.pc=x.blk.pc),x,())
def anM{p1 f1}(U1:anL p1 f1)(l:List Cac)(x:Cac)(h:l.length<1000000000):YK.F (p1,f1,()) (l,x,()) (λy=>y.2.1=x/\FC l x.blk.pc y.1):=by
 dsimp only [YK,gm];refine aB (λ(y:List Cac×Int×Int×Cac×Unit)=>y.1=l/\y.2.1=l.length/\0<=y.2.2.1/\y.2.2.1<=l.length/\y.2.2.2.1=x/\∀j:Int,0<=j->j<y.2.2.1->(((l).getD (j).toNat default)).blk.pc≠x.blk.pc) (λy=>(l.length-y.2.2.1).toNat) ⟨rfl,rfl,by simp,by simp,rfl,λj h0 h1=>absurd h1 (by simp;omega)⟩ ?_;rintro⟨(l:List Cac),(n:Int),(i:Int),(x:Cac),⟨⟩⟩ hI;dsimp only at hI ⊢;obtain⟨rfl,rfl,h1,h2,rfl,h3⟩:=hI;simp (disch:=omega) only [RR,CAB,U1.hp,U1.hf];refine⟨λg=>⟨h1,g,λe=>Or.inr ⟨h1,g,e,h3⟩,λe=>⟨⟨ah,ah,λj j0 j1=> ?_⟩,ah⟩⟩,λg=>Or.inl ⟨rfl,λj j0 j1=>h3 j j0 ah⟩⟩;by_cases c:j<i
 .exact h3 j j0 c
 .rw [show j=i by omega];exact e
def filter_all{α:Type}{P:α->Bool}{d:α}:∀ {l:List α},(∀i:Nat,i<l.length->P (l.getD i d)=true)->l.filter P=l
 | [],_=>rfl
 | x::l,h=>by
  have h0:=h 0 (by simp);have h1:=filter_all (P:=P) (d:=d) (l:=l) λi hi=>h (i+1) (by simp;omega)
  rw [List.filter_cons,if_pos (by simpa using h0),h1]
structure zw(P:Cac->Bool)(l L:List Cac)(i j:Int):Prop where
 i0:0<=i
 ij:i<=j
 jl:j<=l.length
 len:L.length=l.length
 a:L.take i.toNat=(l.take j.toNat).filter P
 b:∀k:Nat,j<=k->L.getD k default=l.getD k default
def zw.start{P:Cac->Bool}{l:List Cac}{k:Int}(h0:0<=k)(h1:k<l.length)(hp:P ((l).getD (k).toNat default)=false)(h:∀j:Int,0<=j->j<k->P ((l).getD (j).toNat default)=true):zw P l l k (k+1):=by
 refine⟨h0,ah,ah,rfl,?_,λ_ _=>rfl⟩;rw [kP (d:=default) h0 h1,if_neg (by rw [hp];decide),List.append_nil,filter_all (d:=default) λi hi=> ?_];rw [List.length_take]at hi;have:=h i ah ah;have e:(l.take k.toNat).getD i default=l.getD i default:=by rw [getD_lt (by rw [List.length_take];omega),getD_lt ah,List.getElem_take]
 rw [e];simpa using this
def zw.keep{P:Cac->Bool}{l L:List Cac}{i j:Int}(h:zw P l L i j)(hj:j<l.length)(hp:P ((L).getD (j).toNat default)=true):zw P l (L.set i.toNat ((L).getD (j).toNat default)) (i+1) (j+1):=by
 obtain⟨i0,ij,jl,len,a,b⟩:=h;have ej:((L).getD (j).toNat default)=((l).getD (j).toNat default):=b j.toNat ah;rw [ej]at hp ⊢;refine⟨ah,ah,ah,by rw [List.length_set];exact len,?_,λk hk=> ?_⟩
 .rw [kP (d:=default) ah hj,if_pos hp,<-a,show(i+1).toNat=i.toNat+1 by omega,List.take_succ_eq_append_getElem (by rw [List.length_set];omega),List.getElem_set_self,List.take_set_of_le (Nat.le_refl _)]
 .rw [<-b k ah,List.getD_eq_getElem?_getD,List.getD_eq_getElem?_getD,List.getElem?_set_ne ah,<-List.getD_eq_getElem?_getD]
def zw.skip{P:Cac->Bool}{l L:List Cac}{i j:Int}(h:zw P l L i j)(hj:j<l.length)(hp:P ((L).getD (j).toNat default)=false):zw P l L i (j+1):=by
 obtain⟨i0,ij,jl,len,a,b⟩:=h;have ej:((L).getD (j).toNat default)=((l).getD (j).toNat default):=b j.toNat ah;rw [ej]at hp;refine⟨ah,ah,ah,len,?_,λk hk=>b k ah⟩;rw [kP (d:=default) ah hj,if_neg (by rw [hp];decide),List.append_nil,a]
def zw.fin{P:Cac->Bool}{l L:List Cac}{i j:Int}(h:zw P l L i j)(hj:¬j<l.length):L.take i.toNat=l.filter P:=by
 rw [h.a,List.take_of_length_le (by have:=h.jl;omega)]
def Tg{L:List Cac}{z:Cac}{i n:Int}(h0:0<=i)(h1:i<=L.length)(hn:(L.length:Int)=n):
  i<=((List.drop (Int.toNat 0) (List.take i.toNat L)++List.replicate (n-i).toNat z++List.drop (i+(n-i)).toNat (List.take n.toNat L)).length:Int)/\
  List.drop (Int.toNat 0) (List.take (0+(i-0)).toNat (List.drop (Int.toNat 0) (List.take i.toNat L)++List.replicate (n-i).toNat z++List.drop (i+(n-i)).toNat (List.take n.toNat L)))=L.take i.toNat:=by
 have e:(List.take i.toNat L).length=i.toNat:=by rw [List.length_take];omega
 rw [show(Int.toNat 0)=0 by rfl,List.drop_zero,List.drop_zero,show(0+(i-0)).toNat=i.toNat by omega,List.append_assoc];refine⟨by rw [List.length_append];omega,?_⟩;rw [List.take_append_of_le_length ah,List.take_of_length_le ah]
theorem anN{p1 f1}(U1:anL p1 f1){p2:List Cac×Cac×Unit->Bool}{f2:List Cac×Cac×Unit->Int×Cac×Unit}(hp2:∀l x,l.length<1000000000->p2 (l,x,())=true)(hf2:∀l x,l.length<1000000000->(f2 (l,x,())).2.1=x/\FC l x.blk.pc (f2 (l,x,())).1)(l:List Cac)(x:Cac)(h:l.length<1000000000):YO.F (p1,f1,p2,f2,()) (l,x,()) (λy=>y=(x,l.filter (neP x.blk.pc),())):=by
 obtain⟨hp1,hf1⟩:=U1;have I:=hf2 l x h;have P2:=hp2 l x h;dsimp only [YO,gm];simp (disch:=omega) only [RR,P2];rw [I.1];have F:=I.2;generalize (f2 (l,x,())).1=k at*;have np:∀e:Cac,neP x.blk.pc e= !decide (e.blk.pc=x.blk.pc):=λ_=>rfl
 refine⟨λg=> ?_,λg=> ?_⟩
 .rw [filter_all (d:=default) λi hi=> ?_];rcases F with⟨_,f⟩ | ⟨f,_⟩
  .have:=f i ah ah;rw [np];simpa using this
  .omega
 .obtain⟨f1,f2',f3,f4⟩:0<=k/\k<l.length/\(((l).getD (k).toNat default)).blk.pc=x.blk.pc/\∀j:Int,0<=j->j<k->(((l).getD (j).toNat default)).blk.pc≠x.blk.pc:=by
   rcases F with⟨f,_⟩ | f
   .exact absurd f g
   .exact f
  have w:IntKind.i64.wrap (k+1)=k+1:=w64 ah ah;rw [w];refine aB (λ(y:Int×Int×List Cac×Cac×Unit)=>y.2.2.2.1=x/\zw (neP x.blk.pc) l y.2.2.1 y.1 y.2.1) (λy=>(l.length-y.2.1).toNat) ⟨rfl,zw.start f1 f2' (by rw [np,decide_eq_true f3];rfl) λj j0 j1=>by rw [np,decide_eq_false (f4 j j0 j1)];rfl⟩ ?_;rintro⟨(i:Int),(j:Int),(L:List Cac),(x':Cac),⟨⟩⟩ hI;dsimp only at hI ⊢;obtain⟨rfl,D⟩:=hI;have i0:=D.i0;have ij:=D.ij;have jl:=D.jl;have len:=D.len;have ll:(L.length:Int)=l.length:=by omega
  by_cases c:j<l.length
  .by_cases d:(((L).getD (j).toNat default)).blk.pc=x'.blk.pc
   .simp (disch:=omega) only [RR,ll,c,hp1,hf1,d];exact⟨ah,ah,D.skip c (by rw [np,decide_eq_true d];rfl),ah⟩
   .simp (disch:=omega) only [RR,ll,c,hp1,hf1,d];exact⟨ah,ah,ah,ah,ah,ah,D.keep c (by rw [np,decide_eq_false d];rfl),ah⟩
  .simp (disch:=omega) only [RR,ll,c];obtain⟨z1,z2⟩:=Tg (L:=L) (n:=l.length) (z:=Co.mk .cac ([],0,0,[],0,0,0,0,())) i0 ah ll;exact⟨ah,ah,ah,ah,ah,ah,ah,ah,z1,ah,ah,Int.le_trans (show 0+(i-0)<=i by omega) z1,Prod.ext rfl (Prod.ext (z2.trans (D.fin c)) rfl)⟩
theorem aqS{p1 f1 p2 f2}(U1:Y99 p1 f1)(U2:aqD p2 f2)(e:Cac)(hw:e.words.length<1000)(ho:e.blk.ops.length<1000000):ahy.F (p1,f1,p2,f2,()) (e,()) (λy=>y=cE e):=by
 have mE:∀c:Blk,Co.mk .blk (c.pc,c.len,c.ops,c.fin,c.x,c.y,c.k,())=c:=λ_=>rfl
 dsimp only [ahy,gm,jU];simp (disch:=omega) only [RR,CAB,mE,U1.hp e.blk ah,U1.hf e.blk ah,U2.hp e.words ah,U2.hf e.words ah]
def anO{p1 f1}(U1:ad3 p1 f1)(l:List Cac)(h:ShK l):YR.F (p1,f1,()) (l,()) (λy=>y=(l,())):=by
 have hlen:=h.1;have mC:=CAM;dsimp only [YR,gm,jU];refine aB (λ(y:List Cac×Int×Int×List Cac×Unit)=>y.1=l/\y.2.1=l.length/\y.2.2.2.1=l.take y.2.2.1.toNat/\0<=y.2.2.1/\y.2.2.1<=l.length) (λy=>(l.length-y.2.2.1).toNat) ⟨rfl,rfl,by simp,by simp,by simp⟩ ?_;rintro⟨(l:List Cac),(m:Int),(i:Int),(o:List Cac),⟨⟩⟩ hI;dsimp only at hI ⊢;obtain⟨rfl,rfl,rfl,h1,h2⟩:=hI;have a:=h.at i.toNat;simp (disch:=omega) only [RR,U1.hp _ a.1 a.2.1,U1.hf _ a.1 a.2.1,mC];refine⟨λh4=>⟨ah,ah,?_,⟨cZ h1 h4 rfl,ah,ah⟩,ah⟩,λh4=>by rw [List.take_of_length_le ah]⟩;have:=List.length_take_le' i.toNat l;omega
def afu(l:List Cac)(n:Int)(hl:l.length<1000000)(h0:0<=n)(h1:n<1000000):YS.F () (l,n,()) (λy=>y=(l.drop (l.length-n.toNat),())):=by
 dsimp only [YS,gm];simp (disch:=omega) only [RR];rw [show((l.length:Int)).toNat=l.length by omega,List.take_of_length_le (Nat.le_refl _)];split
 .rw [show((l.length:Int)-n).toNat=l.length-n.toNat by omega];exact⟨ah,ah,ah,rfl⟩
 .rw [show l.length-n.toNat=0 by omega];exact⟨ah,ah,ah,rfl⟩
structure anP(pp:List Cac×Unit->Bool)(ff:List Cac×Unit->List Cac×Unit):Prop where
 hp:∀l,ShK l->pp (l,())=true
 hf:∀l,ShK l->ff (l,())=(l,())
def aqT{p1 f1}(U1:anP p1 f1){p2:List Cac×Int×Unit->Bool}{f2:List Cac×Int×Unit->List Cac×Unit}(hp2:∀l n,l.length<1000000->0<=n->n<1000000->p2 (l,n,())=true)(hf2:∀l n,l.length<1000000->0<=n->n<1000000->f2 (l,n,())=(l.drop (l.length-n.toNat),())){p3:List Cac×Cac×Unit->Bool}{f3:List Cac×Cac×Unit->Cac×List Cac×Unit}(hp3:∀l x,l.length<1000000000->p3 (l,x,())=true)(hf3:∀l x,l.length<1000000000->f3 (l,x,())=(x,l.filter (neP x.blk.pc),()))(l:List Cac)(e:Cac)(h:ShK l)(h1:e.words.length<1000)(h2:e.blk.ops.length<1000000)(h3:e.blk.pc<=1000000):ahz.F (p1,f1,p2,f2,p3,f3,()) (l,e,()) (λy=>y=(jJ l e,())):=by
 have L:=h.1;have sh:=(Jq h h1 h2 h3).1;have fl:=List.length_filter_le (neP e.blk.pc) l;have ee:(l.filter (neP e.blk.pc)++ [e]).length=(l.filter (neP e.blk.pc)).length+1:=by rw [List.length_append,List.length_singleton]
 have F:=hf2 (l.filter (neP e.blk.pc)++ [e]) 4 ah ah ah;rw [ee]at F;have F:f2 (l.filter (neP e.blk.pc)++ [e],4,())=(jJ l e,()):=F;dsimp only [ahz,gm];simp (disch:=omega) only [RR,U1.hp l h,U1.hf l h,hp3 l e,hf3 l e,hp2 (l.filter (neP e.blk.pc)++ [e]) 4 ah ah ah,F,U1.hp _ sh,U1.hf _ sh,List.length_cons,List.length_nil];omega
theorem anQ{p1 f1 p2 f2}(U1:Y94 p1 f1)(U2:Y32 p2 f2)(a b:List Cac)(ha:ShK a):YV.F (p1,f1,p2,f2,()) (a,b,()) (λy=>y=(bp (a=b),())):=by
 have mE:∀c:Blk,Co.mk .blk (c.pc,c.len,c.ops,c.fin,c.x,c.y,c.k,())=c:=λ_=>rfl
 have hlen:=ha.1;dsimp only [YV,gm,jU];simp (disch:=omega) only [RR,CAB,mE];refine⟨λh=> ?_,λh=> ?_⟩
 .rw [bL (λe=>h (by rw [e]))]
 have hl:a.length=b.length:=by omega
 refine aB (λ(y:List Cac×List Cac×Int×Unit)=>y.1=a/\y.2.1=b/\0<=y.2.2.1/\y.2.2.1<=a.length/\All y.2.2.1 (λi=>a.getD i.toNat default=b.getD i.toNat default)) (λy=>(a.length-y.2.2.1).toNat) ⟨rfl,rfl,by simp,by simp,All.zero⟩ ?_;rintro⟨(l1:List Cac),(l2:List Cac),(i:Int),⟨⟩⟩ hI;dsimp only at hI ⊢;obtain⟨rfl,rfl,h1,h2,h3⟩:=hI;have A:=ha.at i.toNat;simp (disch:=omega) only [RR,CAB,mE,U1.hp (((l1).getD (i).toNat default)).blk (((l2).getD (i).toNat default)).blk ah,U1.hf (((l1).getD (i).toNat default)).blk (((l2).getD (i).toNat default)).blk ah,U2.hp (((l1).getD (i).toNat default)).words (((l2).getD (i).toNat default)).words ah,U2.hf (((l1).getD (i).toNat default)).words (((l2).getD (i).toNat default)).words ah,aU,kU];refine⟨λh4=>⟨h1,h4,h1,ah,Or.inr h1,Or.inr h4,Or.inr h1,Or.inr ah,λh5=> ?_,λh5=>⟨⟨ah,ah,h3.snoc (Cac.ext h5.1 h5.2)⟩,ah⟩⟩,λh4=> ?_⟩
 .rw [bL];intro e;rw [e]at h5;rcases h5 with h5 | h5<;>exact h5 rfl
 .rw [aP (lu hl (h3.le ah))]
def Jr(l:List Cac)(e:Cac):jJ l e=(l.filter (neP e.blk.pc)).drop ((l.filter (neP e.blk.pc)).length+1-4)++ [e]:=by
 unfold jJ;rw [List.drop_append_of_le_length ah]
structure aqU(pp:List Cac×Cac×Unit->Bool)(ff:List Cac×Cac×Unit->List Cac×Unit):Prop where
 hp:∀l e,ShK l->e.words.length<1000->e.blk.ops.length<1000000->e.blk.pc<=1000000->pp (l,e,())=true
 hf:∀l e,ShK l->e.words.length<1000->e.blk.ops.length<1000000->e.blk.pc<=1000000->ff (l,e,())=(jJ l e,())
structure aqV(pp:List Cac×List Cac×Unit->Bool)(ff:List Cac×List Cac×Unit->Bool×Unit):Prop where
 hp:∀a b,ShK a->pp (a,b,())=true
 hf:∀a b,ShK a->ff (a,b,())=(bp (a=b),())
structure aqW(pp:List Int×Unit->Bool)(ff:List Int×Unit->List Cac×Cac×Unit):Prop where
 hp:∀c,By c->c.length<1000000000->pp (c,())=true
 hf:∀c,By c->c.length<1000000000->PuD (ff (c,()))
def afv(a b:List Int)(ha:a.length<1000000000):YJ.F () (a,b,()) (λy=>y=(bp (a=b),())):=by
 dsimp only [YJ,gm];simp (disch:=omega) only [RR];refine⟨λh=> ?_,λh=> ?_⟩
 .rw [bL (λe=>h (by rw [e]))]
 have hl:a.length=b.length:=by omega
 refine aB (λ(y:List Int×List Int×Int×Int×Unit)=>y.1=a/\y.2.1=b/\y.2.2.1=a.length/\0<=y.2.2.2.1/\y.2.2.2.1<=a.length/\All y.2.2.2.1 (λi=>a.getD i.toNat default=b.getD i.toNat default)) (λy=>(a.length-y.2.2.2.1).toNat) ⟨rfl,rfl,rfl,by simp,by simp,All.zero⟩ ?_;rintro⟨(l1:List Int),(l2:List Int),(n:Int),(i:Int),⟨⟩⟩ hI;dsimp only at hI ⊢;obtain⟨rfl,rfl,rfl,h1,h2,h3⟩:=hI;simp (disch:=omega) only [RR];refine⟨λh4=>⟨h1,h4,h1,ah,λh5=> ?_,λh5=>⟨⟨ah,ah,h3.snoc h5⟩,ah⟩⟩,λh4=> ?_⟩
 .rw [bL];intro e;rw [e]at h5;exact h5 rfl
 .rw [aP (lu hl (h3.le ah))]
def GN{w mem:List Int}{pc:Int}(p0:0<=pc)(hw:0<w.length):There w mem pc↔pc+w.length<=mem.length/\(mem.take (pc+w.length).toNat).drop pc.toNat=w:=by
 have gt:∀k:Nat,k<w.length->pc+w.length<=mem.length->((mem.take (pc+w.length).toNat).drop pc.toNat).getD k default=((mem).getD (pc+k).toNat default):=λk hk h=>by
  rw [List.getD_eq_getElem?_getD,List.getElem?_drop,List.getElem?_take_of_lt ah,<-List.getD_eq_getElem?_getD,show pc.toNat+k=(pc+k).toNat by omega]
 refine⟨λh=> ?_,λ⟨h,e⟩ k k0 k1=>⟨ah,?_⟩⟩
 .have e:=(h ((w.length:Int)-1) ah ah).1;have hl:pc+w.length<=mem.length:=by omega
  refine⟨hl,List.ext_getElem (by rw [List.length_drop,List.length_take];omega) λn h1 h2=> ?_⟩;have:=(h n ah ah).2;rw [<-gt n h2 hl,getD_lt h1,Int.toNat_natCast,getD_lt h2]at this;exact this
 .have:=gt k.toNat ah h;rw [e,show pc+((k.toNat:Nat):Int)=pc+k by omega]at this;exact this.symm
def aqX{p1 f1 p2 f2}(U1:Y1 p1 f1)(U2:Y32 p2 f2)(e:Cac)(mem:List Int)(hw:e.words.length<1000)(hm:mem.length<1000000000)(hp:e.blk.pc<=1000000):ahu.F (p1,f1,p2,f2,()) (e,mem,()) (λy=>y=(fC mem e,())):=by
 dsimp only [ahu,gm];simp (disch:=omega) only [RR,CAB,U1.hp,U1.hf];refine⟨λz=> ?_,λz=> ?_⟩
 .refine Prod.ext ?_ rfl;show decide (0<=e.blk.pc)=fC mem e;rw [Bool.eq_iff_iff,decide_eq_true_eq,fC,aU];exact⟨λh=>⟨h,λk k0 k1=>by omega⟩,λh=>h.1⟩
 .by_cases c:inB e.blk.pc 0 (mem.length-e.words.length)=true
  .obtain⟨c0,c1⟩:=dF.1 c;have w:IntKind.i64.wrap (e.blk.pc+e.words.length)=e.blk.pc+e.words.length:=w64 ah ah;have dl:(List.drop e.blk.pc.toNat (List.take (e.blk.pc+e.words.length).toNat mem)).length<1000000000:=by rw [List.length_drop,List.length_take];omega
   rw [w,c,U2.hf _ _ dl];refine⟨Or.inr c0,Or.inr ah,Or.inr ah,Or.inr (U2.hp _ _ dl),?_⟩;rw [Bool.true_and];refine Prod.ext (xQ ?_) rfl;rw [GN c0 ah];exact⟨λh=>⟨c0,ah,h⟩,λh=>h.2.2⟩
  .have c':inB e.blk.pc 0 (mem.length-e.words.length)=false:=by simpa using c
   rw [c'];refine⟨Or.inl rfl,Or.inl rfl,Or.inl rfl,Or.inl rfl,?_⟩;rw [Bool.false_and];refine Prod.ext (bL λh=>c (dF.2 ⟨h.1,?_⟩)).symm rfl;have:=((GN h.1 ah).1 h.2).1;omega
def FP(P:Cac->Bool)(l:List Cac)(k:Int):Prop:=(k= -1/\∀j:Int,0<=j->j<l.length->P ((l).getD (j).toNat default)=true)\/(0<=k/\k<l.length/\P ((l).getD (k).toNat default)=false/\∀j:Int,0<=j->j<k->P ((l).getD (j).toNat default)=true)
def aqY{p1:Cac×List Int×Unit->Bool}{f1:Cac×List Int×Unit->Bool×Unit}(hp1:∀e mem,e.words.length<1000->mem.length<1000000000->e.blk.pc<=1000000->p1 (e,mem,())=true)(hf1:∀e mem,e.words.length<1000->mem.length<1000000000->e.blk.pc<=1000000->f1 (e,mem,())=(fC mem e,()))(e:Cac)(mem:List Int)(hw:e.words.length<1000)(hm:mem.length<1000000000)(hp:e.blk.pc<=1000000):ahv.F (p1,f1,()) (e,mem,()) (λy=>y=(!fC mem e,mem,())):=by
 dsimp only [ahv,gm];simp (disch:=omega) only [RR,hp1 e mem hw hm hp,hf1 e mem hw hm hp]
structure anR(pp:Cac×List Int×Unit->Bool)(ff:Cac×List Int×Unit->Bool×List Int×Unit):Prop where
 hp:∀e mem,e.words.length<1000->mem.length<1000000000->e.blk.pc<=1000000->pp (e,mem,())=true
 hf:∀e mem,e.words.length<1000->mem.length<1000000000->e.blk.pc<=1000000->ff (e,mem,())=(!fC mem e,mem,())
def anS{p1 f1}(U1:anR p1 f1)(l:List Cac)(mem:List Int)(h:ShK l)(hm:mem.length<1000000000):YL.F (p1,f1,()) (l,mem,()) (λy=>y.2.1=mem/\FP (fC mem) l y.1):=by
 have hl:=h.1;dsimp only [YL,gm];refine aB (λ(y:List Cac×Int×Int×List Int×Unit)=>y.1=l/\y.2.1=l.length/\0<=y.2.2.1/\y.2.2.1<=l.length/\y.2.2.2.1=mem/\∀j:Int,0<=j->j<y.2.2.1->fC mem ((l).getD (j).toNat default)=true) (λy=>(l.length-y.2.2.1).toNat) ⟨rfl,rfl,by simp,by simp,rfl,λj h0 h1=>absurd h1 (by simp;omega)⟩ ?_;rintro⟨(l:List Cac),(n:Int),(i:Int),(mem:List Int),⟨⟩⟩ hI;dsimp only at hI ⊢;obtain⟨rfl,rfl,h1,h2,rfl,h3⟩:=hI;obtain⟨a1,a2,a3⟩:=h.at i.toNat;simp (disch:=omega) only [RR,U1.hp _ mem a1 hm a3,U1.hf _ mem a1 hm a3];refine⟨λg=>⟨h1,g,λe=>Or.inr ⟨h1,g,e,h3⟩,λe=>⟨⟨ah,ah,λj j0 j1=> ?_⟩,ah⟩⟩,λg=>Or.inl ⟨rfl,λj j0 j1=>h3 j j0 ah⟩⟩;by_cases c:j<i
 .exact h3 j j0 c
 .rw [show j=i by omega];exact e
def anT{p1 f1}(U1:anR p1 f1){p2:List Cac×List Int×Unit->Bool}{f2:List Cac×List Int×Unit->Int×List Int×Unit}(hp2:∀l mem,ShK l->mem.length<1000000000->p2 (l,mem,())=true)(hf2:∀l mem,ShK l->mem.length<1000000000->(f2 (l,mem,())).2.1=mem/\FP (fC mem) l (f2 (l,mem,())).1)(l:List Cac)(mem:List Int)(h:ShK l)(hm:mem.length<1000000000):YP.F (p1,f1,p2,f2,()) (l,mem,()) (λy=>y=(mem,l.filter (fC mem),())):=by
 obtain⟨hp1,hf1⟩:=U1;have hl:=h.1;have I:=hf2 l mem h hm;have P2:=hp2 l mem h hm;dsimp only [YP,gm];simp (disch:=omega) only [RR,P2];rw [I.1];have F:=I.2;generalize (f2 (l,mem,())).1=k at*;refine⟨λg=> ?_,λg=> ?_⟩
 .rw [filter_all (d:=default) λi hi=> ?_];rcases F with⟨_,f⟩ | ⟨f,_⟩
  .simpa using f i ah ah
  .omega
 .obtain⟨k0,k1,k2,k3⟩:0<=k/\k<l.length/\fC mem ((l).getD (k).toNat default)=false/\∀j:Int,0<=j->j<k->fC mem ((l).getD (j).toNat default)=true:=by
   rcases F with⟨f,_⟩ | f
   .exact absurd f g
   .exact f
  have w:IntKind.i64.wrap (k+1)=k+1:=w64 ah ah;rw [w];refine aB (λ(y:Int×Int×List Cac×List Int×Unit)=>y.2.2.2.1=mem/\zw (fC mem) l y.2.2.1 y.1 y.2.1) (λy=>(l.length-y.2.1).toNat) ⟨rfl,zw.start k0 k1 k2 k3⟩ ?_;rintro⟨(i:Int),(j:Int),(L:List Cac),(mem:List Int),⟨⟩⟩ hI;dsimp only at hI ⊢;obtain⟨rfl,D⟩:=hI;have i0:=D.i0;have ij:=D.ij;have jl:=D.jl;have len:=D.len;have ll:(L.length:Int)=l.length:=by omega
  by_cases c:j<l.length
  .have ej:((L).getD (j).toNat default)=((l).getD (j).toNat default):=D.b j.toNat ah;obtain⟨a1,a2,a3⟩:=h.at j.toNat;rw [<-ej]at a1 a3;have P1:=hp1 _ mem a1 hm a3;have H1:=hf1 _ mem a1 hm a3;by_cases d:fC mem ((L).getD (j).toNat default)=true
   .simp (disch:=omega) only [RR,ll,c,P1,H1,d];exact⟨ah,ah,ah,ah,ah,ah,D.keep c d,ah⟩
   .have d:fC mem ((L).getD (j).toNat default)=false:=by simpa using d
    simp (disch:=omega) only [RR,ll,c,P1,H1,d];exact⟨ah,ah,D.skip c d,ah⟩
  .simp (disch:=omega) only [RR,ll,c];obtain⟨z1,z2⟩:=Tg (L:=L) (n:=l.length) (z:=Co.mk .cac ([],0,0,[],0,0,0,0,())) i0 ah ll;exact⟨ah,ah,ah,ah,ah,ah,ah,ah,z1,ah,ah,Int.le_trans (show 0+(i-0)<=i by omega) z1,Prod.ext rfl (Prod.ext (z2.trans (D.fin c)) rfl)⟩
def aqZ{p1 f1}(U1:anP p1 f1){p2:List Cac×List Int×Unit->Bool}{f2:List Cac×List Int×Unit->List Int×List Cac×Unit}(hp2:∀l mem,ShK l->mem.length<1000000000->p2 (l,mem,())=true)(hf2:∀l mem,ShK l->mem.length<1000000000->f2 (l,mem,())=(mem,l.filter (fC mem),()))(l:List Cac)(mem:List Int)(h:ShK l)(hm:mem.length<1000000000):ahA.F (p1,f1,p2,f2,()) (l,mem,()) (λy=>y=(l.filter (fC mem),())):=by
 have sh:=zu h (fC mem);dsimp only [ahA,gm];simp (disch:=omega) only [RR,U1.hp l h,U1.hf l h,hp2 l mem h hm,hf2 l mem h hm,U1.hp _ sh,U1.hf _ sh]
structure EoD(b:List Int)(p:Int)(y:Eng×List Int×Int×Unit):Prop where
 m:MSh y.1.au
 o:y.1.au.outs.length<=2000
 k:ShK y.1.cache
 kl:y.1.cache.length<=10
 c:ShC y.1.aY
 cl:y.1.aY.length<=10
 b:y.2.1=b
 lo:p<=y.2.2.1
 hi:y.2.2.1<=p+40000000
def Js{α:Type}{l:List α}{x:α}(h:l.length<=4):(l++ [x]).length<=10:=by rw [List.length_append,List.length_singleton];omega
def ShK.set{l:List Cac}(h:ShK l)(i:Nat){x:Cac}(h1:x.words.length<1000)(h2:x.blk.ops.length<1000000)(h3:x.blk.pc<=1000000):ShK (l.set i x):=by
 refine⟨by rw [List.length_set];exact h.1,λc hc=> ?_⟩;rcases List.mem_or_eq_of_mem_set hc with g | rfl
 .exact h.2 c g
 .exact⟨h1,h2,h3⟩
theorem aja{p1 f1 p2 f2 p3 f3 p4 f4 p5 f5 p6 f6 p7 f7 p8 f8}(U1:aas p1 f1)(U2:aqI p2 f2)(U3:Y39 p3 f3)(U4:Y38 p4 f4)(U5:Y40 p5 f5)(U6:Y83 p6 f6)(U7:Y84 p7 f7)(U8:anI p8 f8)(n:Int)(b:List Int)(p:Int)(hb:Bt b)(h1:0<=p)(h2:p<200000000):Pp.F (p1,f1,p2,f2,p3,f3,p4,f4,p5,f5,p6,f6,p7,f7,p8,f8,()) (n,b,p,()) (λy=>EoD b p y):=by
 have mE:∀c:Blk,Co.mk .blk (c.pc,c.len,c.ops,c.fin,c.x,c.y,c.k,())=c:=λ_=>rfl
 have mI:∀x y z u:Int,Co.mk .ins (x,y,z,u,())=⟨x,y,z,u⟩:=λ_ _ _ _=>rfl
 obtain⟨e,q,E,e1,e2,H⟩:=U8.hf b p hb h1 ah;have P8:=U8.hp b p hb h1 ah;have R:=pkR hb U4.hf;have P:=λn p h1 h2=>U4.hp n b p hb h1 h2
 obtain⟨O,O'⟩:=U3.hf n b q hb ah ah;have OP:=U3.hp n b q hb ah ah;have P2:=U2.hp 1 b (q+1+1) hb ah ah;have M:=U2.hf 1 b (q+1+1) hb ah ah;have Mb:=M.b;have P5:=U5.hp b (q+1+1) hb ah ah;obtain⟨W1,W2,W3,_⟩:=U5.hf b (q+1+1) hb ah ah;have P7:=U7.hp b (q+1+1) hb ah ah;have K:=U7.hf b (q+1+1) hb ah ah;have Kb:=K.b;have K1:=K.lo;have K2:=K.hi;have P7':=U7.hp b (f7 (b,q+1+1,())).2.2.2.2.2.2.2.1 hb ah ah;have K':=U7.hf b (f7 (b,q+1+1,())).2.2.2.2.2.2.2.1 hb ah ah;have Kb':=K'.b;have E0:=E.k.at (Int.toNat 0);have P6:=U6.hp (e.cache.getD (Int.toNat 0) default).blk b (q+1+1) E0.2.1 hb ah ah;obtain⟨B,Bp⟩:=U6.hf (e.cache.getD (Int.toNat 0) default).blk b (q+1+1) E0.2.1 hb ah ah;have Bb:=B.b;have P1:=U1.hp 3 [⟨1,0,0,0⟩] (by decide);have H1:=U1.hf 3 [⟨1,0,0,0⟩] (by decide);have lw:((lower 3 [⟨1,0,0,0⟩]).ops.length:Int)<=5000:=ET 3 [⟨1,0,0,0⟩];have lw':(lower 3 [⟨1,0,0,0⟩]).ops.length<1000000:=by omega
 have lp:=Lp 3 [⟨1,0,0,0⟩];have El:=E.kl;have Eo:e.au.outs.length<=2000:=Nat.le_trans E.o (by decide);have Cl:=E.cl;have V:0<e.cache.length->0<=(e.cache.getD (Int.toNat 0) default).blk.pc/\(e.cache.getD (Int.toNat 0) default).blk.pc<e.au.mem.length:=λg=>by rw [getD_lt (show Int.toNat 0<_ from g)];exact E.v _ (List.getElem_mem _)
 have fin:∀(M:aG) (K:List Cac) (C:List Cer) (r:Int),MSh M->M.outs.length<=2000->ShK K->K.length<=10->ShC C->C.length<=10->p<=r->r<=p+40000000->EoD b p (⟨M,K,C⟩,b,r,()):=λM K C r a1 a2 a3 a4 a5 a6 a7 a8=>⟨a1,a2,a3,a4,a5,a6,rfl,a7,a8⟩
 have lc:∀x:Cac,(([x]:List Cac).length:Int)=1:=λ_=>rfl
 have lq:∀x:Cer,(([x]:List Cer).length:Int)=1:=λ_=>rfl
 dsimp only [Pp,gm,jU];simp (disch:=omega) only [RR,CAB,mE,mI,P8,H,R,P,O,O',OP,P2,Mb,P5,W1,P7,Kb,P7',Kb',P6,Bb,P1,H1,lc,lq]
 repeat' (first | (refine And.intro ?_ ?_) | intro _)
 all_goals try omega
 .exact fin ⟨_,_,_,_,_,_,_,_,_,_⟩ _ _ _ ⟨Nat.lt_of_le_of_lt M.r (by decide),Nat.lt_of_le_of_lt M.m (by decide),Nat.lt_of_le_of_lt M.i (by decide),Nat.lt_of_le_of_lt M.o (by decide)⟩ (Nat.le_trans M.o (by decide)) E.k (Nat.le_trans El (by decide)) E.c (Nat.le_trans Cl (by decide)) (Int.le_trans ah M.lo) (Int.le_trans M.hi ah)
 .exact fin e.au _ _ _ E.m Eo (E.k.add ah (show 1<1000 by decide) lw' lp) (Js El) E.c (Nat.le_trans Cl (by decide)) ah ah
 .exact fin e.au _ _ _ E.m Eo (E.k.set _ E0.1 (Nat.lt_of_le_of_lt B.len E0.2.1) (show _<=(1000000:Int) by rw [Bp];exact E0.2.2)) (Nat.le_trans (Nat.le_of_eq List.length_set) (Nat.le_trans El (by decide))) E.c (Nat.le_trans Cl (by decide)) (Int.le_trans ah B.lo) (Int.le_trans B.hi ah)
 .exact fin e.au _ _ _ E.m Eo E.k (Nat.le_trans El (by decide)) E.c (Nat.le_trans Cl (by decide)) ah ah
 .exact fin e.au _ _ _ E.m Eo E.k (Nat.le_trans El (by decide)) (E.c.add ah (Nat.lt_of_le_of_lt K.len (by decide)) (Nat.lt_of_le_of_lt K'.len (by decide))) (Js (Nat.le_trans Cl (by decide))) (Int.le_trans ah K'.lo) (Int.le_trans K'.hi ah)
 .exact fin ⟨_,_,_,_,_,_,_,_,_,_⟩ _ _ _ ⟨E.m.1,by rw [List.length_set];exact E.m.2.1,E.m.2.2⟩ Eo E.k (Nat.le_trans El (by decide)) E.c (Nat.le_trans Cl (by decide)) ah ah
 .exact fin e.au _ _ _ E.m Eo E.k (Nat.le_trans El (by decide)) E.c (Nat.le_trans Cl (by decide)) ah ah
 .exact fin e.au _ _ _ E.m Eo (E.k.add ah E0.1 E0.2.1 E0.2.2) (Js El) E.c (Nat.le_trans Cl (by decide)) ah ah
 .exact fin e.au _ _ _ E.m Eo E.k (Nat.le_trans El (by decide)) E.c (Nat.le_trans Cl (by decide)) ah ah
 .exact fin e.au _ _ _ E.m Eo E.k (Nat.le_trans El (by decide)) E.c (Nat.le_trans Cl (by decide)) ah ah
def aaG(l:List Cac)(e:Cac):jJ (jJ l e) e=jJ l e:=by
 have n:(jJ l e).filter (neP e.blk.pc)=(l.filter (neP e.blk.pc)).drop ((l.filter (neP e.blk.pc)).length+1-4):=by
  rw [Jr,List.filter_append];have a:∀L:List Cac,(∀x∈L,neP e.blk.pc x=true)->L.filter (neP e.blk.pc)=L:=λL h=>List.filter_eq_self.2 h
  rw [a _ (λx hx=>(List.mem_filter.1 (List.mem_of_mem_drop hx)).2)];simp [neP]
 rw [Jr (jJ l e),n,show(List.drop ((l.filter (neP e.blk.pc)).length+1-4) (l.filter (neP e.blk.pc))).length+1-4=0 by rw [List.length_drop];omega,List.drop_zero,Jr]
def ad9{y:Eng}(h:Ll y):y.cache.filter (fC y.au.mem)=y.cache:=by
 refine List.filter_eq_self.2 λx hx=> ?_
 obtain⟨i,hi,rfl⟩:=List.getElem_of_mem hx;have k:=h.2.1.2.1 i ah ah;rw [show((i:Int)).toNat=i from rfl,getD_lt hi]at k;exact aP ⟨k.1.2.1.pc.1,k.2⟩
def anU{p1 f1}(U1:Y41 p1 f1){p2:Int×List Int×Int×Unit->Bool}{f2:Int×List Int×Int×Unit->Eng×List Int×Int×Unit}(hp2:∀n b p,Bt b->0<=p->p<200000000->p2 (n,b,p,())=true)(hf2:∀n b p,Bt b->0<=p->p<200000000->EoD b p (f2 (n,b,p,())))(c:List Int)(hc:By c)(hl:c.length<1000000000):YX.F (p1,f1,p2,f2,()) (c,()) (λy=>MSh y.1.au/\y.1.au.outs.length<=2000/\ShK y.1.cache/\ShC y.1.aY):=by
 obtain⟨hb,e0⟩:=U1.hf c hc hl;generalize hbe:(f1 (c,())).1=b at hb;have E:=hf2 2 b 0 hb ah ah;have P2:=hp2 2 b 0 hb ah ah;dsimp only [YX,gm];simp (disch:=omega) only [RR,U1.hp c hc hl,hbe,e0,P2];exact⟨E.m,E.o,E.k,E.c⟩
def anV{p1 f1 p2 f2 p3 f3 p4 f4 p5 f5 p7 f7}(U1:aiZ p1 f1)(U2:aqU p2 f2)(U3:aqV p3 f3)(U4:Y47 p4 f4)(U5:aqW p5 f5){p6:List Int×Unit->Bool}{f6:List Int×Unit->Eng×Unit}(hp6:∀c,By c->c.length<1000000000->p6 (c,())=true)(hf6:∀c,By c->c.length<1000000000->MSh (f6 (c,())).1.au/\(f6 (c,())).1.au.outs.length<=2000/\ShK (f6 (c,())).1.cache/\ShC (f6 (c,())).1.aY)(U7:anG p7 f7)(c:List Int)(hc:By c):YZ.F (p1,f1,p2,f2,p3,f3,p4,f4,p5,f5,p6,f6,p7,f7,()) (c,()) (λy=>y=(true,())):=by
 obtain⟨hp1,hf1⟩:=U1;obtain⟨hp2,hf2⟩:=U2;obtain⟨hp3,hf3⟩:=U3;obtain⟨hp4,hf4⟩:=U4;obtain⟨hp5,hf5⟩:=U5;obtain⟨hp7,hf7⟩:=U7;dsimp only [YZ,gm];by_cases hl:1048576< (c.length:Int)
 .simp (disch:=omega) only [RR,hl]
 obtain⟨D1,D2,D3,D4⟩:=hf5 c hc ah;have P5:=hp5 c hc ah;obtain⟨m1,m2,m3,m4⟩:=hf6 c hc ah;have P6:=hp6 c hc ah;generalize f6 (c,())=z at*;obtain⟨y,⟨⟩⟩:=z;dsimp only at m1 m2 m3 m4;generalize hy:f5 (c,())=y at*;obtain⟨l,e,⟨⟩⟩:=y;dsimp only at D1 D2 D3 D4;have S:=Jq D1 D2 D3 D4;have P2:=hp2 l e D1 D2 D3 D4;have H2:=hf2 l e D1 D2 D3 D4;have P2':=hp2 _ e S.1 D2 D3 D4;have H2':=hf2 _ e S.1 D2 D3 D4;rw [aaG]at H2';generalize jJ l e=X at*;have P3:=hp3 X X S.1;have H3:=hf3 X X S.1;rw [aP rfl]at H3;have P7:=hp7 _ m1 m3 m4.d;have H7:=hf7 _ m1 m3 m4.d;have P1:=hp1 _ _ m3 m1.2.1;have H1:=hf1 _ _ m3 m1.2.1;have Q3:=hp3 _ y.cache (zu m3 (fC y.au.mem));have G3:=hf3 _ y.cache (zu m3 (fC y.au.mem));simp (disch:=omega) only [RR,hl,P5,hy,P2,H2,P2',H2',P3,H3,P6,P7,H7,P1,H1,Q3,G3,EGB];refine⟨λg=> ?_,id⟩;have k:=ad9 (aU.1 g);rw [k,aP rfl,g,hf4];exact⟨Or.inr hp4,rfl⟩
end Go.TX.F
namespace Go.TX
open Go Go.AE
def enters_of{P:Program}{f:FuncId}{fn:Func}{c:Code}(hf:P.funcs[f]? =some fn)(hname:(fn.name== "runtime.NumGoroutine")=false)(hb:fn.body=some c):Enters P f:=by
 intro args w;have h1:fn.name≠ "runtime.NumGoroutine" :=by simpa using hname
 simp [callFunc,hf,h1,hb,mark]
def Ti(P:Program):Nat->List Field->Bool
 | _,[]=>true
 | k,f::fs=> !(f.name== "_")&&f.offset==k&& (match P.underlying f.type with | some (.int _)=>true | _=>false)&&Ti P (k+1) fs
def Tj{P:Program}(w:World)(d:Nat)(xs ys:List Int)(hl:xs.length=ys.length):∀(fs:List Field) (k:Nat),Ti P k fs=true->k+fs.length=xs.length->
  (Op.eqFields (d+1) (xs.map (Value.int .i64)).toArray (ys.map (Value.int .i64)).toArray fs).run P w= .ok (xs.drop k==ys.drop k) w
 | [],k,_,h2=>by
  rw [List.drop_eq_nil_of_le (show xs.length<=k by simp only [List.length_nil]at h2;omega),List.drop_eq_nil_of_le (show ys.length<=k by simp only [List.length_nil]at h2;omega)];simp [Op.eqFields]
 | f::fs,k,h1,h2=>by
  simp only [List.length_cons]at h2;simp only [Ti,Bool.and_eq_true,Bool.not_eq_true',beq_eq_false_iff_ne,beq_iff_eq]at h1;obtain⟨⟨⟨n1,n2⟩,n3⟩,n4⟩:=h1;have hk:k<xs.length:=by omega
  have hk':k<ys.length:=by omega
  obtain⟨kd,hu⟩:∃kd,P.underlying f.type=some (.int kd):=by
   cases hu:P.underlying f.type with
   | none=>rw [hu]at n3;cases n3
   | some z=>cases z<;>(first | exact⟨_,rfl⟩ | (rw [hu]at n3;cases n3))
  have pk:P.plainKey f.type=true:=by unfold Program.plainKey;rw [hu]
  have p1:=run_part_plain w pk (xs:=(xs.map (Value.int .i64)).toArray) (off:=f.offset) (v:= .int .i64 xs[k]) (by rw [n2];simp [hk]);have p2:=run_part_plain w pk (xs:=(ys.map (Value.int .i64)).toArray) (off:=f.offset) (v:= .int .i64 ys[k]) (by rw [n2];simp [hk']);have ih:=Tj w d xs ys hl fs (k+1) n4 ah;simp only [Op.eqFields,if_pos n1,Sem.run_bind,p1,p2,Result.andThen_ok,run_equalIn_int w d f.type .i64 kd _ _ hu];have e:(xs.drop k==ys.drop k)=((xs[k]==ys[k])&& (xs.drop (k+1)==ys.drop (k+1))):=by rw [List.drop_eq_getElem_cons hk,List.drop_eq_getElem_cons hk'];rfl
  rw [e];by_cases c:(xs[k]==ys[k])=true
  .rw [c];simp only [Bool.not_true,Bool.false_eq_true,if_false,ih,Bool.true_and]
  .have c2:(xs[k]==ys[k])=false:=by simpa using c
   rw [c2];simp only [Bool.not_false,if_true,Sem.run_pure,Bool.false_and]
def ajb{P:Program}{t:TypeId}{n:Nat}(hu:P.underlying t=some (.struct (P.fieldsOf t)))(hs:P.stoodInHeld t=false)(hg:P.eqGuardType P.depth t=false)(hf:Ti P 0 (P.fieldsOf t).toList=true)(hn:(P.fieldsOf t).size=n)(xs ys:List Int)(hx:xs.length=n)(hy:ys.length=n)(w:World):
  (Op.equal t (.agg (xs.map (Value.int .i64)).toArray) (.agg (ys.map (Value.int .i64)).toArray)).run P w= .ok (xs==ys) w/\
  (eqGuard .eql t (.tmp 0) (.tmp 0) (.agg (xs.map (Value.int .i64)).toArray) (.agg (ys.map (Value.int .i64)).toArray)).run P w= .ok () w:=by
 refine⟨?_,run_eqGuard_agg w _ _ _ _ _ _ hg⟩;show(Op.equalIn (9999+1) t _ _).run P w=_;rw [run_equalIn_struct w 9999 t _ _ hu hs,Tj w 9998 xs ys ah _ 0 hf (by rw [Array.length_toList];omega)];rfl
abbrev aq0:Sig:={args:=[.c (.rows true .u8)],objs:=[],res:=[.c .bool],dQ:=[]}
def entry(W:World):Ctx:={K:=λ_ b=>b<W.heap.size,ν:=λ_=>none,n:=0}
def Qj(W:World):bI (entry W) W []:=
 ⟨λl o h=>(by cases h),λl o l' o' b h=>(by cases h),λf b ⟨l,o,h,_⟩=>(by cases h),λf b h=>h,λb h=>h⟩
def Ls{W W':World}{c':Ctx}{h':Heap}(g:Grow (entry W) W [] c' W' h'):RowKit.Below W.heap.size W W':=
 ⟨g.os,g.tape,g.output,g.size,λk hk=>g.kept k hk λ⟨l,o,h,_⟩=>by cases h⟩
def aea{c:Ctx}{w:World}{v:Value}{r:PV}{N:NM}{b:Bool}(h1:bH c w v r)(h2:PVR N r (.c (.d true (.bool b)))):v= .bool b:=by
 cases h2 with
 | one h=>
  cases h with
  | c h=>
   cases h with
   | d h3 _=>
    subst h3;cases h1 with
    | c _ _ h4=>cases h4 with
     | d _ _ _ h5=>cases h5;rfl
  | agg h=>cases h
def aq1{E:Tab}{f:FuncId}{c:Ct aI aq0}(hc:kG E f (jE c)){xs:List Int}{W:World}{v:Value}(hv:dI (λb=>b<W.heap.size) W v (.rows 1 (aO .u8 xs)))
  (hg:o9 E (entry W) W) (hp:c.pre (xs,())=true):Go.Calls E.P f #[v] W λe W'=>e= .returned (.bool (c.fn (xs,())).1)/\RowKit.Below W.heap.size W W':=by
 refine(hc.calls [.c (.d true (.rows 1 (aO .u8 xs)))] [] 0 (λr _ _=>PVR (nmh []) r (.c (.d true (.bool (c.fn (xs,())).1)))) ?_ (entry W) W [v] rfl (.cons (.c _ _ (.d true _ _ hv)) .nil) (Qj W) hg).mono ?_
 .refine⟨0,[.c (.d true (.rows .u8 xs))],[],.cons (.one (.c (.d rfl λ_=> .inl rfl))) .nil,⟨λl o h=>(by cases h),λ_ _=>rfl⟩,rfl,_,rfl,?_,_,_,rfl,?_⟩
  .intro b hb;rcases List.mem_append.1 hb with h | h
   .cases h
   .rw [List.mem_singleton]at h;rw [h];exact hp
  .intro r _ _ h _ _ _;exact h
 .rintro e W' he;cases e with
  | returned u=>
   obtain⟨c',r,h',j,g,_,_,h1,h2⟩:=he;exact⟨by rw [aea h1 h2],Ls g⟩
  | outgrown=>exact he.elim
  | panicked _=>exact he.elim
open Go.RowKit Go.ChangeShapes Go.WideShapes Go.ChangeAt in
def aaH{H:Type}{enc:TypeId×Value->H}{P:Program}{t e:TypeId}(ht:P.underlying t=some (.slice e))(he:P.underlying e=some (.int .u8))(hc:P.cellsOf e=1){W:World}{base:Nat}{v:Value}{d:DataW H}{p:List MemPlace}
  (hval:Value.okWide P W .any base t v) (h:DataW.Trod enc P W 0 (λ_=>true) true t v d p) (hlt:∀x∈p,x.block<W.heap.size):
  ∃xs:List Int,dI (λb=>b<W.heap.size) W v (.rows 1 (aO .u8 xs))/\∀z∈xs,0<=z/\z<=255:=by
 obtain⟨a0,len,cap,rfl⟩:=okWide_slice ht hval;obtain⟨fuel,hf⟩:=h;rcases open_ints ht he hc hf with⟨hcs,hx⟩ | ⟨a,len',cap',zs,hcs,_,hl,hm,hz,hx,hcell,hwz⟩
 .simp [Value.cells]at hcs;obtain⟨rfl,rfl,rfl⟩:=hcs;exact⟨[],.none _ _ _,λ_ h=>by cases h⟩
 .simp [Value.cells]at hcs;obtain⟨rfl,rfl,rfl⟩:=hcs;simp only [Prod.mk.injEq]at hx;obtain⟨rfl,rfl⟩:=hx;simp only [if_true]at hz;have rng:∀z∈zs,0<=z/\z<=255:=λz hz=>by
   obtain⟨i,hi,rfl⟩:=List.getElem_of_mem hz;have:=range_u8 hwz i
   rwa [List.getElem?_eq_getElem hi]at this
  refine⟨zs.take len,?_,λz h=>rng z (List.mem_of_mem_take h)⟩;by_cases h0:len=0
  .subst h0;exact .none _ _ _
  .obtain⟨b,off,spot⟩:=a;have hspot:spot=none:=by simpa [Addr.add]using World.cell?_spot (hcell 0 ah)
   subst hspot;have hbW:b<W.heap.size:=hlt (.cell b off) (MemPlace.mem_row.2 ⟨0,ah,by simp⟩);have hlen:(aO .u8 (zs.take len)).length=len:=by simp only [aO,List.length_map,List.length_take];omega
   have hget:∀i,i<len->(aO .u8 (zs.take len)).getD i []=[.int .u8 (zs.getD i 0)]:=λi hi=>by
    simp only [aO,List.getD,List.getElem?_map,List.getElem?_take_of_lt hi,List.getElem?_eq_getElem (show i<zs.length by omega)];rfl
   refine .rows b off cap 1 len _ (λi j=> .int .u8 (zs.getD i 0)) hbW hlen.symm hl (λi j hi hj=> ?_) (λi hi=> ?_) (λi j hi hj=> ?_)
   .rw [hlen]at hi;have:=hcell i ah;rw [add_plain]at this;rw [show off+i*1+j=off+i by omega];exact this
   .rw [hlen]at hi;rw [hget i hi];rfl
   .rw [hlen]at hi;have hj0:j=0:=by omega
    subst hj0;unfold gd;rw [hget i hi];exact .int _ _
end Go.TX
namespace Go.TX.Seat
open Go Go.AE Go.TX Go.TX.F Go.Proofs
set_option maxRecDepth 100000
theorem aq2:∀t n,E.ieq t=some n->∀(xs ys:List Int),xs.length=n->ys.length=n->∀w,
  (Op.equal t (.agg (xs.map (Value.int .i64)).toArray) (.agg (ys.map (Value.int .i64)).toArray)).run E.P w= .ok (xs==ys) w/\
  (eqGuard .eql t (.tmp 0) (.tmp 0) (.agg (xs.map (Value.int .i64)).toArray) (.agg (ys.map (Value.int .i64)).toArray)).run E.P w= .ok () w:=by
 intro t n h;obtain⟨c,hc,rfl⟩:∃c,ieq t=some c/\c.size=n:=by
  have h':(ieq t).map (λc=>c.size)=some n:=h;cases hi:ieq t with
  | none=>rw [hi]at h';cases h'
  | some c=>rw [hi]at h';cases h';exact⟨c,rfl,rfl⟩
 unfold ieq at hc;split at hc
 all_goals first | (cases hc;exact ajb (by kernel_rfl) (by kernel_rfl) (by kernel_rfl) (by kernel_rfl) (by kernel_rfl)) | cases hc
theorem hE:aH E:=⟨aqk,aq2⟩
theorem aq3:∀t c,X.ieq t=some c->(c= .ins/\E.ieq t=some 4)\/(c= .iop/\E.ieq t=some 5):=by
 intro t c h;have h:ieq t=some c:=h;have e:E.ieq t=(ieq t).map λc=>c.size:=rfl
 rw [e,h];unfold ieq at h;split at h
 all_goals first | (cases h;first | exact Or.inl ⟨rfl,rfl⟩ | exact Or.inr ⟨rfl,rfl⟩) | cases h
theorem xok:XOK X E:=⟨rfl,λg c h=>(by
    first
    | (cases h;done)
    | (dsimp only [X] at h
       split at h
       · rename_i e;cases h;unfold E;dsimp only;rw [if_pos e];rfl
       · cases h)),aq3⟩
theorem hm:E.P.follows .mixedOrders=true:=by kernel_rfl
structure HL(l:List (Nat×Sig)) where
 C:Cs (std 0) l
 h:∀p∈csl (std 0) l C,kG E p.1 (jE p.2.2)
abbrev hn : HL [] := ⟨(), λ_ h => by cases h⟩
abbrev hk{f : FuncId}{s : Sig}{c : Ct aI s}{l : List (Nat × Sig)}(h : kG E f (jE c))(r : HL l) : HL ((f, s) :: l) := ⟨(c.pre, c.fn, r.C), λp hp => by
 rcases List.mem_cons.1 hp with rfl | hp
 .exact h
 .exact r.h p hp⟩
structure Mt{lk:aF}{s:Sig}{an:Ann}{fn:Func}{l:List (Nat×Sig)}(f:FuncId)(g:Gt lk X E an s fn l) where
 H:HL l
 k:Fn E f (g.F H.C) (cn (g.F H.C))
section
variable {lk:aF} {s:Sig} {an:Ann} {fn:Func} {l:List (Nat×Sig)} {f:FuncId}
@[irreducible] noncomputable def Mt.c {g : Gt lk X E an s fn l} (t : Mt f g) : Ct aI s := cn (g.F t.H.C)
theorem Mt.cs{g:Gt lk X E an s fn l}(t:Mt f g){x:gN s.inp}{Q:gN s.out->Prop}(h:g.F t.H.C x Q):t.c.pre x=true/\Q (t.c.fn x):=by unfold Mt.c;exact t.k.cs h
theorem Mt.ok{g:Gt lk X E an s fn l}(t:Mt f g):kG E f (jE t.c):=by unfold Mt.c;exact t.k.ok
@[reducible] noncomputable def hc {r : List (Nat × Sig)} {g : Gt lk X E an s fn l} (t : Mt f g) (h : HL r) : HL ((f, s) :: r) := hk t.ok h
theorem mkF(hf:E.P.funcs[f]? =some fn)(g:Gt lk X E an s fn l)(H:HL l)
 (hb:fn.body.isSome=true:=by rfl) (hn:(fn.name== "runtime.NumGoroutine")=false:=by kernel_rfl):Fn E f (g.F H.C) (cn (g.F H.C)):=aqh hE xok hm hf hb (λ_=>enters_of hf hn) H.h (g.h H.C)
noncomputable def mk (g:Gt lk X E an s fn l) (hf:E.P.funcs[f]? =some fn) (H:HL l)
 (hb:fn.body.isSome=true:=by rfl) (hn:(fn.name== "runtime.NumGoroutine")=false:=by kernel_rfl):Mt f g:=⟨H,mkF hf g H hb hn⟩
end
end Go.TX.Seat
namespace Go.TX.F
open Go Go.AE Go.TX Go.TX.Seat Go.Proofs
set_option maxRecDepth 100000
set_option maxHeartbeats 4000000
noncomputable def Jt:=mk Nn Tryz.func21 hn
def aaI:=λb hb hl=>(Jt.cs (Zv b hb hl:)).1
def aaJ:=λb hb hl=>(Jt.cs (Zv b hb hl:)).2
noncomputable def fP:=mk Np Tryz.func23 hn
def gV:=λn b p hb h1 h2=>(fP.cs (Zw n b p hb h1 h2:)).1
def gW:=λn b p hb h1 h2=>(fP.cs (Zw n b p hb h1 h2:)).2
noncomputable def zy:=mk Xv Tryz.func58 hn
def E8:=λa=>(zy.cs (ae9 a:)).1
def E9:=λa=>(zy.cs (ae9 a:)).2
noncomputable def Qk:=mk Nq Tryz.func57 (hc zy hn)
def sO:=λl h=>Qk.cs (aiE ⟨E8,E9⟩ l h:)
def aaK:=λl h=>(sO l h).1
def aaL:=λl h=>(sO l h).2
noncomputable def jK:=mk Nr Tryz.func59 hn
def kE:=λa b c=>(jK.cs (Zi a b c:)).1
def kF:=λa b c=>(jK.cs (Zi a b c:)).2
noncomputable def Fa:=mk Xw Tryz.func42 (hc zy (hc jK (hc Qk hn)))
def zB:=λm h=>Fa.cs (amY ⟨E8,E9⟩ ⟨kE,kF⟩ ⟨aaK,aaL⟩ m h:)
def GQ:=λm h=>(zB m h).1
def GU:=λm h=>(zB m h).2
noncomputable def x9:=mk Nt Tryz.func91 hn
def Fb:=λm h=>(x9.cs (aak m h:)).1
def Fe:=λm h=>(x9.cs (aak m h:)).2
noncomputable def afw:=mk Xx Tryz.func62 (hc Fa (hc x9 hn))
def vW:=λm h=>afw.cs (ant ⟨GQ,GU⟩ ⟨Fb,Fe⟩ m h:)
def anW:=λm h=>(vW m h).1
def anX:=λm h=>(vW m h).2
noncomputable def aaM:=mk Xy Tryz.func63 (hc Qk hn)
def vX:=λw i hw hi=>aaM.cs (am4 ⟨aaK,aaL⟩ w i hw hi:)
def afx:=λw i hw hi=>(vX w i hw hi).1
def afy:=λw i hw hi=>(vX w i hw hi).2
noncomputable def Bc:=mk Nu Tryz.func27 (hc fP hn)
def oV:=λn b p hb h1 h2=>Bc.cs (ah1 ⟨gV,gW⟩ n b p hb h1 h2:)
def Fg:=λn b p hb h1 h2=>(oV n b p hb h1 h2).1
def Fh:=λn b p hb h1 h2=>(oV n b p hb h1 h2).2
noncomputable def Ql:=mk Nv Tryz.func104 hn
def ajc:=λi=>(Ql.cs (sK i:)).1
def ajd:=λi=>(Ql.cs (sK i:)).2
noncomputable def Lu:=mk Xz Tryz.func71 (hc jK (hc Ql hn))
def zC:=λi=>Lu.cs (FN ⟨kE,kF⟩ ajc ajd i:)
def Tk:=λi=>(zC i).1
def Tm:=λi=>(zC i).2
noncomputable def aaN:=mk XA Tryz.func48 (hc Lu hn)
def vY:=λi=>aaN.cs (am1 ⟨Tk,Tm⟩ i:)
def afz:=λi=>(vY i).1
def afA:=λi=>(vY i).2
noncomputable def Tn:=mk XB Tryz.func29 (hc aaN hn)
def qF:=λl hl=>Tn.cs (am3 ⟨afz,afA⟩ l hl:)
def aaO:=λl hl=>(qF l hl).1
def aaP:=λl hl=>(qF l hl).2
noncomputable def Ju:=mk Nw Tryz.func37 (hc fP hn)
def sP:=λb p hb h1 h2=>Ju.cs (ah2 ⟨gV,gW⟩ b p hb h1 h2:)
def Qm:=λb p hb h1 h2=>(sP b p hb h1 h2).1
def Qn:=λb p hb h1 h2=>(sP b p hb h1 h2).2
noncomputable def Qo:=mk Ny Tryz.func69 (hc fP hn)
def vZ:=λb p hb h1 h2=>Qo.cs (aii ⟨gV,gW⟩ b p hb h1 h2:)
def aaQ:=λb p hb h1 h2=>(vZ b p hb h1 h2).1
def aaR:=λb p hb h1 h2=>(vZ b p hb h1 h2).2
noncomputable def Lv:=mk XC Tryz.func72 hn
def aaS:=λa=>(Lv.cs (qE a:)).1
def aaT:=λa=>(Lv.cs (qE a:)).2
noncomputable def Qp:=mk Nz Tryz.func70 (hc Lv (hc Lu hn))
def sQ:=λi=>Qp.cs (Cm ⟨aaS,aaT⟩ ⟨Tk,Tm⟩ i:)
def aaU:=λi=>(sQ i).1
def aje:=λi=>(sQ i).2
noncomputable def Jv:=mk NA Tryz.func47 (hc Qo (hc fP (hc Qp hn)))
def sS:=λb p hb h1 h2=>Jv.cs (aij ⟨aaQ,aaR⟩ ⟨gV,gW⟩ ⟨aaU⟩ b p hb h1 h2:)
def Qq:=λb p hb h1 h2=>(sS b p hb h1 h2).1
def Qr:=λb p hb h1 h2=>(sS b p hb h1 h2).2
noncomputable def aaV:=mk NC Tryz.func92 (hc Jv (hc fP hn))
def sU:=λt b p hb t0 h1 h2=>aaV.cs (aiT ⟨Qq,Qr⟩ ⟨gV,gW⟩ t b p hb t0 h1 h2:)
def ajf:=λt b p hb t0 h1 h2=>(sU t b p hb t0 h1 h2).1
def ajg:=λt b p hb t0 h1 h2=>(sU t b p hb t0 h1 h2).2
noncomputable def aaW:=mk ND Tryz.func93 (hc fP hn)
def sV:=λt b p hb t0 h1 h2=>aaW.cs (aiS ⟨gV,gW⟩ t b p hb t0 h1 h2:)
def ajh:=λt b p hb t0 h1 h2=>(sV t b p hb t0 h1 h2).1
def aji:=λt b p hb t0 h1 h2=>(sV t b p hb t0 h1 h2).2
noncomputable def Qs:=mk NG Tryz.func64 (hc Tn (hc aaN (hc aaV (hc Jv (hc Qo (hc aaW (hc Bc (hc fP (hc Ju hn)))))))))
def qG:=λb p hb h1 h2=>Qs.cs (aiV ⟨aaO,aaP⟩ ⟨afz,afA⟩ ajf ajg ⟨Qq,Qr⟩ ⟨aaQ,aaR⟩ ajh aji ⟨Fg,Fh⟩ ⟨gV,gW⟩ ⟨Qm,Qn⟩ b p hb h1 h2:)
def aaX:=λb p hb h1 h2=>(qG b p hb h1 h2).1
def aaY:=λb p hb h1 h2=>(qG b p hb h1 h2).2
noncomputable def Qt:=mk NH Tryz.func65 (hc Ju hn)
def qH:=λn b p hb hn h1 h2=>Qt.cs (ah3 ⟨Qm,Qn⟩ n b p hb hn h1 h2:)
def aaZ:=λn b p hb hn h1 h2=>(qH n b p hb hn h1 h2).1
def aa0:=λn b p hb hn h1 h2=>(qH n b p hb hn h1 h2).2
noncomputable def Qu:=mk NI Tryz.func66 (hc fP hn)
def sW:=λb p hb h1 h2=>Qu.cs (aiR ⟨gV,gW⟩ b p hb h1 h2:)
def aa1:=λb p hb h1 h2=>(sW b p hb h1 h2).1
def aa2:=λb p hb h1 h2=>(sW b p hb h1 h2).2
noncomputable def sZ:=mk NJ Tryz.func52 hn
def Bd:=λb hb=>(sZ.cs (ZJ b hb:)).1
def Bf:=λb hb=>(sZ.cs (ZJ b hb:)).2
noncomputable def Tp:=mk XD Tryz.func36 (hc sZ hn)
def qI:=λe hw ho=>Tp.cs (anj ⟨Bd,Bf⟩ e hw ho:)
def aa3:=λe hw ho=>(qI e hw ho).1
def aa4:=λe hw ho=>(qI e hw ho).2
noncomputable def Tq:=mk XE Tryz.func40 hn
def afB:=λw mem pc hw hm p0 p1=>(Tq.cs (afr w mem pc hw hm p0 p1:)).1
def afC:=λw mem pc hw hm p0 p1=>(Tq.cs (afr w mem pc hw hm p0 p1:)).2
noncomputable def aa5:=mk XF Tryz.func17 (hc Tp (hc Tq hn))
def tq:=λl mem h hm=>aa5.cs (anl ⟨aa3,aa4⟩ ⟨afB,afC⟩ l mem h hm:)
def afD:=λl mem h hm=>(tq l mem h hm).1
def afE:=λl mem h hm=>(tq l mem h hm).2
noncomputable def aa6:=mk XG Tryz.func49 (hc Lv (hc Lu (hc jK (hc Qp hn))))
def zD:=λpc l hl=>aa6.cs (FR ⟨aaS,aaT⟩ ⟨Tk,Tm⟩ ⟨kE,kF⟩ aaU aje pc l hl:)
def afF:=λpc l hl=>(zD pc l hl).1
def afG:=λpc l hl=>(zD pc l hl).2
noncomputable def yg:=mk NK Tryz.func73 hn
def yh:=λa1 a2 a3 a4 a5 a6 o ops h=>(yg.cs (vS a1 a2 a3 a4 a5 a6 o ops h:)).1
def yj:=λa1 a2 a3 a4 a5 a6 o ops h=>(yg.cs (vS a1 a2 a3 a4 a5 a6 o ops h:)).2
noncomputable def Jw:=mk NP Tryz.func74 (hc yg hn)
def aa7:=λa1 a2 a3 a4 a5 a6 k x ops h=>(Jw.cs (vV ⟨yh,yj⟩ a1 a2 a3 a4 a5 a6 k x ops h:)).1
def aa8:=λa1 a2 a3 a4 a5 a6 k x ops h=>(Jw.cs (vV ⟨yh,yj⟩ a1 a2 a3 a4 a5 a6 k x ops h:)).2
noncomputable def Bg:=mk NQ Tryz.func75 (hc yg hn)
def Jy:=λa1 a2 a3 a4 a5 a6 k ops h=>(Bg.cs (vU ⟨yh,yj⟩ a1 a2 a3 a4 a5 a6 k ops h:)).1
def Jz:=λa1 a2 a3 a4 a5 a6 k ops h=>(Bg.cs (vU ⟨yh,yj⟩ a1 a2 a3 a4 a5 a6 k ops h:)).2
noncomputable def Qv:=mk NR Tryz.func76 (hc Bg (hc yg hn))
def qJ:=λa1 a2 a3 a4 a5 a6 k a o ops h=>Qv.cs (A8 ⟨Jy,Jz⟩ ⟨yh,yj⟩ a1 a2 a3 a4 a5 a6 k a o ops h:)
def aa9:=λa1 a2 a3 a4 a5 a6 k a o ops h=>(qJ a1 a2 a3 a4 a5 a6 k a o ops h).1
def abb:=λa1 a2 a3 a4 a5 a6 k a o ops h=>(qJ a1 a2 a3 a4 a5 a6 k a o ops h).2
noncomputable def Qw:=mk NS Tryz.func77 hn
def ajj:=λk k0 k1=>(Qw.cs (qD k k0 k1:)).1
def ajk:=λk k0 k1=>(Qw.cs (qD k k0 k1:)).2
noncomputable def abd:=mk NT Tryz.func78 (hc Bg (hc yg (hc Qv (hc Jw hn))))
def tu:=λa1 a2 a3 a4 a5 a6 i n ops hi h=>abd.cs (Ck ⟨Jy,Jz⟩ ⟨yh,yj⟩ ⟨aa9,abb⟩ ⟨aa7,aa8⟩ a1 a2 a3 a4 a5 a6 i n ops hi h:)
def ajl:=λa1 a2 a3 a4 a5 a6 i n ops hi h=>(tu a1 a2 a3 a4 a5 a6 i n ops hi h).1
def ajm:=λa1 a2 a3 a4 a5 a6 i n ops hi h=>(tu a1 a2 a3 a4 a5 a6 i n ops hi h).2
set_option maxRecDepth 100000
set_option maxHeartbeats 4000000
noncomputable def abe:=mk NU Tryz.func79 (hc Bg hn)
def wo:=λB i hi h=>abe.cs (ER ⟨Jy,Jz⟩ B i hi h:)
def ajn:=λB i hi h=>(wo B i hi h).1
def ajo:=λB i hi h=>(wo B i hi h).2
noncomputable def abf:=mk NV Tryz.func50 (hc Bg (hc abe (hc yg (hc abd (hc Qv (hc Jw (hc Qw hn)))))))
def zF:=λB i n hi h0 h=>abf.cs (FQ ⟨Jy,Jz⟩ ajn ajo ⟨yh,yj⟩ ajl ajm ⟨aa9,abb⟩ ⟨aa7,aa8⟩ ajj ajk B i n hi h0 h:)
def ajp:=λB i n hi h0 h=>(zF B i n hi h0 h).1
def ajq:=λB i n hi h0 h=>(zF B i n hi h0 h).2
noncomputable def Fj:=mk XH Tryz.func30 (hc aa6 (hc abf hn))
def qK:=λpc l hl=>Fj.cs (A9 ⟨afF,afG⟩ ajp ajq pc l hl:)
def GV:=λpc l hl=>(qK pc l hl).1
def GX:=λpc l hl=>(qK pc l hl).2
noncomputable def abg:=mk NW Tryz.func166 (hc jK hn)
def tC:=λk=>abg.cs (ah7 ⟨kE,kF⟩ k:)
def ajr:=λk=>(tC k).1
def ajs:=λk=>(tC k).2
noncomputable def Qx:=mk NY Tryz.func144 (hc abg hn)
def zG:=λops x n h1=>Qx.cs (ah8 ajr ajs ops x n h1:)
def abh:=λops x n h1=>(zG ops x n h1).1
def abj:=λops x n h1=>(zG ops x n h1).2
noncomputable def abk:=mk NZ Tryz.func111 (hc zy (hc jK (hc Qx hn)))
def BQ:=λops i len h0 h1 h3=>abk.cs (ah9 ⟨E8,E9⟩ ⟨kE,kF⟩ ⟨abh,abj⟩ ops i len h0 h1 h3:)
def ajt:=λops i len h0 h1 h3=>(BQ ops i len h0 h1 h3).1
def aju:=λops i len h0 h1 h3=>(BQ ops i len h0 h1 h3).2
noncomputable def abl:=mk N7 Tryz.func112 (hc zy (hc Qx hn))
def zH:=λb=>abl.cs (aic ⟨E8,E9⟩ ⟨abh,abj⟩ b:)
def ajv:=λb=>(zH b).1
def ajw:=λb=>(zH b).2
noncomputable def tF:=mk XI Tryz.func86 (hc jK (hc abl (hc abk hn)))
def BR:=λb h2=>tF.cs (amq ⟨kE,kF⟩ ajv ajw ajt aju b h2:)
def wu:=λb h2=>(BR b h2).1
def wz:=λb h2=>(BR b h2).2
noncomputable def Tt:=mk XJ Tryz.func87 hn
def afH:=λa b ha=>(Tt.cs (afo a b ha:)).1
def afI:=λa b ha=>(Tt.cs (afo a b ha:)).2
noncomputable def Lx:=mk XK Tryz.func113 (hc jK hn)
def tH:=λa=>Lx.cs (al9 ⟨kE,kF⟩ a:)
def Tv:=λa=>(tH a).1
def Tw:=λa=>(tH a).2
noncomputable def abm:=mk XL Tryz.func88 (hc Lx hn)
def wB:=abm.cs (amk ⟨Tv,Tw⟩:)
def afJ:=(wB).1
def afK:=(wB).2
noncomputable def Fp:=mk N8 Tryz.func155 hn
def Qy:=λa b ha=>(Fp.cs (Zk a b ha:)).1
def Qz:=λa b ha=>(Fp.cs (Zk a b ha:)).2
noncomputable def abn:=mk N9 Tryz.func173 (hc jK hn)
def wC:=λm hm=>abn.cs (ahO ⟨kE,kF⟩ m hm:)
def ajx:=λm hm=>(wC m hm).1
def ajy:=λm hm=>(wC m hm).2
noncomputable def Fq:=mk XM Tryz.func151 (hc abn (hc Fp hn))
def zI:=λa ha=>Fq.cs (ama ajx ajy ⟨Qy,Qz⟩ a ha:)
def GY:=λa ha=>(zI a ha).1
def GZ:=λa ha=>(zI a ha).2
noncomputable def QA:=mk Oa Tryz.func167 hn
def ajz:=λa=>(QA.cs (Zl a:)).1
def ajA:=λa=>(QA.cs (Zl a:)).2
noncomputable def abo:=mk XO Tryz.func168 hn
def anY:=λa n ha=>(abo.cs (afb a n ha:)).1
def anZ:=λa n ha=>(abo.cs (afb a n ha:)).2
noncomputable def QB:=mk Ob Tryz.func145 (hc jK (hc Fq (hc abo (hc QA hn))))
def wD:=λa n ha=>QB.cs (ahP ⟨kE,kF⟩ ⟨GY,GZ⟩ ⟨anY,anZ⟩ ajz ajA a n ha:)
def abp:=λa n ha=>(wD a n ha).1
def abq:=λa n ha=>(wD a n ha).2
noncomputable def BS:=mk XP Tryz.func128 (hc Fp hn)
def qL:=λa b ha=>BS.cs (amb ⟨Qy,Qz⟩ a b ha:)
def Fu:=λa b ha=>(qL a b ha).1
def Fv:=λa b ha=>(qL a b ha).2
noncomputable def QC:=mk Oc Tryz.func146 (hc BS hn)
def wE:=λa b ha=>QC.cs (ahQ ⟨Fu,Fv⟩ a b ha:)
def abr:=λa b ha=>(wE a b ha).1
def abt:=λa b ha=>(wE a b ha).2
noncomputable def afL:=mk XQ Tryz.func114 (hc QB (hc QC hn))
def zJ:=λa ha=>afL.cs (amc ⟨abp,abq⟩ ⟨abr,abt⟩ a ha:)
def an0:=λa ha=>(zJ a ha).1
def an1:=λa ha=>(zJ a ha).2
noncomputable def mh:=mk Od Tryz.func123 hn
def qg:=λa ha=>(mh.cs (Zn a ha:)).1
def qh:=λa ha=>(mh.cs (Zn a ha:)).2
noncomputable def QD:=mk Oe Tryz.func147 (hc mh hn)
def wF:=λa ha=>QD.cs (ahS ⟨qg,qh⟩ a ha:)
def abu:=λa ha=>(wF a ha).1
def abv:=λa ha=>(wF a ha).2
noncomputable def abw:=mk Og Tryz.func115 (hc QD hn)
def wG:=λa ha=>abw.cs (ahT ⟨abu,abv⟩ a ha:)
def ajB:=λa ha=>(wG a ha).1
def ajC:=λa ha=>(wG a ha).2
noncomputable def JA:=mk Oh Tryz.func116 (hc QB (hc QC (hc QD hn)))
def zK:=λa t ha ht hok=>JA.cs (ahU ⟨abp,abq⟩ ⟨abr,abt⟩ ⟨abu,abv⟩ a t ha ht hok:)
def QE:=λa t ha ht hok=>(zK a t ha ht hok).1
def QF:=λa t ha ht hok=>(zK a t ha ht hok).2
noncomputable def QG:=mk Oi Tryz.func117 hn
def ajD:=λk l=>(QG.cs (ZX k l:)).1
def ajE:=λk l=>(QG.cs (ZX k l:)).2
noncomputable def abx:=mk XR Tryz.func118 (hc jK hn)
def qM:=λa=>abx.cs (al8 ⟨kE,kF⟩ a:)
def afM:=λa=>(qM a).1
def afN:=λa=>(qM a).2
noncomputable def zL:=mk XU Tryz.func164 hn
def Fw:=λa=>(zL.cs (afa a:)).1
def Fx:=λa=>(zL.cs (afa a:)).2
noncomputable def QH:=mk Oj Tryz.func181 (hc Fp (hc zL hn))
def wH:=λl m hl hn hm hma=>QH.cs (ahZ ⟨Qy,Qz⟩ ⟨Fw,Fx⟩ l m hl hn hm hma:)
def aby:=λl m hl hn hm hma=>(wH l m hl hn hm hma).1
def abz:=λl m hl hn hm hma=>(wH l m hl hn hm hma).2
noncomputable def QI:=mk Ol Tryz.func182 (hc mh hn)
def zN:=λa ha=>QI.cs (ahR ⟨qg,qh⟩ a ha:)
def abA:=λa ha=>(zN a ha).1
def abB:=λa ha=>(zN a ha).2
noncomputable def afO:=mk XV Tryz.func169 (hc Fq (hc QH (hc QI hn)))
def wI:=λa b ha hb=>afO.cs (amf ⟨GY,GZ⟩ ⟨aby,abz⟩ ⟨abA,abB⟩ a b ha hb:)
def an2:=λa b ha hb=>(wI a b ha hb).1
def an3:=λa b ha hb=>(wI a b ha hb).2
noncomputable def afP:=mk XW Tryz.func170 (hc Fq (hc zL (hc mh (hc zy hn))))
def qN:=λa n ha=>afP.cs (ami ⟨GY,GZ⟩ ⟨Fw,Fx⟩ ⟨qg,qh⟩ ⟨E8,E9⟩ a n ha:)
def an4:=λa n ha=>(qN a n ha).1
def an5:=λa n ha=>(qN a n ha).2
noncomputable def QJ:=mk Om Tryz.func183 hn
def ajF:=λa b ha hb sa sb=>(QJ.cs (Zq a b ha hb sa sb:)).1
def ajG:=λa b ha hb sa sb=>(QJ.cs (Zq a b ha hb sa sb:)).2
noncomputable def afQ:=mk XY Tryz.func171 (hc Fq (hc zL (hc QH (hc QJ (hc QI hn)))))
def wJ:=λa b ha hb=>afQ.cs (amg ⟨GY,GZ⟩ ⟨Fw,Fx⟩ ⟨aby,abz⟩ ajF ajG ⟨abA,abB⟩ a b ha hb:)
def an6:=λa b ha hb=>(wJ a b ha hb).1
def an7:=λa b ha hb=>(wJ a b ha hb).2
noncomputable def abC:=mk Oo Tryz.func148 (hc afQ (hc afO (hc afP hn)))
def wK:=λop x y hx hy=>abC.cs (ahX ⟨an6,an7⟩ ⟨an2,an3⟩ ⟨an4,an5⟩ op x y hx hy:)
def ajH:=λop x y hx hy=>(wK op x y hx hy).1
def ajI:=λop x y hx hy=>(wK op x y hx hy).2
noncomputable def LA:=mk XZ Tryz.func142 (hc zL (hc zy hn))
def zO:=λop a b=>LA.cs (amd ⟨E8,E9⟩ ⟨Fw,Fx⟩ op a b:)
def Tx:=λop a b=>(zO op a b).1
def Tz:=λop a b=>(zO op a b).2
noncomputable def TA:=mk X3 Tryz.func152 (hc Fq hn)
def wL:=λa ha=>TA.cs (ame ⟨GY,GZ⟩ a ha:)
def abD:=λa ha=>(wL a ha).1
def abE:=λa ha=>(wL a ha).2
noncomputable def abF:=mk Oq Tryz.func172 (hc mh hn)
def wM:=λop n y hy=>abF.cs (ahV ⟨qg,qh⟩ op n y hy:)
def ajJ:=λop n y hy=>(wM op n y hy).1
def ajK:=λop n y hy=>(wM op n y hy).2
set_option maxRecDepth 100000
set_option maxHeartbeats 4000000
noncomputable def abG:=mk Ou Tryz.func149 (hc BS (hc mh (hc LA (hc abx (hc TA (hc abF hn))))))
def wN:=λop x y hx hy=>abG.cs (ahW ⟨Fu,Fv⟩ ⟨qg,qh⟩ ⟨Tx,Tz⟩ ⟨afM,afN⟩ ⟨abD,abE⟩ ajJ ajK op x y hx hy:)
def ajL:=λop x y hx hy=>(wN op x y hx hy).1
def ajM:=λop x y hx hy=>(wN op x y hx hy).2
noncomputable def abH:=mk Ov Tryz.func119 (hc Lx (hc BS (hc abC (hc abG (hc JA hn)))))
def BU:=λop x y t hop hx hy ht hok=>abH.cs (ahY ⟨Tv,Tw⟩ ⟨Fu,Fv⟩ ajH ajI ajL ajM ⟨QE,QF⟩ op x y t hop hx hy ht hok:)
def ajN:=λop x y t hop hx hy ht hok=>(BU op x y t hop hx hy ht hok).1
def ajO:=λop x y t hop hx hy ht hok=>(BU op x y t hop hx hy ht hok).2
noncomputable def QK:=mk Ow Tryz.func150 hn
def ajP:=λl k hl=>(QK.cs (ZY l k hl:)).1
def ajQ:=λl k hl=>(QK.cs (ZY l k hl:)).2
noncomputable def abI:=mk Ox Tryz.func120 (hc Lx (hc JA (hc QK hn)))
def tJ:=λl k t hl ht hk=>abI.cs (aiu ⟨Tv,Tw⟩ ⟨QE,QF⟩ ajP ajQ l k t hl ht hk:)
def ajR:=λl k t hl ht hk=>(tJ l k t hl ht hk).1
def ajS:=λl k t hl ht hk=>(tJ l k t hl ht hk).2
noncomputable def JB:=mk Oy Tryz.func122 (hc mh hn)
def tK:=λa ha=>JB.cs (ait ⟨qg,qh⟩ a ha:)
def QL:=λa ha=>(tK a ha).1
def QM:=λa ha=>(tK a ha).2
noncomputable def abJ:=mk Oz Tryz.func121 (hc mh (hc JB hn))
def tL:=λo x y r hx hy hr=>abJ.cs (aiv ⟨qg,qh⟩ ⟨QL,QM⟩ o x y r hx hy hr:)
def ajT:=λo x y r hx hy hr=>(tL o x y r hx hy hr).1
def ajU:=λo x y r hx hy hr=>(tL o x y r hx hy hr).2
noncomputable def QN:=mk OA Tryz.func124 hn
def ajV:=λb=>(QN.cs (Z4 b:)).1
def ajW:=λb=>(QN.cs (Z4 b:)).2
noncomputable def QO:=mk OB Tryz.func125 hn
def ajX:=λb=>(QO.cs (Z5 b:)).1
def ajY:=λb=>(QO.cs (Z5 b:)).2
noncomputable def JC:=mk OC Tryz.func153 hn
def abK:=λs k=>(JC.cs (Z0 s k:)).1
def abL:=λs k=>(JC.cs (Z0 s k:)).2
noncomputable def abM:=mk OD Tryz.func154 (hc TA (hc BS (hc JC hn)))
def BX:=λs n hs hx hy hf=>abM.cs (aiw ⟨abD,abE⟩ ⟨Fu,Fv⟩ ⟨abK,abL⟩ s n hs hx hy hf:)
def ajZ:=λs n hs hx hy hf=>(BX s n hs hx hy hf).1
def aj0:=λs n hs hx hy hf=>(BX s n hs hx hy hf).2
noncomputable def afR:=mk X4 Tryz.func126 (hc TA (hc Fq (hc mh (hc JC (hc abM (hc JB hn))))))
def wO:=λs n hs=>afR.cs (amG ⟨abD,abE⟩ ⟨GY,GZ⟩ ⟨qg,qh⟩ ⟨abK,abL⟩ ajZ aj0 ⟨QL,QM⟩ s n hs:)
def an8:=λs n hs=>(wO s n hs).1
def an9:=λs n hs=>(wO s n hs).2
noncomputable def afS:=mk X5 Tryz.func89 (hc tF (hc Lx (hc abx (hc afR (hc abm (hc afL (hc mh (hc abw (hc abH (hc JA (hc abI (hc abJ (hc QG (hc JB (hc QN (hc QO hn))))))))))))))))
def wP:=λt b ht hb=>afS.cs (amH ⟨wu,wz⟩ ⟨Tv,Tw⟩ ⟨afM,afN⟩ ⟨an8,an9⟩ ⟨afJ,afK⟩ ⟨an0,an1⟩ ⟨qg,qh⟩ ⟨ajB,ajC⟩ ajN ajO ⟨QE,QF⟩ ajR ajS ajT ajU ajD ajE ⟨QL,QM⟩ ajV ajW ajX ajY t b ht hb:)
def aoa:=λt b ht hb=>(wP t b ht hb).1
def aob:=λt b ht hb=>(wP t b ht hb).2
noncomputable def QS:=mk OE Tryz.func127 (hc BS hn)
def tN:=λa b ha=>QS.cs (aiy ⟨Fu,Fv⟩ a b ha:)
def abN:=λa b ha=>(tN a b ha).1
def abO:=λa b ha=>(tN a b ha).2
noncomputable def abP:=mk OG Tryz.func129 (hc BS (hc QS hn))
def tO:=λa b ha=>abP.cs (aiz ⟨Fu,Fv⟩ ⟨abN,abO⟩ a b ha:)
def aj1:=λa b ha=>(tO a b ha).1
def aj2:=λa b ha=>(tO a b ha).2
noncomputable def afT:=mk X6 Tryz.func90 (hc BS (hc abP (hc QS hn)))
def tQ:=λa b ha=>afT.cs (amL ⟨Fu,Fv⟩ ⟨aj1,aj2⟩ ⟨abN,abO⟩ a b ha:)
def aoc:=λa b ha=>(tQ a b ha).1
def aod:=λa b ha=>(tQ a b ha).2
noncomputable def TB:=mk X7 Tryz.func61 (hc tF (hc Tt (hc abm (hc afS (hc afT hn)))))
def tT:=λb c hb hc=>TB.cs (amM ⟨wu,wz⟩ ⟨afH,afI⟩ ⟨afJ,afK⟩ ⟨aoa,aob⟩ ⟨aoc,aod⟩ b c hb hc:)
def abQ:=λb c hb hc=>(tT b c hb hc).1
def abR:=λb c hb hc=>(tT b c hb hc).2
noncomputable def TD:=mk X8 Tryz.func110 (hc Lu (hc zy hn))
def tV:=λw=>TD.cs (am0 ⟨Tk,Tm⟩ ⟨E8,E9⟩ w:)
def abS:=λw=>(tV w).1
def abT:=λw=>(tV w).2
noncomputable def afU:=mk X9 Tryz.func85 (hc TD hn)
def tX:=λw h=>afU.cs (anm ⟨abS,abT⟩ w h:)
def aoe:=λw h=>(tX w h).1
def aof:=λw h=>(tX w h).2
noncomputable def afV:=mk Ya Tryz.func60 (hc Fj (hc aa6 (hc afU (hc TB hn))))
def qO:=λe hw ho=>afV.cs (anp ⟨GV,GX⟩ ⟨afF,afG⟩ aoe aof ⟨abQ,abR⟩ e hw ho:)
def aog:=λe hw ho=>(qO e hw ho).1
def aoh:=λe hw ho=>(qO e hw ho).2
noncomputable def afW:=mk Yb Tryz.func43 (hc afV (hc Tq hn))
def zP:=λl mem h hm=>afW.cs (anq aog aoh ⟨afB,afC⟩ l mem h hm:)
def aoi:=λl mem h hm=>(zP l mem h hm).1
def aoj:=λl mem h hm=>(zP l mem h hm).2
noncomputable def afX:=mk Yc Tryz.func44 (hc TB hn)
def zQ:=λl h=>afX.cs (amN ⟨abQ,abR⟩ l h:)
def aol:=λl h=>(zQ l h).1
def aom:=λl h=>(zQ l h).2
noncomputable def abU:=mk Yd Tryz.func20 (hc afW (hc afX (hc Fa hn)))
def zR:=λe h1 h2 h3=>abU.cs (anr aoi aoj ⟨aol,aom⟩ ⟨GQ,GU⟩ e h1 h2 h3:)
def afY:=λe h1 h2 h3=>(zR e h1 h2 h3).1
def afZ:=λe h1 h2 h3=>(zR e h1 h2 h3).2
noncomputable def abV:=mk Ye Tryz.func130 (hc sZ hn)
def tY:=λq h1 h2=>abV.cs (amO ⟨Bd,Bf⟩ q h1 h2:)
def af0:=λq h1 h2=>(tY q h1 h2).1
def af2:=λq h1 h2=>(tY q h1 h2).2
noncomputable def af3:=mk Yf Tryz.func94 (hc Tp (hc abV (hc x9 hn)))
def tZ:=λe h1 h2 h3=>af3.cs (anu ⟨aa3,aa4⟩ ⟨af0,af2⟩ ⟨Fb,Fe⟩ e h1 h2 h3:)
def aon:=λe h1 h2 h3=>(tZ e h1 h2 h3).1
def aoo:=λe h1 h2 h3=>(tZ e h1 h2 h3).2
noncomputable def Bh:=mk OH Tryz.func95 hn
def Fy:=λl n h=>(Bh.cs (aap l n h:)).1
def Fz:=λl n h=>(Bh.cs (aap l n h:)).2
noncomputable def QT:=mk OI Tryz.func156 hn
def aj3:=λm b=>(QT.cs (aao m b:)).1
def aj4:=λm b=>(QT.cs (aao m b:)).2
noncomputable def FB:=mk OJ Tryz.func157 hn
def QU:=λm h=>(FB.cs (aal m h:)).1
def QV:=λm h=>(FB.cs (aal m h:)).2
noncomputable def Bj:=mk OL Tryz.func178 (hc zL hn)
def wQ:=λm n h=>Bj.cs (aiF ⟨Fw,Fx⟩ m n h:)
def Bl:=λm n h=>(wQ m n h).1
def Bn:=λm n h=>(wQ m n h).2
noncomputable def abW:=mk OM Tryz.func174 (hc FB (hc Bj hn))
def wR:=λm i h ho=>abW.cs (aiL ⟨QU,QV⟩ ⟨Bl,Bn⟩ m i h ho:)
def aj5:=λm i h ho=>(wR m i h ho).1
def aj6:=λm i h ho=>(wR m i h ho).2
noncomputable def FD:=mk OO Tryz.func175 (hc Bj hn)
def QW:=λm d v h d0 d1=>(FD.cs (aan ⟨Bl,Bn⟩ m d v h d0 d1:)).1
def QX:=λm d v h d0 d1=>(FD.cs (aan ⟨Bl,Bn⟩ m d v h d0 d1:)).2
noncomputable def abX:=mk OQ Tryz.func176 (hc zL hn)
def uf:=λv k h k0 k1=>abX.cs (aiG ⟨Fw,Fx⟩ v k h k0 k1:)
def aj7:=λv k h k0 k1=>(uf v k h k0 k1).1
def aj8:=λv k h k0 k1=>(uf v k h k0 k1).2
noncomputable def abY:=mk OT Tryz.func177 (hc zL (hc FB (hc Bj (hc FD hn))))
def ug:=λm i h hi ho=>abY.cs (aiJ ⟨Fw,Fx⟩ ⟨QU,QV⟩ ⟨Bl,Bn⟩ ⟨QW,QX⟩ m i h hi ho:)
def aj9:=λm i h hi ho=>(ug m i h hi ho).1
def akb:=λm i h hi ho=>(ug m i h hi ho).2
set_option maxRecDepth 100000
set_option maxHeartbeats 4000000
noncomputable def abZ:=mk OU Tryz.func179 (hc Bj (hc FD hn))
def wS:=λm i h hi hq hn ho=>abZ.cs (aiK ⟨Bl,Bn⟩ ⟨QW,QX⟩ m i h hi hq hn ho:)
def akc:=λm i h hi hq hn ho=>(wS m i h hi hq hn ho).1
def akd:=λm i h hi hq hn ho=>(wS m i h hi hq hn ho).2
noncomputable def ab0:=mk OV Tryz.func158 (hc LA (hc Bj (hc abZ (hc abY (hc FD (hc abX (hc abW hn)))))))
def BZ:=λm i h hi hn ho=>ab0.cs (aiM ⟨Tx,Tz⟩ ⟨Bl,Bn⟩ akc akd aj9 akb ⟨QW,QX⟩ aj7 aj8 aj5 aj6 m i h hi hn ho:)
def ake:=λm i h hi hn ho=>(BZ m i h hi hn ho).1
def akf:=λm i h hi hn ho=>(BZ m i h hi hn ho).2
noncomputable def ab1:=mk Yg Tryz.func131 (hc TD (hc Fa (hc x9 (hc ab0 (hc FB (hc QT hn))))))
def uh:=λm b h ho=>ab1.cs (am5 ⟨abS,abT⟩ ⟨GQ,GU⟩ ⟨Fb,Fe⟩ ake akf ⟨QU,QV⟩ aj3 aj4 m b h ho:)
def af4:=λm b h ho=>(uh m b h ho).1
def af5:=λm b h ho=>(uh m b h ho).2
noncomputable def ab2:=mk OW Tryz.func96 (hc aa5 (hc ab1 (hc Bh hn)))
def qP:=λe q h1 ho h2 hq=>ab2.cs (ai0 ⟨afD,afE⟩ ⟨af4,af5⟩ ⟨Fy,Fz⟩ e q h1 ho h2 hq:)
def akg:=λe q h1 ho h2 hq=>(qP e q h1 ho h2 hq).1
def akh:=λe q h1 ho h2 hq=>(qP e q h1 ho h2 hq).2
noncomputable def ab3:=mk Yh Tryz.func9 hn
def aop:=λl pc h=>(ab3.cs (afq l pc h:)).1
def aoq:=λl pc h=>(ab3.cs (afq l pc h:)).2
noncomputable def af6:=mk Yi Tryz.func14 (hc Tp hn)
def wT:=λl e h h1 h2=>af6.cs (ano ⟨aa3,aa4⟩ l e h h1 h2:)
def aor:=λl e h h1 h2=>(wT l e h h1 h2).1
def aos:=λl e h h1 h2=>(wT l e h h1 h2).2
noncomputable def ab4:=mk Yj Tryz.func100 (hc Lv (hc TD (hc Fa hn)))
def uj:=λm h=>ab4.cs (anw ⟨aaS,aaT⟩ ⟨abS,abT⟩ ⟨GQ,GU⟩ m h:)
def af7:=λm h=>(uj m h).1
def af8:=λm h=>(uj m h).2
noncomputable def TF:=mk Yk Tryz.func109 (hc jK hn)
def af9:=λo al hk hx hy=>(TF.cs (afk ⟨kE,kF⟩ o al hk hx hy:)).1
def aga:=λo al hk hx hy=>(TF.cs (afk ⟨kE,kF⟩ o al hk hx hy:)).2
noncomputable def ab5:=mk Yl Tryz.func84 (hc tF (hc TF (hc sZ hn)))
def um:=λb hb=>ab5.cs (amA ⟨wu,wz⟩ ⟨af9,aga⟩ ⟨Bd,Bf⟩ b hb:)
def agb:=λb hb=>(um b hb).1
def agc:=λb hb=>(um b hb).2
noncomputable def ab6:=mk Ym Tryz.func138 (hc TF hn)
def uo:=λb kp ok hk=>ab6.cs (amw ⟨af9,aga⟩ b kp ok hk:)
def agd:=λb kp ok hk=>(uo b kp ok hk).1
def agf:=λb kp ok hk=>(uo b kp ok hk).2
noncomputable def agh:=mk Yn Tryz.func139 (hc tF (hc jK hn))
def uw:=λb hb=>agh.cs (amv ⟨wu,wz⟩ ⟨kE,kF⟩ b hb:)
def aot:=λb hb=>(uw b hb).1
def aou:=λb hb=>(uw b hb).2
noncomputable def agi:=mk Yo Tryz.func106 (hc tF (hc agh (hc ab6 hn)))
def uz:=λb hb=>agi.cs (amx ⟨wu,wz⟩ ⟨aot,aou⟩ ⟨agd,agf⟩ b hb:)
def aov:=λb hb=>(uz b hb).1
def aow:=λb hb=>(uz b hb).2
noncomputable def ab7:=mk Yp Tryz.func140 hn
def aox:=λops k h0 h1 h2=>(ab7.cs (afl ops k h0 h1 h2:)).1
def aoy:=λops k h0 h1 h2=>(ab7.cs (afl ops k h0 h1 h2:)).2
noncomputable def agj:=mk Yq Tryz.func107 (hc tF (hc ab6 (hc ab7 hn)))
def uD:=λb hb=>agj.cs (amy ⟨wu,wz⟩ ⟨agd,agf⟩ aox aoy b hb:)
def aoz:=λb hb=>(uD b hb).1
def aoA:=λb hb=>(uD b hb).2
noncomputable def TG:=mk Yr Tryz.func141 hn
def agk:=λops k=>(TG.cs (afi ops k:)).1
def agl:=λops k=>(TG.cs (afi ops k:)).2
noncomputable def ab8:=mk Yt Tryz.func165 hn
def aoB:=λb k=>(ab8.cs (afj b k:)).1
def aoC:=λb k=>(ab8.cs (afj b k:)).2
noncomputable def agm:=mk Yu Tryz.func143 (hc ab8 (hc TG hn))
def uE:=λb h=>agm.cs (ams aoB aoC ⟨agk,agl⟩ b h:)
def aoD:=λb h=>(uE b h).1
def aoE:=λb h=>(uE b h).2
noncomputable def agn:=mk Yv Tryz.func108 (hc tF (hc LA (hc agm (hc TG (hc sZ hn)))))
def qQ:=λb hb=>agn.cs (amu ⟨wu,wz⟩ ⟨Tx,Tz⟩ aoD aoE ⟨agk,agl⟩ ⟨Bd,Bf⟩ b hb:)
def aoF:=λb hb=>(qQ b hb).1
def aoG:=λb hb=>(qQ b hb).2
noncomputable def TH:=mk Yw Tryz.func83 (hc agn (hc ab5 (hc agi (hc agj hn))))
def wU:=λb hb=>TH.cs (amt ⟨aoF,aoG⟩ ⟨agb,agc⟩ ⟨aov,aow⟩ ⟨aoz,aoA⟩ b hb:)
def ab9:=λb hb=>(wU b hb).1
def acd:=λb hb=>(wU b hb).2
noncomputable def ace:=mk Yx Tryz.func184 hn
def aoH:=λb k hb h0 h1 hl=>(ace.cs (afs b k hb h0 h1 hl:)).1
def aoI:=λb k hb h0 h1 hl=>(ace.cs (afs b k hb h0 h1 hl:)).2
noncomputable def agp:=mk Yy Tryz.func180 (hc tF (hc ace hn))
def wW:=λl hl hlen=>agp.cs (anx ⟨wu,wz⟩ aoH aoI l hl hlen:)
def aoJ:=λl hl hlen=>(wW l hl hlen).1
def aoK:=λl hl hlen=>(wW l hl hlen).2
noncomputable def agq:=mk Yz Tryz.func159 (hc agp (hc TH hn))
def uF:=λb a h ha hl=>agq.cs (anz ⟨aoJ,aoK⟩ ⟨ab9,acd⟩ b a h ha hl:)
def aoL:=λb a h ha hl=>(uF b a h ha hl).1
def aoM:=λb a h ha hl=>(uF b a h ha hl).2
noncomputable def agr:=mk YA Tryz.func160 (hc Tt hn)
def wX:=λl b c h=>agr.cs (amD ⟨afH,afI⟩ l b c h:)
def aoN:=λl b c h=>(wX l b c h).1
def aoO:=λl b c h=>(wX l b c h).2
noncomputable def ags:=mk YB Tryz.func161 (hc abV hn)
def wY:=λl q h h1 h2=>ags.cs (amQ ⟨af0,af2⟩ l q h h1 h2:)
def aoP:=λl q h h1 h2=>(wY l q h h1 h2).1
def aoQ:=λl q h h1 h2=>(wY l q h h1 h2).2
noncomputable def agt:=mk YC Tryz.func132 (hc agr (hc ags (hc TB (hc agq hn))))
def qR:=λe b a h hb ha hl=>agt.cs (anA ⟨aoN,aoO⟩ ⟨aoP,aoQ⟩ ⟨abQ,abR⟩ aoL aoM e b a h hb ha hl:)
def aoR:=λe b a h hb ha hl=>(qR e b a h hb ha hl).1
def aoS:=λe b a h hb ha hl=>(qR e b a h hb ha hl).2
noncomputable def agu:=mk YD Tryz.func97 (hc ab4 (hc Fj (hc Tn (hc ab3 (hc af6 (hc agt hn))))))
def uG:=λe a h1 h2 h3 ha hl=>agu.cs (anC ⟨af7,af8⟩ ⟨GV,GX⟩ ⟨aaO,aaP⟩ ⟨aop,aoq⟩ ⟨aor,aos⟩ aoR aoS e a h1 h2 h3 ha hl:)
def aoT:=λe a h1 h2 h3 ha hl=>(uG e a h1 h2 h3 ha hl).1
def aoU:=λe a h1 h2 h3 ha hl=>(uG e a h1 h2 h3 ha hl).2
noncomputable def QY:=mk OX Tryz.func98 (hc Bh hn)
def aki:=λm q left size hq h1 h2=>(QY.cs (aaz ⟨Fy,Fz⟩ m q left size hq h1 h2:)).1
def akj:=λm q left size hq h1 h2=>(QY.cs (aaz ⟨Fy,Fz⟩ m q left size hq h1 h2:)).2
noncomputable def QZ:=mk OY Tryz.func162 hn
def akk:=λm b n h h1 h2 h3=>(QZ.cs (aaw m b n h h1 h2 h3:)).1
def akl:=λm b n h h1 h2 h3=>(QZ.cs (aaw m b n h h1 h2 h3:)).2
noncomputable def Q0:=mk OZ Tryz.func163 hn
def akm:=λb a n h2 h3 h4=>(Q0.cs (aax b a n h2 h3 h4:)).1
def akn:=λb a n h2 h3 h4=>(Q0.cs (aax b a n h2 h3 h4:)).2
noncomputable def acf:=mk O5 Tryz.func133 (hc QZ (hc Q0 hn))
def uH:=λm b o x y hm x0 hi ho h1 h2 h3 h4=>acf.cs (ai3 akk akl akm akn m b o x y hm x0 hi ho h1 h2 h3 h4:)
def ako:=λm b o x y hm x0 hi ho h1 h2 h3 h4=>(uH m b o x y hm x0 hi ho h1 h2 h3 h4).1
def akp:=λm b o x y hm x0 hi ho h1 h2 h3 h4=>(uH m b o x y hm x0 hi ho h1 h2 h3 h4).2
noncomputable def Q5:=mk O6 Tryz.func134 hn
def akq:=λl k=>(Q5.cs (aau l k:)).1
def akr:=λl k=>(Q5.cs (aau l k:)).2
noncomputable def acg:=mk O7 Tryz.func135 (hc LA hn)
def wZ:=λm o x y h=>acg.cs (ai1 ⟨Tx,Tz⟩ m o x y h:)
def aks:=λm o x y h=>(wZ m o x y h).1
def akt:=λm o x y h=>(wZ m o x y h).2
set_option maxRecDepth 100000
set_option maxHeartbeats 4000000
noncomputable def Q6:=mk O8 Tryz.func136 hn
def aku:=λb v h3 h4 hx hy=>(Q6.cs (aay b v h3 h4 hx hy:)).1
def akv:=λb v h3 h4 hx hy=>(Q6.cs (aay b v h3 h4 hx hy:)).2
noncomputable def agv:=mk YE Tryz.func99 (hc tF (hc Fa (hc x9 (hc Q5 (hc acf (hc Q6 (hc acg hn)))))))
def zS:=λb m hs hb ho=>agv.cs (anF ⟨wu,wz⟩ ⟨GQ,GU⟩ ⟨Fb,Fe⟩ ⟨akq,akr⟩ ako akp aku akv aks akt b m hs hb ho:)
def aoV:=λb m hs hb ho=>(zS b m hs hb ho).1
def aoW:=λb m hs hb ho=>(zS b m hs hb ho).2
noncomputable def agw:=mk YF Tryz.func67 (hc aa5 (hc abU (hc agv (hc af3 (hc agu (hc ab2 (hc QY (hc Bh hn))))))))
def uI:=λe q left a h1 ho h2 h3 hq ha hl=>agw.cs (anH ⟨afD,afE⟩ ⟨afY,afZ⟩ aoV aoW aon aoo aoT aoU akg akh aki akj ⟨Fy,Fz⟩ e q left a h1 ho h2 h3 hq ha hl:)
def aoX:=λe q left a h1 ho h2 h3 hq ha hl=>(uI e q left a h1 ho h2 h3 hq ha hl).1
def aoY:=λe q left a h1 ho h2 h3 hq ha hl=>(uI e q left a h1 ho h2 h3 hq ha hl).2
noncomputable def Q7:=mk IQ Tryz.func55 (hc fP (hc sZ hn))
def uJ:=λc b p hc hb h1 h2=>Q7.cs (aiq ⟨gV,gW⟩ ⟨Bd,Bf⟩ c b p hc hb h1 h2:)
def ach:=λc b p hc hb h1 h2=>(uJ c b p hc hb h1 h2).1
def aci:=λc b p hc hb h1 h2=>(uJ c b p hc hb h1 h2).2
noncomputable def Q8:=mk O9 Tryz.func28 (hc Jv (hc fP hn))
def uK:=λb p hb h1 h2=>Q8.cs (aik ⟨Qq,Qr⟩ ⟨gV,gW⟩ b p hb h1 h2:)
def acj:=λb p hb h1 h2=>(uK b p hb h1 h2).1
def acn:=λb p hb h1 h2=>(uK b p hb h1 h2).2
noncomputable def Q9:=mk Pb Tryz.func56 (hc Fj (hc TH (hc ab5 (hc fP (hc Q8 hn)))))
def qU:=λb p hb h1 h2=>Q9.cs (aio (λpc l h _=>GV pc l h) (λpc l h _=>Jo (GX pc l h)) ⟨ab9,acd⟩ ⟨agb,agc⟩ ⟨gV,gW⟩ ⟨acj,acn⟩ b p hb h1 h2:)
def aco:=λb p hb h1 h2=>(qU b p hb h1 h2).1
def acp:=λb p hb h1 h2=>(qU b p hb h1 h2).2
noncomputable def acr:=mk YG Tryz.func137 hn
def aoZ:=λn b h0 h1 hb=>(acr.cs (aft n b h0 h1 hb:)).1
def ao0:=λn b h0 h1 hb=>(acr.cs (aft n b h0 h1 hb:)).2
noncomputable def agx:=mk YH Tryz.func101 (hc tF (hc acr hn))
def uL:=λb hb=>agx.cs (anD ⟨wu,wz⟩ aoZ ao0 b hb:)
def ao1:=λb hb=>(uL b hb).1
def ao2:=λb hb=>(uL b hb).2
noncomputable def acs:=mk Pf Tryz.func102 (hc fP (hc sZ hn))
def oW:=λc b p ok hc hb h1 h2=>acs.cs (aip ⟨gV,gW⟩ ⟨Bd,Bf⟩ c b p ok hc hb h1 h2:)
def akw:=λc b p ok hc hb h1 h2=>(oW c b p ok hc hb h1 h2).1
def akx:=λc b p ok hc hb h1 h2=>(oW c b p ok hc hb h1 h2).2
noncomputable def acu:=mk Ph Tryz.func103 (hc fP hn)
def uM:=λl b p hl h hb h1 h2=>acu.cs (ai5 ⟨gV,gW⟩ l b p hl h hb h1 h2:)
def aky:=λl b p hl h hb h1 h2=>(uM l b p hl h hb h1 h2).1
def akz:=λl b p hl h hb h1 h2=>(uM l b p hl h hb h1 h2).2
noncomputable def acv:=mk IU Tryz.func68 (hc ab4 (hc Fj (hc agx (hc TH (hc fP (hc Q7 (hc Q9 (hc acs (hc acu hn)))))))))
def w9:=λm b p h hb h1 h2=>acv.cs (ai6 ⟨af7,af8⟩ ⟨GV,GX⟩ ⟨ao1,ao2⟩ ⟨ab9,acd⟩ ⟨gV,gW⟩ ⟨ach,aci⟩ ⟨aco,acp⟩ ⟨akw,akx⟩ aky akz m b p h hb h1 h2:)
def akA:=λm b p h hb h1 h2=>(w9 m b p h hb h1 h2).1
def akB:=λm b p h hb h1 h2=>(w9 m b p h hb h1 h2).2
noncomputable def Ra:=mk Pj Tryz.func45 (hc afw (hc agw (hc aaM (hc Qs (hc Qu (hc fP (hc Qt (hc acv hn))))))))
def xg:=λb p hb h1 h2=>Ra.cs (ai8 anW anX aoX aoY ⟨afx,afy⟩ ⟨aaX,aaY⟩ ⟨aa1,aa2⟩ ⟨gV,gW⟩ ⟨aaZ,aa0⟩ akA akB b p hb h1 h2:)
def acw:=λb p hb h1 h2=>(xg b p hb h1 h2).1
def acy:=λb p hb h1 h2=>(xg b p hb h1 h2).2
noncomputable def acz:=mk Pm Tryz.func22 (hc Ra hn)
def uN:=λb p hb h1 h2=>acz.cs (ai9 ⟨acw,acy⟩ b p hb h1 h2:)
def akC:=λb p hb h1 h2=>(uN b p hb h1 h2).1
def akD:=λb p hb h1 h2=>(uN b p hb h1 h2).2
noncomputable def aeb:=mk aht Tryz.func33 hn
def ao3:=λe x=>(aeb.cs (anK e x:)).1
def ao4:=λe x=>(aeb.cs (anK e x:)).2
noncomputable def TI:=mk YI Tryz.func46 hn
def agy:=λa b c=>(TI.cs (ae5 a b c:)).1
def agz:=λa b c=>(TI.cs (ae5 a b c:)).2
noncomputable def acA:=mk YJ Tryz.func53 hn
def ao5:=λa b ha=>(acA.cs (afv a b ha:)).1
def ao6:=λa b ha=>(acA.cs (afv a b ha:)).2
noncomputable def ao7:=mk ahu Tryz.func39 (hc TI (hc acA hn))
def jv:=λe mem hw hm hp=>ao7.cs (aqX ⟨agy,agz⟩ ⟨ao5,ao6⟩ e mem hw hm hp:)
def aq4:=λe mem hw hm hp=>(jv e mem hw hm hp).1
def aq5:=λe mem hw hm hp=>(jv e mem hw hm hp).2
noncomputable def akE:=mk ahv Tryz.func38 (hc ao7 hn)
def oZ:=λe mem hw hm hp=>akE.cs (aqY aq4 aq5 e mem hw hm hp:)
def ao8:=λe mem hw hm hp=>(oZ e mem hw hm hp).1
def ao9:=λe mem hw hm hp=>(oZ e mem hw hm hp).2
noncomputable def agA:=mk YK Tryz.func24 (hc aeb hn)
def bY:=λl x h=>agA.cs (anM ⟨ao3,ao4⟩ l x h:)
def apa:=λl x h=>(bY l x h).1
def apb:=λl x h=>(bY l x h).2
noncomputable def agB:=mk YL Tryz.func24 (hc akE hn)
def bZ:=λl mem h hm=>agB.cs (anS ⟨ao8,ao9⟩ l mem h hm:)
def apc:=λl mem h hm=>(bZ l mem h hm).1
def apd:=λl mem h hm=>(bZ l mem h hm).2
noncomputable def ape:=mk ahw Tryz.func26 (hc TI hn)
def zT:=λa=>ape.cs (aqm ⟨agy,agz⟩ a:)
def aq6:=λa=>(zT a).1
def aq7:=λa=>(zT a).2
noncomputable def agC:=mk YM Tryz.func10 (hc ape hn)
def Ca:=agC.cs (al7 ⟨aq6,aq7⟩:)
def apf:=(Ca).1
def apg:=(Ca).2
set_option maxRecDepth 100000
set_option maxHeartbeats 4000000
noncomputable def agD:=mk YN Tryz.func11 (hc Fj (hc Tn (hc Jt (hc Bc (hc fP (hc acz (hc Q8 hn)))))))
def nH:=λc hc hl=>agD.cs (anJ ⟨GV,GX⟩ ⟨aaO,aaP⟩ ⟨aaI,aaJ⟩ ⟨Fg,Fh⟩ ⟨gV,gW⟩ ⟨akC,akD⟩ ⟨acj,acn⟩ c hc hl:)
def aph:=λc hc hl=>(nH c hc hl).1
def apj:=λc hc hl=>(nH c hc hl).2
noncomputable def agE:=mk YO Tryz.func31 (hc aeb (hc agA hn))
def cB:=λl x h=>agE.cs (anN ⟨ao3,ao4⟩ apa apb l x h:)
def apk:=λl x h=>(cB l x h).1
def apl:=λl x h=>(cB l x h).2
noncomputable def agF:=mk YP Tryz.func31 (hc akE (hc agB hn))
def bW:=λl mem h hm=>agF.cs (anT ⟨ao8,ao9⟩ apc apd l mem h hm:)
def apm:=λl mem h hm=>(bW l mem h hm).1
def apn:=λl mem h hm=>(bW l mem h hm).2
noncomputable def acB:=mk YQ Tryz.func80 hn
def apo:=λa ha=>(acB.cs (ae6 a ha:)).1
def apq:=λa ha=>(acB.cs (ae6 a ha:)).2
noncomputable def akF:=mk ahx Tryz.func81 hn
def aq8:=λb hb=>(akF.cs (amC b hb:)).1
def aq9:=λb hb=>(akF.cs (amC b hb:)).2
noncomputable def apr:=mk ahy Tryz.func51 (hc akF (hc acB hn))
def jO:=λe hw ho=>apr.cs (aqS ⟨aq8,aq9⟩ ⟨apo,apq⟩ e hw ho:)
def ara:=λe hw ho=>(jO e hw ho).1
def arb:=λe hw ho=>(jO e hw ho).2
noncomputable def acC:=mk YR Tryz.func32 (hc apr hn)
def nI:=λl h=>acC.cs (anO ⟨ara,arb⟩ l h:)
def agG:=λl h=>(nI l h).1
def agH:=λl h=>(nI l h).2
noncomputable def acD:=mk YS Tryz.func34 hn
def aps:=λl n hl h0 h1=>(acD.cs (afu l n hl h0 h1:)).1
def apt:=λl n hl h0 h1=>(acD.cs (afu l n hl h0 h1:)).2
noncomputable def apu:=mk ahz Tryz.func12 (hc acC (hc acD (hc agE hn)))
def xk:=λl e h h1 h2 h3=>apu.cs (aqT ⟨agG,agH⟩ aps apt apk apl l e h h1 h2 h3:)
def ard:=λl e h h1 h2 h3=>(xk l e h h1 h2 h3).1
def arf:=λl e h h1 h2 h3=>(xk l e h h1 h2 h3).2
noncomputable def acE:=mk YT Tryz.func18 hn
def apv:=λa b ha=>(acE.cs (ae8 a b ha:)).1
def apw:=λa b ha=>(acE.cs (ae8 a b ha:)).2
noncomputable def acF:=mk YU Tryz.func35 hn
def apx:=λa b ha=>(acF.cs (afn a b ha:)).1
def apy:=λa b ha=>(acF.cs (afn a b ha:)).2
noncomputable def agI:=mk YV Tryz.func13 (hc acF (hc acE hn))
def uO:=λa b ha=>agI.cs (anQ ⟨apx,apy⟩ ⟨apv,apw⟩ a b ha:)
def apz:=λa b ha=>(uO a b ha).1
def apA:=λa b ha=>(uO a b ha).2
noncomputable def apB:=mk ahA Tryz.func16 (hc acC (hc agF hn))
def uP:=λl mem h hm=>apB.cs (aqZ ⟨agG,agH⟩ apm apn l mem h hm:)
def arh:=λl mem h hm=>(uP l mem h hm).1
def ari:=λl mem h hm=>(uP l mem h hm).2
noncomputable def agJ:=mk YW Tryz.func105 (hc Fa (hc ab1 (hc x9 (hc Bh hn))))
def xq:=λm q n h hq ho=>agJ.cs (am7 ⟨GQ,GU⟩ ⟨af4,af5⟩ ⟨Fb,Fe⟩ ⟨Fy,Fz⟩ m q n h hq ho:)
def apC:=λm q n h hq ho=>(xq m q n h hq ho).1
def apD:=λm q n h hq ho=>(xq m q n h hq ho).2
noncomputable def acG:=mk Pn Tryz.func82 (hc aaM (hc agJ (hc Qs (hc Qu (hc Bc (hc fP (hc Qt hn)))))))
def uQ:=λb p hb h1 h2=>acG.cs (aiW ⟨afx,afy⟩ apC apD ⟨aaX,aaY⟩ ⟨aa1,aa2⟩ ⟨Fg,Fh⟩ ⟨gV,gW⟩ ⟨aaZ,aa0⟩ b p hb h1 h2:)
def akG:=λb p hb h1 h2=>(uQ b p hb h1 h2).1
def akH:=λb p hb h1 h2=>(uQ b p hb h1 h2).2
noncomputable def acH:=mk Po Tryz.func54 (hc acG (hc Bc (hc fP hn)))
def o7:=λn b p hb h1 h2=>acH.cs (aiX ⟨akG,akH⟩ ⟨Fg,Fh⟩ ⟨gV,gW⟩ n b p hb h1 h2:)
def akI:=λn b p hb h1 h2=>(o7 n b p hb h1 h2).1
def akJ:=λn b p hb h1 h2=>(o7 n b p hb h1 h2).2
noncomputable def acI:=mk Pp Tryz.func41 (hc Fj (hc acH (hc Bc (hc fP (hc Ju (hc Q7 (hc Q9 (hc Ra hn))))))))
def qV:=λn b p hb h1 h2=>acI.cs (aja ⟨GV,GX⟩ ⟨akI,akJ⟩ ⟨Fg,Fh⟩ ⟨gV,gW⟩ ⟨Qm,Qn⟩ ⟨ach,aci⟩ ⟨aco,acp⟩ ⟨acw,acy⟩ n b p hb h1 h2:)
def akK:=λn b p hb h1 h2=>(qV n b p hb h1 h2).1
def akL:=λn b p hb h1 h2=>(qV n b p hb h1 h2).2
noncomputable def agK:=mk YX Tryz.func19 (hc Jt (hc acI hn))
def o8:=λc hc hl=>agK.cs (anU ⟨aaI,aaJ⟩ akK akL c hc hl:)
def apE:=λc hc hl=>(o8 c hc hl).1
def apF:=λc hc hl=>(o8 c hc hl).2
noncomputable def agL:=mk YZ Tryz.func6 (hc apB (hc apu (hc agI (hc agC (hc agD (hc agK (hc abU hn)))))))
def nJ:=λc hc=>agL.cs (anV ⟨arh,ari⟩ ⟨ard,arf⟩ ⟨apz,apA⟩ ⟨apf,apg⟩ ⟨aph,apj⟩ apE apF ⟨afY,afZ⟩ c hc:)
def apG:=λc hc=>(nJ c hc).1
def apH:=λc hc=>(nJ c hc).2
end Go.TX.F
namespace Go.Proofs.YtpkmgiojecpceaaGreat
open Go.ChangeShapes Go.WideShapes Go.ChangeAt Go.RowKit
def arj:ownKnob Tryz.prog.godebug=Option.none:=by kernel_rfl
def apI:laidOutB Tryz.prog=true:=by kernel_rfl
def akM:Tryz.prog.cellsOf 5=1:=by kernel_rfl
set_option maxRecDepth 100000 in
def lifted(os:Os)(started:os.Started)(H:Type)(enc:TypeId×Value->H):
  ReturnsInHanded {} Tryz.checked os 6 .any (Rows.fnCacTwiceSpec.pre6 enc Tryz.prog Tryz.f6 Rows.fnCacTwiceRow.domain false) (Rows.fnCacTwiceSpec.post enc Tryz.prog Tryz.f6 false true false false):=by
 refine returnsInHanded_of_change (C:=Tryz.checked) arj started (by kernel_rfl) Tryz.func6
  (ChangeSpec.witness6 (enc:=enc) (C:=Tryz.checked) false ⟨#[], #[.slice none 0 0],[]⟩ 8 (by kernel_rfl) (by kernel_rfl) (by kernel_rfl) (by kernel_rfl)) ?_
 intro W base args ds gs before hval0 hW _ _;have hval:∀(j:Nat) t v,Tryz.f6.params[j]? =some t->args[j]? =some v->Value.okWide Tryz.prog W .any base t v:=hval0;have hW':=hW;obtain⟨p,q,hA0,hV,rfl,_,_⟩:=hW;have hA:DataW.TrodAll enc Tryz.prog W 0 (λ_=>true) true Tryz.f6.params.toList args.toList ds p:=hA0;rw [Tryz.params6]at hA hval;obtain⟨v0,d0,rfl,rfl,h0⟩:=trodAll_one hA;obtain⟨rfl,rfl⟩:=trodVars_none hV
 clear hA0 hval0
 simp only [List.append_nil]at hW';have hlt:∀x∈p,x.block<W.heap.size:=λx hx=>by simpa using hW'.lt x hx
 obtain⟨xs,hr,hb⟩:=Go.TX.aaH Tryz.underlying22 Tryz.underlying5 akM (hval 0 22 v0 rfl rfl) h0 hlt;have hp:=Go.TX.F.apG xs hb;have hq:=Go.TX.F.apH xs hb;refine(Go.TX.aq1 Go.TX.F.agL.ok hr (λg d h=>by cases h) hp).mono λe W' ⟨he,hw⟩=> ?_
 have he:e= .returned (.bool true):=he.trans (congrArg (λz:Bool×Unit=>Ending.returned (.bool z.1)) hq);refine⟨_,he,[d0],[],p,[],p,[],hW',trodAll_mk1 (shut_bool Tryz.underlying4 true),?_,rfl,hw.frame _,λh=>by cases h⟩;exact trodAll_mk1 (Below.trod apI (by kernel_rfl) (of_decide_eq_true (by kernel_rfl)) h0 hw hlt)
def y1:Tryz.pinned.checked.prog.funcNamed Rows.fnCacTwiceRow.func=some 6:=by kernel_rfl
def aS{a b:Bool}(h:a=true)(k:b=true):(a&&b)=true:=by rw [h,k];rfl
set_option maxHeartbeats 4000000 in
def y2:joinedFacts Tryz.pinned.checked.prog 6 Tryz.f6 Rows.fnCacTwiceSpec Rows.fnCacTwiceRow=true:=by
 unfold joinedFacts
 repeat' with_reducible apply aS
 all_goals (as_aux_lemma=>kernel_rfl)
def y3:Func.isWrapper Tryz.prog Tryz.f6 Rows.fnCacTwiceRow.wrapper Rows.fnCacTwiceRow.mainSum:=(by unfold Func.isWrapper;first | (rw [if_pos (by decide+kernel)];kernel_rfl) | (rw [if_neg (by decide+kernel)];exact⟨rfl,rfl⟩))
theorem x_holds:Rows.FnCacTwiceSaid:=
 OpenClaim.holds_of_wide 6 Tryz.f6 rfl rfl rfl rfl rfl rfl rfl ⟨rfl,rfl,rfl,rfl,rfl⟩ rfl rfl rfl rfl rfl y1 Tryz.func6 y2
  (of_decide_eq_true (by kernel_rfl)) y3
  (λos started H enc _=>lifted os started H enc)
end Go.Proofs.YtpkmgiojecpceaaGreat
