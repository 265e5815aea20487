/- For every input the law returns true, and the input reads as it did. No condition. -/
import Derived.Test.YtpkmgiojecpceaaGreatZd
import Derived.ChangeSlices
import Derived.ChangeSame
import Derived.JoinedOf
import Derived.JoinedAt
import Derived.Handed
import Derived.Below
import Derived.Carry
import Derived.OpenShut
import Derived.ChangeKeysEq
import Derived.Test.YtpkmgiojecpceaaGreatRows
set_option maxHeartbeats 1000000
set_option linter.all false
set_option linter.unusedSectionVars false
set_option linter.unusedVariables false
set_option linter.unusedSimpArgs false
namespace Go.TX.F
open Go Go.AE Go.TX
def CAB:(∀e:Cac,ig .cac 0 .i64 e=e.words)/\(∀e:Cac,dA .cac 1 e=e.blk.pc)/\(∀e:Cac,dA .cac 2 e=e.blk.len)/\(∀e:Cac,ig .cac 3 .iop e=e.blk.ops)/\(∀e:Cac,dA .cac 4 e=e.blk.fin)/\(∀e:Cac,dA .cac 5 e=e.blk.x)/\(∀e:Cac,dA .cac 6 e=e.blk.y)/\(∀e:Cac,dA .cac 7 e=e.blk.k):=
 ⟨λ_=>rfl,λ_=>rfl,λ_=>rfl,λ_=>rfl,λ_=>rfl,λ_=>rfl,λ_=>rfl,λ_=>rfl⟩
def CAM:(∀e:Cac,Co.mk .cac (e.words,e.blk.pc,e.blk.len,e.blk.ops,e.blk.fin,e.blk.x,e.blk.y,e.blk.k,())=e)/\(∀x:Cac,([x].length:Int)=1):=⟨λ_=>rfl,λ_=>rfl⟩
def ShK(l:List Cac):Prop:=l.length<1000/\∀x∈l,x.words.length<1000/\x.blk.ops.length<1000000/\x.blk.pc<=1000000
def ShK.at{l:List Cac}(h:ShK l)(i:Nat):(l.getD i default).words.length<1000/\(l.getD i default).blk.ops.length<1000000/\(l.getD i default).blk.pc<=1000000:=by
 by_cases c:i<l.length
 .rw [getD_lt c];exact h.2 _ (List.getElem_mem _)
 .rw [List.getD_eq_getElem?_getD,List.getElem?_eq_none ah];exact⟨by decide,by decide,by decide⟩
def ShK.sub{l r:List Cac}(h:ShK l)(n:r.length<1000)(s:∀x∈r,x∈l):ShK r:=⟨n,λx hx=>h.2 x (s x hx)⟩
def FC(l:List Cac)(pc k:Int):Prop:=(k= -1/\∀j:Int,0<=j->j<l.length->(((l).getD (j).toNat default)).blk.pc≠pc)\/(0<=k/\k<l.length/\(((l).getD (k).toNat default)).blk.pc=pc/\∀j:Int,0<=j->j<k->(((l).getD (j).toNat default)).blk.pc≠pc)
def FC.one{l:List Cac}{pc k m:Int}(h:FC l pc k)(g:FC l pc m):k=m:=by
 rcases h with⟨a,b⟩ | ⟨a,b,c,d⟩<;>rcases g with⟨a',b'⟩ | ⟨a',b',c',d'⟩
 .omega
 .exact absurd c' (b _ a' b')
 .exact absurd c (b' _ a b)
 .rcases Int.lt_trichotomy k m with h | h | h
  .exact absurd c (d' _ a h)
  .exact h
  .exact absurd c' (d _ a' h)
def ael(l:List Cac)(pc:Int)(h:l.length<1000000000):Xp.F () (l,pc,()) (λy=>FC l pc y.1):=by
 dsimp only [Xp,gm];refine aB (λ(y:List Cac×Int×Int×Unit)=>y.1=l/\y.2.1=pc/\0<=y.2.2.1/\y.2.2.1<=l.length/\∀j:Int,0<=j->j<y.2.2.1->(((l).getD (j).toNat default)).blk.pc≠pc) (λy=>(l.length-y.2.2.1).toNat) ⟨rfl,rfl,by simp,by simp,λj h0 h1=>absurd h1 (by simp;omega)⟩ ?_;rintro⟨(l:List Cac),(pc:Int),(i:Int),⟨⟩⟩ hI;dsimp only at hI ⊢;obtain⟨rfl,rfl,h1,h2,h3⟩:=hI;simp (disch:=omega) only [RR,CAB];refine⟨λg=>⟨h1,g,λe=>Or.inr ⟨h1,g,e,h3⟩,λe=>⟨⟨ah,ah,λj j0 j1=> ?_⟩,ah⟩⟩,λg=>Or.inl ⟨rfl,λj j0 j1=>h3 j j0 ah⟩⟩;by_cases c:j<i
 .exact h3 j j0 c
 .rw [show j=i by omega];exact e
def There(w mem:List Int)(pc:Int):Prop:=∀k:Int,0<=k->k<w.length->pc+k<mem.length/\((mem).getD (pc+k).toNat default)=((w).getD (k).toNat default)
def aem(w mem:List Int)(pc:Int)(hw:w.length<1000)(hm:mem.length<1000000000)(p0:0<=pc)(p1:pc<=1000000):WE.F () (w,mem,pc,()) (λy=>y=(bp (There w mem pc),())):=by
 dsimp only [WE,gm];refine aB (λ(y:List Int×List Int×Int×Int×Unit)=>y.1=w/\y.2.1=mem/\y.2.2.1=pc/\0<=y.2.2.2.1/\y.2.2.2.1<=w.length/\∀k:Int,0<=k->k<y.2.2.2.1->pc+k<mem.length/\((mem).getD (pc+k).toNat default)=((w).getD (k).toNat default)) (λy=>(w.length-y.2.2.2.1).toNat) ⟨rfl,rfl,rfl,by simp,by simp,λj h0 h1=>absurd h1 (by simp;omega)⟩ ?_;rintro⟨(w:List Int),(mem:List Int),(pc:Int),(i:Int),⟨⟩⟩ hI;dsimp only at hI ⊢;obtain⟨rfl,rfl,rfl,h1,h2,h3⟩:=hI;simp (disch:=omega) only [RR];refine⟨λg=>⟨ah,ah,ah,ah,λe=> ?_,λe=>⟨⟨ah,ah,λj j0 j1=> ?_⟩,ah⟩⟩,λg=> ?_⟩
 .rw [bL];intro q;obtain⟨q1,q2⟩:=q i h1 g;rcases e with e | e
  .omega
  .exact e q2
 .by_cases c:j<i
  .exact h3 j j0 c
  .rw [show j=i by omega];exact⟨ah,e.2⟩
 .rw [aP];exact λj j0 j1=>h3 j j0 ah
abbrev cE(e : Cac) : Int × Int × Int × Int × Int × Int × List Int × List IOp × Unit := (e.blk.pc, e.blk.len, e.blk.fin, e.blk.x, e.blk.y, e.blk.k, e.words, e.blk.ops, ())
theorem al0{p1 f1}(U1:Y77 p1 f1)(e:Cac)(hw:e.words.length<1000)(ho:e.blk.ops.length<1000000):WB.F (p1,f1,()) (e,()) (λy=>y=cE e):=by
 have mE:∀c:Blk,Co.mk .blk (c.pc,c.len,c.ops,c.fin,c.x,c.y,c.k,())=c:=λ_=>rfl
 dsimp only [WB,gm,kJ];simp (disch:=omega) only [RR,CAB,mE,U1.hp _ ho,U1.hf _ ho,List.nil_append,List.length_nil];omega
noncomputable def cu (mem:List Int) (x:Cac):Bool:=bp (0<=x.blk.pc/\There x.words mem x.blk.pc)
def jo{α:Type}{d:α}{P:α->Bool}{l:List α}{i:Int}(h0:0<=i)(h:i<l.length):(l.take (i+1).toNat).filter P=(l.take i.toNat).filter P++(if P (l.getD i.toNat d)=true then [l.getD i.toNat d]else []):=by
 rw [show(i+1).toNat=i.toNat+1 by omega,List.take_succ_eq_append_getElem ah,getD_lt ah,List.filter_append]
 congr 1
 rw [List.filter_cons,List.filter_nil]
def lY{α:Type}(P:α->Bool)(l:List α)(i:Nat):((l.take i).filter P).length<=i:=Nat.le_trans (List.length_filter_le _ _) (List.length_take_le _ _)
structure acU(pp:Cac×Unit->Bool)(ff:Cac×Unit->Int×Int×Int×Int×Int×Int×List Int×List IOp×Unit):Prop where
 hp:∀e,e.words.length<1000->e.blk.ops.length<1000000->pp (e,())=true
 hf:∀e,e.words.length<1000->e.blk.ops.length<1000000->ff (e,())=cE e
structure al1(pp:List Int×List Int×Int×Unit->Bool)(ff:List Int×List Int×Int×Unit->Bool×Unit):Prop where
 hp:∀w mem pc,w.length<1000->mem.length<1000000000->0<=pc->pc<=1000000->pp (w,mem,pc,())=true
 hf:∀w mem pc,w.length<1000->mem.length<1000000000->0<=pc->pc<=1000000->ff (w,mem,pc,())=(bp (There w mem pc),())
def al2{p1 f1 p2 f2}(U1:acU p1 f1)(U2:al1 p2 f2)(l:List Cac)(mem:List Int)(h:ShK l)(hm:mem.length<1000000000):WG.F (p1,f1,p2,f2,()) (l,mem,()) (λy=>y=(l.filter (cu mem),())):=by
 obtain⟨hp1,hf1⟩:=U1;obtain⟨hp2,hf2⟩:=U2;have hl:=h.1;have mC:=CAM;dsimp only [WG,gm,kJ,List.map_cons,List.map_nil]at*;refine aB (λ(y:List Cac×List Int×Int×List Cac×Unit)=>y.1=l/\y.2.1=mem/\0<=y.2.2.1/\y.2.2.1<=l.length/\y.2.2.2.1=(l.take y.2.2.1.toNat).filter (cu mem)) (λy=>(l.length-y.2.2.1).toNat) ⟨rfl,rfl,by simp,by simp,by simp⟩ ?_;rintro⟨(l:List Cac),(mem:List Int),(i:Int),(o:List Cac),⟨⟩⟩ hI;dsimp only at hI ⊢;obtain⟨rfl,rfl,h1,h2,rfl⟩:=hI;obtain⟨a1,a2,a3⟩:=h.at i.toNat;have fl:=lY (cu mem) l i.toNat;by_cases c:i<l.length
 .have fs:=jo (d:=default) (P:=cu mem) h1 c;by_cases d:0<=(((l).getD (i).toNat default)).blk.pc
  .have P2:=hp2 _ mem _ a1 hm d a3;have H2:=hf2 _ mem _ a1 hm d a3;have P1:=hp1 _ a1 a2;have H1:=hf1 _ a1 a2;simp (disch:=omega) only [RR,CAB,c,d,P1,P2,H1,H2,mC];refine⟨h1,h1,h1,λe=>⟨h1,ah,⟨ah,ah,?_⟩,ah⟩,λe=>⟨⟨ah,ah,?_⟩,ah⟩⟩
   .rw [fs,if_pos (show cu mem _=true from aP ⟨d,aV.1 e⟩)]
   .rw [fs,if_neg (by rw [cu,bL (λg=>by rw [aP g.2]at e;simp at e)];decide),List.append_nil]
  .simp (disch:=omega) only [RR,CAB,c,d,mC];refine⟨h1,λe=>e.1.elim,λ_=>⟨⟨ah,ah,?_⟩,ah⟩⟩;rw [fs,if_neg (by rw [cu,bL (λg=>d g.1)];decide),List.append_nil]
 .simp (disch:=omega) only [RR,CAB,c];rw [List.take_of_length_le ah]
noncomputable def lg:List Int->List Ins
 | []=> []
 | w::r=>if bp (Wo w/\bX (gN w))=true then gN w::lg r else []
def RO:∀w:List Int,(lg w).length<=w.length
 | []=>Nat.le_refl _
 | w::r=>by
  have:=RO r;unfold lg;split<;>simp only [List.length_cons,List.length_nil]<;>omega
def Em:∀(a b:List Int),(∀w∈a,Wo w/\bX (gN w))->lg (a++b)=a.map gN++lg b
 | [],b,_=>rfl
 | w::a,b,h=>by
  rw [List.cons_append,lg,if_pos (aP (h w (by simp))),Em a b (λx hx=>h x (by simp [hx]))];rfl
theorem al3{p1 f1}(U1:ahy p1 f1)(w:List Int)(h:w.length<1000):Xg.F (p1,f1,()) (w,()) (λy=>y=(lg w,())):=by
 have e:∀x y z u:Int,Co.mk .ins (x,y,z,u,())=⟨x,y,z,u⟩:=λ_ _ _ _=>rfl
 dsimp only [Xg,gm];refine aB (λ(y:List Int×Int×List Ins×Unit)=>y.1=w/\0<=y.2.1/\y.2.1<=w.length/\y.2.2.1=(w.take y.2.1.toNat).map gN/\∀x∈w.take y.2.1.toNat,Wo x/\bX (gN x)) (λy=>(w.length-y.2.1).toNat) ⟨rfl,by simp,by simp,by simp,by simp⟩ ?_;rintro⟨(w:List Int),(i:Int),(o:List Ins),⟨⟩⟩ hI;dsimp only at hI ⊢;obtain⟨rfl,h1,h2,rfl,h3⟩:=hI;simp (disch:=omega) only [RR,U1.hp,U1.hf];have tl:=List.length_take_le' i.toNat w;refine⟨λg=>⟨h1,g,?_⟩,λg=> ?_⟩
 .have dr:w=w.take i.toNat++(w.getD i.toNat default::w.drop (i.toNat+1)):=by
   rw [getD_lt ah,<-List.drop_eq_getElem_cons ah,List.take_append_drop]
  unfold tkI;by_cases c:Wo (w.getD i.toNat default)/\bX (gN (w.getD i.toNat default))
  .rw [if_pos (aP c)];simp (disch:=omega) only [RR,e];have ts:=cO (d:=default) h1 g (l:=w) rfl;have ml:((w.take i.toNat).map gN).length=i.toNat:=by rw [List.length_map,List.length_take];omega
   refine⟨by rw [ml];simp only [List.length_cons,List.length_nil];omega,⟨ah,ah,by rw [<-ts,List.map_append];rfl,λx hx=> ?_⟩,ah⟩;rw [<-ts,List.mem_append,List.mem_singleton]at hx;exact hx.elim (h3 x) (λq=>q▸c)
  .rw [if_neg (by rw [bL c];decide)];simp (disch:=omega) only [RR]
   conv=>rhs;rw [dr]
   rw [Em _ _ h3,lg,if_neg (by rw [bL c];decide),List.append_nil]
   done
 .rw [List.take_of_length_le ah]at h3 ⊢;have:=Em w [] h3;rw [List.append_nil]at this;rw [this];simp [lg]
def neP(pc:Int)(x:Cac):Bool:= !decide (x.blk.pc=pc)
def pR(l:List Cac)(e:Cac):List Cac:=(l.filter (neP e.blk.pc)++ [e]).drop ((l.filter (neP e.blk.pc)).length+1-4)
def al4{p1 f1}(U1:acU p1 f1)(l:List Cac)(e:Cac)(h:ShK l)(h1:e.words.length<1000)(h2:e.blk.ops.length<1000000):Xq.F (p1,f1,()) (l,e,()) (λy=>y=(pR l e,())):=by
 obtain⟨hp1,hf1⟩:=U1;have hl:=h.1;have mC:=CAM;dsimp only [Xq,gm,kJ,List.map_cons,List.map_nil]at*;refine aB (λ(y:List Cac×Int×Cac×List Cac×Unit)=>y.1=l/\0<=y.2.1/\y.2.1<=l.length/\y.2.2.1=e/\y.2.2.2.1=(l.take y.2.1.toNat).filter (neP e.blk.pc)) (λy=>(l.length-y.2.1).toNat) ⟨rfl,by simp,by simp,rfl,by simp⟩ ?_;rintro⟨(l:List Cac),(i:Int),(e:Cac),(o:List Cac),⟨⟩⟩ hI;dsimp only at hI ⊢;obtain⟨rfl,i1,i2,rfl,rfl⟩:=hI;obtain⟨a1,a2,a3⟩:=h.at i.toNat;have fl:=lY (neP e.blk.pc) l i.toNat;have P0:=hp1 _ h1 h2;have H0:=hf1 _ h1 h2;by_cases c:i<l.length
 .have fs:=jo (d:=default) (P:=neP e.blk.pc) i1 c;by_cases d:(((l).getD (i).toNat default)).blk.pc=e.blk.pc
  .rw [if_neg (by simp [neP,d, -List.getD_eq_getElem?_getD])]at fs;simp (disch:=omega) only [RR,CAB,c,d,mC];exact⟨i1,⟨ah,ah,by rw [fs,List.append_nil]⟩,ah⟩
  .rw [if_pos (by simp [neP,d, -List.getD_eq_getElem?_getD])]at fs;have P1:=hp1 _ a1 a2;have H1:=hf1 _ a1 a2;simp (disch:=omega) only [RR,CAB,c,d,P1,H1,mC];exact⟨i1,i1,ah,⟨ah,ah,fs.symm⟩,ah⟩
 .simp (disch:=omega) only [RR,CAB,c,P0,H0,mC];rw [List.take_of_length_le ah]at fl ⊢;have el:((l.filter (neP e.blk.pc)++ [e]).length:Int)=(l.filter (neP e.blk.pc)).length+1:=by rw [List.length_append,List.length_singleton];omega
  have el':(l.filter (neP e.blk.pc)++ [e]).length=(l.filter (neP e.blk.pc)).length+1:=by rw [List.length_append,List.length_singleton]
  rw [el];generalize hn:(l.filter (neP e.blk.pc)).length=n at*;have w:IntKind.i64.wrap ((n:Int)+1-4)=n+1-4:=w64 ah ah;rw [w];unfold pR;rw [hn];refine⟨ah,λg3=>⟨ah,ah,ah,ah,ah,ah,?_⟩,λg3=>by rw [show n+1-4=0 by omega];rfl⟩;rw [List.take_of_length_le ah,show((n:Int)+1-4).toNat=n+1-4 by omega]
def Az(x:Cac):Prop:=(lg x.words).length=x.words.length/\oK x.blk.pc (lg x.words)/\chk (lower x.blk.pc (lg x.words)) x.blk=true
theorem al5{p1 f1 p2 f2 p4 f4}(U1:ahE p1 f1)(U2:alY p2 f2){p3:List Int×Unit->Bool}{f3:List Int×Unit->List Ins×Unit}(hp3:∀w,w.length<1000->p3 (w,())=true)(hf3:∀w,w.length<1000->f3 (w,())=(lg w,()))(U4:Y96 p4 f4)(e:Cac)(hw:e.words.length<1000)(ho:e.blk.ops.length<1000000):Xh.F (p1,f1,p2,f2,p3,f3,p4,f4,()) (e,()) (λy=>y=(bp (Az e),())):=by
 have mE:∀c:Blk,Co.mk .blk (c.pc,c.len,c.ops,c.fin,c.x,c.y,c.k,())=c:=λ_=>rfl
 have tl:=RO e.words;have P1:=U1.hp e.blk.pc (lg e.words) ah;have H1:=U1.hf e.blk.pc (lg e.words) ah;have P2:=U2.hp e.blk.pc (lg e.words) ah;have H2:=U2.hf e.blk.pc (lg e.words) ah;have lw:=IB H1;rw [H1]at lw;have P4:=U4.hp (lower e.blk.pc (lg e.words)) e.blk (by have:((lower e.blk.pc (lg e.words)).ops.length:Int)<=5000:=lw;omega) ah;have H4:=U4.hf (lower e.blk.pc (lg e.words)) e.blk (by have:((lower e.blk.pc (lg e.words)).ops.length:Int)<=5000:=lw;omega) ah;dsimp only [Xh,gm,kJ];simp (disch:=omega) only [RR,CAB,mE,hp3 _ hw,hf3 _ hw,P1,H1,P2,H2,P4,H4];have eq:bp (Az e)=(decide (((lg e.words).length:Int)=e.words.length)&&bp (oK e.blk.pc (lg e.words))&&chk (lower e.blk.pc (lg e.words)) e.blk):=by
  rw [Bool.eq_iff_iff,aV,Bool.and_eq_true,Bool.and_eq_true,aV,decide_eq_true_eq];exact⟨λ⟨a,b,c⟩=>⟨⟨ah,b⟩,c⟩,λ⟨⟨a,b⟩,c⟩=>⟨ah,b,c⟩⟩
 exact⟨λ_=>by rw [eq],λg=>⟨g,by rw [eq,g];rfl⟩⟩
def O9(l:List Cac)(mem:List Int):Prop:=l.length<=4/\(∀j:Int,0<=j->j<l.length->Az ((l).getD (j).toNat default)/\There (((l).getD (j).toNat default)).words mem (((l).getD (j).toNat default)).blk.pc)/\∀i j:Int,0<=i->i<j->j<l.length->(((l).getD (i).toNat default)).blk.pc≠(((l).getD (j).toNat default)).blk.pc
def al6{p2 f2}{p1:Cac×Unit->Bool}{f1:Cac×Unit->Bool×Unit}(hp1:∀e,e.words.length<1000->e.blk.ops.length<1000000->p1 (e,())=true)(hf1:∀e,e.words.length<1000->e.blk.ops.length<1000000->f1 (e,())=(bp (Az e),()))(U2:al1 p2 f2)(l:List Cac)(mem:List Int)(h:ShK l)(hm:mem.length<1000000000):Xi.F (p1,f1,p2,f2,()) (l,mem,()) (λy=>y=(bp (O9 l mem),())):=by
 have hl:=h.1;dsimp only [Xi,gm,kJ];simp (disch:=omega) only [RR,CAB];refine⟨λg=>by rw [bL (λe=>by have:=e.1;omega)],λg=> ?_⟩;refine aB (λ(y:List Cac×List Int×Int×Unit)=>y.1=l/\y.2.1=mem/\0<=y.2.2.1/\y.2.2.1<=l.length/\(∀j:Int,0<=j->j<y.2.2.1->Az ((l).getD (j).toNat default)/\There (((l).getD (j).toNat default)).words mem (((l).getD (j).toNat default)).blk.pc)/\∀i j:Int,0<=i->i<j->j<y.2.2.1->(((l).getD (i).toNat default)).blk.pc≠(((l).getD (j).toNat default)).blk.pc) (λy=>(l.length-y.2.2.1).toNat) ⟨rfl,rfl,by simp,by simp,λj h0 h1=>absurd h1 (by simp;omega),λi j h0 h1 h2=>absurd h2 (by simp;omega)⟩ ?_;rintro⟨(l':List Cac),(mem':List Int),(i:Int),⟨⟩⟩ hI;dsimp only at hI ⊢;obtain⟨rfl,rfl,i1,i2,i3,i4⟩:=hI;obtain⟨a1,a2,a3⟩:=h.at i.toNat;by_cases c:i<l'.length
 .by_cases d:Az ((l').getD (i).toNat default)
  .have pc:=d.2.1.pc;have P2:=U2.hp _ mem' _ a1 hm pc.1 a3;have H2:=U2.hf _ mem' _ a1 hm pc.1 a3;simp (disch:=omega) only [RR,CAB,c,hp1 _ a1 a2,hf1 _ a1 a2,aP d,P2,H2];refine⟨i1,i1,i1,λe=> ?_,λe=> ?_⟩
   .rw [bL];intro q;rw [aP (q.2.1 i i1 c).2]at e;cases e
   have th:=aV.1 e;refine aB (λ(y:List Cac×List Int×Int×Int×Unit)=>y.1=l'/\y.2.1=mem'/\y.2.2.1=i/\0<=y.2.2.2.1/\y.2.2.2.1<=i/\∀j:Int,0<=j->j<y.2.2.2.1->(((l').getD (j).toNat default)).blk.pc≠(((l').getD (i).toNat default)).blk.pc) (λy=>(i-y.2.2.2.1).toNat) ⟨rfl,rfl,rfl,by simp,i1,λj h0 h1=>absurd h1 (by simp;omega)⟩ ?_;rintro⟨(u:List Cac),(v:List Int),(w:Int),(k:Int),⟨⟩⟩ hJ;dsimp only at hJ ⊢;obtain⟨rfl,rfl,rfl,k1,k2,k3⟩:=hJ;simp (disch:=omega) only [RR];refine⟨λg1=>⟨k1,ah,i1,c,λq=> ?_,λq=>⟨⟨ah,ah,λj j0 j1=> ?_⟩,ah⟩⟩,λg1=>⟨⟨ah,ah,λj j0 j1=> ?_,λa b b0 b1 b2=> ?_⟩,ah⟩⟩
   .rw [bL];exact λz=>z.2.2 k w k1 g1 c q
   .by_cases y:j<k
    .exact k3 j j0 y
    .rw [show j=k by omega];exact q
   .by_cases y:j<w
    .exact i3 j j0 y
    .rw [show j=w by omega];exact⟨d,th⟩
   .by_cases y:b<w
    .exact i4 a b b0 b1 y
    .rw [show b=w by omega];exact k3 a b0 ah
  .simp (disch:=omega) only [RR,CAB,c,hp1 _ a1 a2,hf1 _ a1 a2,bL d];refine⟨i1,?_,λe=>e.1.elim⟩;rw [bL];exact λz=>d (z.2.1 i i1 c).1
 .simp (disch:=omega) only [RR,CAB,c];rw [aP];exact⟨ah,λj j0 j1=>i3 j j0 ah,λa b a0 a1 a2=>i4 a b a0 a1 ah⟩
def EGB:(∀e:Eng,ig .eng 0 .i64 e=e.au.regs)/\(∀e:Eng,dA .eng 1 e=e.au.pc)/\(∀e:Eng,ig .eng 2 .i64 e=e.au.mem)/\(∀e:Eng,dA .eng 3 e=e.au.save)/\(∀e:Eng,LY .eng 4 e=e.au.bH)/\(∀e:Eng,LY .eng 5 e=e.au.waits)/\(∀e:Eng,dA .eng 6 e=e.au.halt)/\(∀e:Eng,ig .eng 7 .i64 e=e.au.ins)/\(∀e:Eng,ig .eng 8 .i64 e=e.au.outs)/\(∀e:Eng,dA .eng 9 e=e.au.count)/\(∀e:Eng,ig .eng 10 .cac e=e.cache)/\(∀e:Eng,ig .eng 11 .cer e=e.aZ):=
 ⟨λ_=>rfl,λ_=>rfl,λ_=>rfl,λ_=>rfl,λ_=>rfl,λ_=>rfl,λ_=>rfl,λ_=>rfl,λ_=>rfl,λ_=>rfl,λ_=>rfl,λ_=>rfl⟩
theorem MKM:∀m:aG,Co.mk .au (m.regs,m.pc,m.mem,m.save,m.bH,m.waits,m.halt,m.ins,m.outs,m.count,())=m:=λ_=>rfl
def Pb(e:Eng):Prop:=MOK e.au/\O9 e.cache e.au.mem/\Kq e.aZ
def al7{p2 f2 p3 f3}{p1:List Cac×List Int×Unit->Bool}{f1:List Cac×List Int×Unit->Bool×Unit}(hp1:∀l mem,ShK l->mem.length<1000000000->p1 (l,mem,())=true)(hf1:∀l mem,ShK l->mem.length<1000000000->f1 (l,mem,())=(bp (O9 l mem),()))(U2:aoS p2 f2)(U3:Zg p3 f3)(e:Eng)(h1:MSh e.au)(h2:ShK e.cache)(h3:ShD e.aZ):Xk.F (p1,f1,p2,f2,p3,f3,()) (e,()) (λy=>y=(bp (Pb e),())):=by
 obtain⟨hp2,hf2⟩:=U2;obtain⟨hp3,hf3⟩:=U3;have mM:=MKM;have P1:=hp1 _ e.au.mem h2 h1.2.1;have H1:=hf1 _ e.au.mem h2 h1.2.1;dsimp only [Xk,gm,om]at*;simp (disch:=omega) only [RR,EGB,mM,hp3 _ h1,hf3 _ h1,P1,H1,hp2 _ h3,hf2 _ h3];unfold Pb;rw [rV,rV,Bool.and_assoc]
abbrev e12(e : Eng) : List Int × Int × Int × Bool × Bool × Int × List Int × List Int × Int × List Cer × List Int × List Cac × Unit := (e.au.regs, e.au.pc, e.au.save, e.au.bH, e.au.waits, e.au.halt, e.au.ins, e.au.outs, e.au.count, e.aZ, e.au.mem, e.cache, ())
noncomputable def newE (m:aG):Eng:=if bp (MOK m)=true then⟨m,[],[]⟩else⟨KF,[],[]⟩
def al8{p1 f1 p2 f2}(U1:Zg p1 f1)(U2:acM p2 f2)(m:aG)(h:MSh m):Wv.F (p1,f1,p2,f2,()) (m,()) (λy=>y=e12 (newE m)):=by
 dsimp only [Wv,gm];simp (disch:=omega) only [RR,U1.hp _ h,U1.hf _ h,U2.hp _ h,U2.hf _ h];unfold newE;exact⟨λg=>by rw [g];rfl,λg=>by rw [g];rfl⟩
def Zz{m:aG}(h:MSh m)(ho:m.outs.length<900000000)(b:Bool):MSh (stS m b)/\(stS m b).outs.length<=m.outs.length+1/\(stS m b).ins.length<=m.ins.length:=by
 obtain⟨a1,a2,a3,a4⟩:=h;unfold stS;split
 .rename_i g;have ok:=aV.1 g;split
  .exact⟨⟨a1,a2,a3,a4⟩,Nat.le_succ _,Nat.le_refl _⟩
  .have k:=Zt ok (by have:=ok.ct;omega) b;have l:=Zu m b;exact⟨⟨by rw [k.r4];omega,by have:=k.m64;omega,ah,ah⟩,l.2,l.1⟩
 .exact⟨⟨by decide,by decide,by decide,by decide⟩,Nat.zero_le _,Nat.zero_le _⟩
noncomputable def su (e:Eng) (q:List Int):Eng:=⟨stS e.au (bp (e.au.count∈q)),e.cache.filter (cu (stS e.au (bp (e.au.count∈q))).mem),e.aZ⟩
structure acV(pp:List Cac×List Int×Unit->Bool)(ff:List Cac×List Int×Unit->List Cac×Unit):Prop where
 hp:∀l mem,ShK l->mem.length<1000000000->pp (l,mem,())=true
 hf:∀l mem,ShK l->mem.length<1000000000->ff (l,mem,())=(l.filter (cu mem),())
def ahG{p1 f1 p2 f2 p3 f3}(U1:acV p1 f1)(U2:apa p2 f2)(U3:ahz p3 f3)(e:Eng)(q:List Int)(h1:MSh e.au)(ho:e.au.outs.length<900000000)(h2:ShK e.cache)(hq:q.length<1000000000):Oc.F (p1,f1,p2,f2,p3,f3,()) (e.au.regs,e.au.pc,e.au.mem,e.au.save,e.au.bH,e.au.waits,e.au.halt,e.au.ins,e.au.outs,e.au.count,e.cache,q,e.aZ,()) (λy=>y=e12 (su e q)):=by
 obtain⟨hp1,hf1⟩:=U1;obtain⟨hp2,hf2⟩:=U2;obtain⟨hp3,hf3⟩:=U3;have mM:=MKM;dsimp only [Oc,gm,om]at*;have P3:=hp3 _ e.au.count hq;have H3:=hf3 _ e.au.count hq;have P2:=hp2 e.au (bp (e.au.count∈q)) h1 ho;have H2:=hf2 e.au (bp (e.au.count∈q)) h1 ho;have sh:=(Zz h1 ho (bp (e.au.count∈q))).1;have P1:=hp1 _ (stS e.au (bp (e.au.count∈q))).mem h2 sh.2.1;have H1:=hf1 _ (stS e.au (bp (e.au.count∈q))).mem h2 sh.2.1;simp (disch:=omega) only [RR,mM,P3,H3,P2,H2,P1,H1];rfl
theorem al9{p1 f1 p2 f2 p3 f3}(U1:acU p1 f1)(U2:alD p2 f2)(U3:acM p3 f3)(e:Eng)(h1:MSh e.au)(h2:ShK e.cache)(h3:ShC e.aZ):Xm.F (p1,f1,p2,f2,p3,f3,()) (e,()) (λy=>y=e12 e):=by
 obtain⟨hp1,hf1⟩:=U1;obtain⟨hp2,hf2⟩:=U2;obtain⟨hp3,hf3⟩:=U3;have mM:=MKM;have mC:=CAM;have mQ:∀q:Cer,Co.mk .cer (q.base.pc,q.base.len,q.base.ops,q.base.fin,q.base.x,q.base.y,q.base.k,q.made.pc,q.made.len,q.made.ops,q.made.fin,q.made.x,q.made.y,q.made.k,())=q:=λ_=>rfl
 unfold acI at hf2;dsimp only [Xm,gm,om,kJ,List.cons_append,List.nil_append,List.map_cons,List.map_nil]at*;simp (disch:=omega) only [RR,EGB,mM,hp3 _ h1,hf3 _ h1];have l2:=h2.1;have l3:=h3.1;have cq:∀x:Cer,([x].length:Int)=1:=λ_=>rfl
 refine aB (λy=>∃i:Nat,i<=e.cache.length/\y=((i:Int),e,(0:Int),(0:Int),false,false,(0:Int),(0:Int),e.au.pc,e.au.save,e.au.bH,e.au.waits,e.au.halt,e.au.count,e.au.regs,e.au.mem,e.au.ins,e.au.outs,e.cache.take i,())) (λy=>(e.cache.length-y.1).toNat) ⟨0,Nat.zero_le _,rfl⟩ ?_;rintro y ⟨i,hi,rfl⟩;dsimp only;obtain⟨a1,a2,a3⟩:=h2.at i;have ei:((i:Int)).toNat=i:=rfl;by_cases c:(i:Int)<e.cache.length
 .have tl:=List.length_take_le' i e.cache;simp (disch:=omega) only [RR,c,ei,hp1 _ a1 a2,hf1 _ a1 a2,mC];refine⟨ah,ah,⟨i+1,ah,?_⟩,ah⟩;rw [List.take_succ_eq_append_getElem ah,getD_lt ah];rfl
 .simp (disch:=omega) only [RR,c];rw [List.take_of_length_le ah];refine aB (λy=>∃i:Nat,i<=e.aZ.length/\y=((i:Int),e,(0:Int),(0:Int),false,false,(0:Int),(0:Int),e.au.pc,e.au.save,e.au.bH,e.au.waits,e.au.halt,e.au.count,e.au.regs,e.au.mem,e.au.ins,e.au.outs,e.cache,e.aZ.take i,())) (λy=>(e.aZ.length-y.1).toNat) ⟨0,Nat.zero_le _,rfl⟩ ?_;rintro y ⟨j,hj,rfl⟩;dsimp only;have b:=h3.at j;have ej:((j:Int)).toNat=j:=rfl;by_cases c:(j:Int)<e.aZ.length
  .have tl:=List.length_take_le' j e.aZ;simp (disch:=omega) only [RR,c,ej,hp2 _ b.1 b.2,hf2 _ b.1 b.2,mQ,cq];refine⟨ah,ah,⟨j+1,ah,?_⟩,ah⟩;rw [List.take_succ_eq_append_getElem ah,getD_lt ah];rfl
  .simp (disch:=omega) only [RR,c];rw [List.take_of_length_le ah]
structure apj(pp:List Cac×Int×Unit->Bool)(ff:List Cac×Int×Unit->Int×Unit):Prop where
 hp:∀l pc,l.length<1000000000->pp (l,pc,())=true
 hf:∀l pc,l.length<1000000000->FC l pc (ff (l,pc,())).1
def lvS(m:aG)(b:Blk)(n h:Int):aG:={m with pc:=b.pc+n,count:=m.count+n,halt:=h}
def ZA(m:aG)(b:Blk)(n h:Int)(h1:0<=m.count/\m.count<=2000000)(h2:0<=n/\n<=1000)(h3: -1000<=b.pc/\b.pc<=1000000):Oe.F () (m.pc,m.save,m.bH,m.waits,m.halt,m.ins,m.count,b,n,h,m.regs,m.mem,m.outs,()) (λy=>y=mB (lvS m b n h)):=by
 dsimp only [Oe,gm];simp (disch:=omega) only [RR,RB];rfl
def ZB(b:Blk)(a n:Int)(h2:0<=n/\n<=1000)(h3: -1000<=b.pc/\b.pc<=1000000)(h4: -1000<=b.len/\b.len<=1000000):Og.F () (b,a,n,()) (λy=>y=(decide (b.pc+n<a)&&decide (a<b.pc+b.len),())):=by
 dsimp only [Og,gm];simp (disch:=omega) only [RR,RB]
def ahH{p1 f1}(U1:Y24 p1 f1)(m:aG)(o:IOp)(x y:Int)(h:o.kind=2->0<=o.k/\o.k<m.regs.length):Oj.F (p1,f1,()) (m,o,x,y,()) (λz=>z=(if o.kind=1 then o.k else if o.kind=2 then((m.regs).getD (o.k).toNat default)else if o.kind=3 then wdo o.k x y else 0,())):=by
 dsimp only [Oj,gm];simp (disch:=omega) only [RR,RB,MRB,U1.hp,U1.hf];refine⟨λe=>by rw [if_pos e],λe=>⟨λg=>⟨(h g).1,(h g).2,by rw [if_neg e,if_pos g]⟩,λg=>⟨λk=>by rw [if_neg e,if_neg g,if_pos k],λk=>by rw [if_neg e,if_neg g,if_neg k]⟩⟩⟩
def goS(b:Blk)(v:List Int):Int:=if b.fin=1 then b.k else if b.fin=2 then((v).getD (b.x).toNat default)else if b.fin=3/\((v).getD (b.x).toNat default)=((v).getD (b.y).toNat default)then b.k else if b.fin=4/\((v).getD (b.x).toNat default)< ((v).getD (b.y).toNat default)then b.k else b.pc+b.len
def ZE(b:Blk)(v:List Int)(h3: -1000<=b.pc/\b.pc<=1000000)(h4: -1000<=b.len/\b.len<=1000000)(hx:b.fin≠1->0<=b.x/\b.x<v.length)(hy:3<=b.fin->0<=b.y/\b.y<v.length):Ol.F () (b,v,()) (λz=>z=(goS b v,())):=by
 dsimp only [Ol,gm];simp (disch:=omega) only [RR,RB];unfold goS;refine⟨λe=>by rw [if_pos e],λe=>⟨λg=>⟨(hx e).1,(hx e).2,by rw [if_neg e,if_pos g]⟩,λg=>⟨λk=> ?_,λk=>⟨λj=> ?_,λj=>by rw [if_neg e,if_neg g,if_neg (λz=>k z.1),if_neg (λz=>j z.1)]⟩⟩⟩⟩
 .have Y:=hy ah;exact⟨(hx e).1,(hx e).2,Y.1,Y.2,λz=>by rw [if_neg e,if_neg g,if_pos ⟨k,z⟩],λz=>by rw [if_neg e,if_neg g,if_neg (λw=>z w.2),if_neg (λw=>by omega)]⟩
 .have Y:=hy ah;exact⟨(hx e).1,(hx e).2,Y.1,Y.2,λz=>by rw [if_neg e,if_neg g,if_neg (λw=>k w.1),if_pos ⟨j,z⟩],λz=>by rw [if_neg e,if_neg g,if_neg (λw=>k w.1),if_neg (λw=>z w.2)]⟩
noncomputable def En (m:aG) (q:List Int) (left size:Int):Bool:=bp (size<=left/\m.count<=1000000-size/\∀k:Int,1<=k->k<size->m.count+k∉q)
def ZF{p1 f1}(U1:ahz p1 f1)(m:aG)(q:List Int)(left size:Int)(hq:q.length<1000000000)(h1:0<=m.count/\m.count<=2000000)(h2: -1000<=size/\size<=1000000):Od.F (p1,f1,()) (m,q,left,size,()) (λy=>y=(En m q left size,())):=by
 dsimp only [Od,gm];simp (disch:=omega) only [RR,MRB];refine⟨λg=>by unfold En;rw [bL (λz=>by omega)],λg=> ?_⟩;refine aB (λ(y:List Int×Int×Int×aG×Unit)=>y.1=q/\y.2.1=size/\1<=y.2.2.1/\(y.2.2.1<=size\/y.2.2.1=1)/\y.2.2.2.1=m/\∀k:Int,1<=k->k<y.2.2.1->m.count+k∉q) (λy=>(size-y.2.2.1).toNat) ⟨rfl,rfl,by simp,Or.inr rfl,rfl,λk h0 h1=>absurd h1 (by simp;omega)⟩ ?_;rintro⟨(q:List Int),(s:Int),(k:Int),(m:aG),⟨⟩⟩ hI;dsimp only at hI ⊢;obtain⟨rfl,rfl,k1,k2,rfl,k3⟩:=hI;simp (disch:=omega) only [RR,U1.hp _ _ hq,U1.hf _ _ hq];refine⟨λc=>⟨λe=> ?_,λe=> ?_⟩,λc=>by unfold En;rw [aP ⟨ah,ah,λj j0 j1=>k3 j j0 ah⟩]⟩
 .unfold En;rw [bL (λz=>z.2.2 k k1 c (aV.1 e))]
 .refine⟨⟨ah,ah,λj j0 j1=> ?_⟩,ah⟩;by_cases z:j<k
  .exact k3 j j0 z
  .rw [show j=k by omega];exact kK.1 e
def aen(b:List Int)(k:Int)(hb:By b)(h0:0<=k)(h1:k+1<b.length)(hl:b.length<1000000000):XF.F () (b,k,()) (λy=>y=(((b).getD (k).toNat default)*256+((b).getD (k+1).toNat default),())):=by
 have B:=λk:Nat=>hb.at k
 have c:∀k:Nat,IntKind.i64.wrap (b.getD k default)=b.getD k default:=λk=>by have:=B k;exact w64 ah ah
 have B0:=B k.toNat;have B1:=B (k+1).toNat;dsimp only [XF,gm];simp (disch:=omega) only [RR,c];exact⟨h0,ah,ah,h1⟩
def evR(m:aG)(b:Blk)(o:IOp)(x y:Int):aG×Int×Bool:=
 if o.kind=7 then({m with outs:=m.outs++ [x]},0,false)
 else if o.kind=6 then({m with ins:=m.ins.drop 1},m.ins.getD 0 0,false)
 else if 64<=x then(lvS m b o.at_ 3,0,true)
 else if o.kind=4 then(m,((m.mem).getD (x).toNat default),false)
 else if b.pc+o.at_<x/\x<b.pc+b.len then(lvS {m with mem:=m.mem.set x.toNat y} b (o.at_+1) 0,0,true)
 else({m with mem:=m.mem.set x.toNat y},0,false)
abbrev ahI(z : aG × Int × Bool) : Int × Int × Bool × Bool × Int × List Int × Int × Int × Bool × List Int × List Int × List Int × Unit := (z.1.pc, z.1.save, z.1.bH, z.1.waits, z.1.halt, z.1.ins, z.1.count, z.2.1, z.2.2, z.1.regs, z.1.mem, z.1.outs, ())
theorem ahJ{p1:Int×Int×Bool×Bool×Int×List Int×Int×Blk×Int×Int×List Int×List Int×List Int×Unit->Bool}{f1:Int×Int×Bool×Bool×Int×List Int×Int×Blk×Int×Int×List Int×List Int×List Int×Unit->Int×Int×Bool×Bool×Int×List Int×Int×List Int×List Int×List Int×Unit}(hp1:∀(m:aG) (b:Blk) (n h:Int),0<=m.count/\m.count<=2000000->0<=n/\n<=1000-> -1000<=b.pc/\b.pc<=1000000->p1 (m.pc,m.save,m.bH,m.waits,m.halt,m.ins,m.count,b,n,h,m.regs,m.mem,m.outs,())=true)(hf1:∀(m:aG) (b:Blk) (n h:Int),0<=m.count/\m.count<=2000000->0<=n/\n<=1000-> -1000<=b.pc/\b.pc<=1000000->f1 (m.pc,m.save,m.bH,m.waits,m.halt,m.ins,m.count,b,n,h,m.regs,m.mem,m.outs,())=mB (lvS m b n h)){p2:Blk×Int×Int×Unit->Bool}{f2:Blk×Int×Int×Unit->Bool×Unit}(hp2:∀(b:Blk) (a n:Int),0<=n/\n<=1000-> -1000<=b.pc/\b.pc<=1000000-> -1000<=b.len/\b.len<=1000000->p2 (b,a,n,())=true)(hf2:∀(b:Blk) (a n:Int),0<=n/\n<=1000-> -1000<=b.pc/\b.pc<=1000000-> -1000<=b.len/\b.len<=1000000->f2 (b,a,n,())=(decide (b.pc+n<a)&&decide (a<b.pc+b.len),()))(m:aG)(b:Blk)(o:IOp)(x y:Int)(hm:m.mem.length=64)(x0:0<=x)(hi:m.ins.length<1000000000)(ho:m.outs.length<900000000)(h1:0<=m.count/\m.count<=1000000)(h2:0<=o.at_/\o.at_<=100)(h3: -1000<=b.pc/\b.pc<=1000000)(h4: -1000<=b.len/\b.len<=1000000):Oh.F (p1,f1,p2,f2,()) (m.pc,m.save,m.bH,m.waits,m.halt,m.ins,m.count,b,o,x,y,m.regs,m.mem,m.outs,()) (λz=>z=ahI (evR m b o x y)):=by
 unfold mB at hf1;have P1:=hp1 m b o.at_ 3 ah ah h3;have H1:=hf1 m b o.at_ 3 ah ah h3;have P2:=hp2 b x o.at_ ah h3 h4;have H2:=hf2 b x o.at_ ah h3 h4;have P3:=hp1 {m with mem:=m.mem.set x.toNat y} b (o.at_+1) 0 (show 0<=m.count/\m.count<=2000000 by omega) ah h3;have H3:=hf1 {m with mem:=m.mem.set x.toNat y} b (o.at_+1) 0 (show 0<=m.count/\m.count<=2000000 by omega) ah h3;dsimp only at P3 H3;dsimp only [Oh,gm];simp (disch:=omega) only [RR,RB,P1,H1,P2,H2,P3,H3,hm,nN];unfold evR;have d0:(default:Int)=0:=rfl;refine⟨λe=>⟨by simp only [List.length_cons,List.length_nil];omega,by rw [if_pos e]⟩,λe7=>⟨λe=>⟨λg=>⟨ah,g,ah,ah,ah,?_⟩,λg=> ?_⟩,λe6=>⟨λg=>by rw [if_neg e7,if_neg e6,if_pos g],λg=>⟨λe=>⟨x0,ah,x0,ah,by rw [if_neg e7,if_neg e6,if_neg g,if_pos e]⟩,λe4=>⟨x0,ah,x0,ah,λe=>by rw [if_neg e7,if_neg e6,if_neg g,if_neg e4,if_pos e],λe=> ?_⟩⟩⟩⟩⟩
 .rw [if_neg e7,if_pos e,List.take_of_length_le ah];rfl
 .have n:m.ins=[]:=List.eq_nil_of_length_eq_zero ah;rw [if_neg e7,if_pos e,n];rfl
 .rw [if_neg e7,if_neg e6,if_neg g,if_neg e4,if_neg (λz=>by rw [decide_eq_true z.1,decide_eq_true z.2]at e;cases e)]
noncomputable def eU (mem:List Int):Nat->Int->List Ins
 | 0,_=> []
 | n+1,p=>if bp (p<64/\(Wo ((mem).getD (p).toNat default)/\bX (gN ((mem).getD (p).toNat default)))/\(gN ((mem).getD (p).toNat default)).op≠0)=true then(if bp (11<=(gN ((mem).getD (p).toNat default)).op/\(gN ((mem).getD (p).toNat default)).op<=13)=true then [gN ((mem).getD (p).toNat default)]else gN ((mem).getD (p).toNat default)::eU mem n (p+1))else []
noncomputable def findF (m:aG):List Ins:=if bp (MOK m)=true then eU m.mem 8 m.pc else []
def rT(mem:List Int):∀(n:Nat) (p:Int),(eU mem n p).length<=n/\(0< (eU mem n p).length->p+(eU mem n p).length<=64)/\
  ∀i:Nat,i< (eU mem n p).length->bX ((eU mem n p).getD i default)/\((eU mem n p).getD i default).op≠0/\(11<=((eU mem n p).getD i default).op/\((eU mem n p).getD i default).op<=13->i+1=(eU mem n p).length)
 | 0,_=>⟨Nat.le_refl _,λh=>absurd h (by simp [eU]),λi hi=>absurd hi (by simp [eU])⟩
 | n+1,p=>by
  obtain⟨r1,r2,r3⟩:=rT mem n (p+1);unfold eU;split
  .rename_i g;obtain⟨g1,⟨g2,g3⟩,g4⟩:=aV.1 g;split
   .refine⟨by simp,λ_=>by simp;omega,λi hi=> ?_⟩;have:i=0:=by simp at hi;omega
    subst this;exact⟨g3,g4,λ_=>by simp⟩
   .rename_i e;have e':=kK.1 (by simpa using e);refine⟨by simp;omega,λ_=> ?_,λi hi=> ?_⟩
    .by_cases z:0< (eU mem n (p+1)).length
     .have:=r2 z;simp;omega
     .simp;omega
    .cases i with
     | zero=>exact⟨g3,g4,λq=>absurd q e'⟩
     | succ i=>
      have:=r3 i (by simpa using hi);exact⟨this.1,this.2.1,λq=>by have:=this.2.2 q;simp;omega⟩
  .exact⟨by simp,λh=>absurd h (by simp),λi hi=>absurd hi (by simp)⟩
def Eo(m:aG):(findF m).length<=8/\(0< (findF m).length->MOK m/\oK m.pc (findF m)):=by
 unfold findF;split
 .rename_i g;have ok:=aV.1 g;have pw:0<=m.pc/\m.pc<=65535:=ok.pc;obtain⟨r1,r2,r3⟩:=rT m.mem 8 m.pc;exact⟨r1,λh=>⟨ok,⟨ah,ah⟩,⟨ah,by have:=r2 h;omega⟩,r3⟩⟩
 .exact⟨by simp,λh=>absurd h (by simp)⟩
def ama{w:Int}(h:Wo w/\bX (gN w)):tkI w=((gN w).op,(gN w).d,(gN w).a,(gN w).k,true,()):=by unfold tkI;rw [if_pos (aP h)]
theorem amb{p1 f1 p2 f2 p3 f3}(U1:ahk p1 f1)(U2:ahy p2 f2)(U3:Zg p3 f3)(m:aG)(h:MSh m):Xr.F (p1,f1,p2,f2,p3,f3,()) (m,()) (λy=>y=(findF m,())):=by
 obtain⟨hp1,hf1⟩:=U1;obtain⟨hp2,hf2⟩:=U2;obtain⟨hp3,hf3⟩:=U3
 replace hf1:∀i:Int,f1 (i,())=(bp (11<=i/\i<=13),()):=λi=>by rw [hf1 i,Prod.ext_iff];exact⟨by rw [Bool.eq_iff_iff,dD,aV],rfl⟩
 have e4:∀x y z u:Int,Co.mk .ins (x,y,z,u,())=⟨x,y,z,u⟩:=λ_ _ _ _=>rfl
 dsimp only [Xr,gm,om];simp (disch:=omega) only [RR,MRB,hp3 _ h,hf3 _ h];refine⟨λg=>by unfold findF;rw [g];rfl,λg=> ?_⟩;have ok:=aV.1 g;have pw:0<=m.pc/\m.pc<=65535:=ok.pc;have m6:=ok.m64;have fE:findF m=eU m.mem 8 m.pc:=by unfold findF;rw [g,if_pos rfl]
 rw [fE];generalize hG:eU m.mem 8 m.pc=G;refine aB (λ(y:Int×aG×List Ins×Unit)=>0<=y.1/\y.1<=8/\y.2.1=m/\y.2.2.1.length<=y.1/\y.2.2.1++eU m.mem (8-y.1).toNat (m.pc+y.1)=G) (λy=>(8-y.1).toNat) ⟨by simp,by simp,rfl,by simp,by simpa using hG⟩ ?_;rintro⟨(i:Int),(m:aG),(o:List Ins),⟨⟩⟩ hI;dsimp only at hI ⊢;obtain⟨i1,i2,rfl,i3,i4⟩:=hI;simp (disch:=omega) only [RR,hp1,hf1,hp2,hf2,MRB,m6,List.length_cons,List.length_nil,List.length_append,e4];have w:IntKind.i64.wrap (m.pc+i)=m.pc+i:=w64 ah ah;refine⟨λc=> ?_,λc=> ?_⟩
 .obtain⟨n,hn⟩:∃n,(8-i).toNat=n+1:=⟨(8-i).toNat-1,ah⟩;rw [hn]at i4;unfold eU at i4;by_cases z:Wo ((m.mem).getD ((m.pc+i)).toNat default)/\bX (gN ((m.mem).getD ((m.pc+i)).toNat default))
  .rw [ama z];generalize hd:gN ((m.mem).getD ((m.pc+i)).toNat default)=d at*;have md:(⟨d.op,d.d,d.a,d.k⟩:Ins)=d:=rfl;dsimp only;rw [md];refine⟨ah,ah,λe=> ?_,λe=>⟨ah,λq=> ?_,λq=>⟨⟨ah,ah,ah,?_⟩,ah⟩⟩⟩
   .rw [if_neg (by rw [bL (λy=>y.2.2 (by simpa using e))];decide)]at i4;rw [<-i4,List.append_nil]
   .rw [if_pos (aP ⟨ah,z,by simpa using e⟩),if_pos q]at i4;rw [<-i4]
   .rw [if_pos (aP ⟨ah,z,by simpa using e⟩),if_neg (by rw [q];decide)]at i4;rw [show(8- (i+1)).toNat=n by omega,<-i4,List.append_assoc,show m.pc+(i+1)=m.pc+i+1 by omega];rfl
  .have tf:(tkI ((m.mem).getD ((m.pc+i)).toNat default)).2.2.2.2.1=false:=by unfold tkI;rw [if_neg (by rw [bL z];decide)]
   rw [if_neg (by rw [bL (λy=>z y.2.1)];decide),List.append_nil]at i4;rw [tf];refine⟨ah,ah,λ_=>by rw [<-i4],λe=>by simp at e⟩
 .have:o=G:=by
   rw [<-i4];by_cases z:i<8
   .obtain⟨n,hn⟩:∃n,(8-i).toNat=n+1:=⟨(8-i).toNat-1,ah⟩;rw [hn];unfold eU;have c:=Bool.and_eq_false_iff.1 c;rw [decide_eq_false_iff_not,decide_eq_false_iff_not]at c;rw [if_neg (by rw [bL (λy=>by have:=y.1;omega)];decide),List.append_nil]
   .rw [show(8-i).toNat=0 by omega];unfold eU;rw [List.append_nil]
  rw [this]
def acW{l:List Int}{n i:Nat}(h:i<n):(vw l n).getD i default=rdO l (7+6*i):=by
 rw [getD_lt (by unfold vw;rw [List.length_map,List.length_range];exact h)];simp [vw]
def ahK{l:List Int}(hl:By l)(h7:7<=l.length)(h6:(l.length-7)%6=0):Iu (rdB l)=l:=by
 have B:=λk:Nat=>hl.at k
 have ol:(rdB l).ops.length=(l.length-7)/6:=by show(vw l _).length=_;unfold vw;rw [List.length_map,List.length_range]
 have key:∀n,n<l.length->(Iu (rdB l)).getD n default=l.getD n default:=λn hn=>by
  by_cases c:n<7
  .have b0:=B 0;have b1:=B 1;have b2:=B 2;have b3:=B 3;have b4:=B 4;have b5:=B 5;have b6:=B 6;have e:n=0\/n=1\/n=2\/n=3\/n=4\/n=5\/n=6:=by omega
   rcases e with rfl | rfl | rfl | rfl | rfl | rfl | rfl
   .show l.getD 0 default%256=_;omega
   .show l.getD 1 default%256=_;omega
   .show l.getD 2 default%256=_;omega
   .show l.getD 3 default%256=_;omega
   .show l.getD 4 default%256=_;omega
   .show(l.getD 5 default*256+l.getD 6 default)/256%256=_;omega
   .show(l.getD 5 default*256+l.getD 6 default)%256=_;omega
  .obtain⟨i,j,hj,rfl⟩:∃i j,j<6/\n=7+6*i+j:=⟨(n-7)/6,(n-7)%6,ah,ah⟩;have hi:i< (l.length-7)/6:=by omega
   rw [ahj _ i j (by rw [ol];exact hi) hj];have er:(rdB l).ops.getD i default=rdO l (7+6*i):=acW hi;rw [er];have b0:=B (7+6*i);have b1:=B (7+6*i+1);have b2:=B (7+6*i+2);have b3:=B (7+6*i+3);have b4:=B (7+6*i+4);have b5:=B (7+6*i+5);have e:j=0\/j=1\/j=2\/j=3\/j=4\/j=5:=by omega
   rcases e with rfl | rfl | rfl | rfl | rfl | rfl
   .show l.getD (7+6*i) default%256=l.getD (7+6*i) default;omega
   .show l.getD (7+6*i+1) default%256=_;omega
   .show l.getD (7+6*i+2) default%256=_;omega
   .show(l.getD (7+6*i+3) default*256+l.getD (7+6*i+4) default)/256%256=_;omega
   .show(l.getD (7+6*i+3) default*256+l.getD (7+6*i+4) default)%256=_;omega
   .show l.getD (7+6*i+5) default%256=_;omega
 refine List.ext_getElem (by rw [Za,ol];omega) λn h1 h2=> ?_
 have:=key n h2
 rwa [getD_lt h1,getD_lt h2]at this
def KH{l:List Int}(hl:By l):acJ l↔(7<=l.length/\(l.length-7)%6=0/\l.length<=295)/\bZ (rdB l):=by
 refine⟨λ⟨a,b⟩=>⟨a,?_⟩,λ⟨a,b⟩=>⟨a,?_⟩⟩
 .by_cases c:bZ (rdB l)
  .exact c
  .unfold irB at b;rw [if_neg (by rw [bL c];decide)]at b;have:=a.1;rw [<-b]at this;simp at this
 .unfold irB;rw [if_pos (aP b)];exact ahK hl a.1 a.2.1
theorem amc{p1 f1}(U1:Y60 p1 f1){p2:List Int×Int×Unit->Bool}{f2:List Int×Int×Unit->Int×Unit}(hp2:∀b k,By b->0<=k->k+1< (b.length:Int)->b.length<1000000000->p2 (b,k,())=true)(hf2:∀b k,By b->0<=k->k+1< (b.length:Int)->b.length<1000000000->f2 (b,k,())=(((b).getD (k).toNat default)*256+((b).getD (k+1).toNat default),()))(l:List Int)(hl:By l)(hlen:l.length<1000000000):XG.F (p1,f1,p2,f2,()) (l,()) (λy=>y=rdF l):=by
 have B:=λk:Nat=>hl.at k
 have c:∀k:Nat,IntKind.i64.wrap (l.getD k default)=l.getD k default:=λk=>by have:=B k;exact w64 ah ah
 have no:¬acJ l->rdF l=(0,0,0,0,0,0,false,[],()):=λh=>by unfold rdF;rw [if_neg (by rw [bL h];decide)]
 have tm:7<=l.length->((l.length:Int)-7).tmod 6=((l.length-7)%6:Nat):=λh=>by
  rw [Int.tmod_eq_emod_of_nonneg ah];omega
 dsimp only [XG,gm,kJ];simp (disch:=omega) only [RR,c];refine⟨Or.inr (by decide),λh=> ?_,λg=> ?_⟩
 .rw [no];rintro⟨⟨g1,g2,g3⟩,_⟩;rw [tm g1]at h;omega
 obtain⟨⟨g1,g2⟩,g3⟩:=g;have l7:7<=l.length:=by omega
 rw [tm l7]at g2;have l6:(l.length-7)%6=0:=by omega
 have apk:l.length<=295:=by omega
 refine⟨ah,ah,ah,ah,ah,ah,ah,ah,ah,ah,hp2 l 5 hl ah ah hlen,?_⟩;rw [hf2 l 5 hl ah ah hlen];refine aB (λ(y:List Int×Int×Int×Int×Int×Int×Int×Int×Int×Int×Int×Int×Int×Int×List IOp×Unit)=>y.1=l/\(∃j:Nat,y.2.1=7+6*j/\7+6*j<=l.length/\y.2.2.2.2.2.2.2.2.2.2.2.2.2.2.1=vw l j)/\y.2.2.2.2.2.2.2.2.1=l.getD 0 default/\y.2.2.2.2.2.2.2.2.2.1=l.getD 1 default/\y.2.2.2.2.2.2.2.2.2.2.1=l.getD 2 default/\y.2.2.2.2.2.2.2.2.2.2.2.1=l.getD 3 default/\y.2.2.2.2.2.2.2.2.2.2.2.2.1=l.getD 4 default/\y.2.2.2.2.2.2.2.2.2.2.2.2.2.1=l.getD 5 default*256+l.getD 6 default) (λy=>(l.length-y.2.1).toNat) ⟨rfl,⟨0,rfl,ah,rfl⟩,rfl,rfl,rfl,rfl,rfl,rfl⟩ ?_;rintro⟨(l:List Int),(at_:Int),(z1:Int),(z2:Int),(z3:Int),(z4:Int),(z5:Int),(z6:Int),(pc:Int),(len:Int),(fin:Int),(x:Int),(y:Int),(k:Int),(ops:List IOp),⟨⟩⟩ hI;dsimp only at hI ⊢;obtain⟨rfl,⟨j,rfl,j1,rfl⟩,rfl,rfl,rfl,rfl,rfl,rfl⟩:=hI;have ol:(vw l j).length=j:=by unfold vw;rw [List.length_map,List.length_range]
 by_cases h:7+6*(j:Int)<l.length
 .have w:IntKind.i64.wrap (7+6*(j:Int)+3)=7+6*(j:Int)+3:=w64 ah ah;have P2:=hp2 l (7+6*(j:Int)+3) hl ah ah hlen;have H2:=hf2 l (7+6*(j:Int)+3) hl ah ah hlen;have lo:∀x:IOp,([x].length:Int)=1:=λ_=>rfl
  simp (disch:=omega) only [RR,h,c,P2,H2,lo];have es:vw l (j+1)=vw l j++ [rdO l (7+6*j)]:=by unfold vw;rw [List.range_succ,List.map_append];rfl
  repeat' apply And.intro
  all_goals first | omega | exact⟨j+1,ah,ah,by rw [es];rfl⟩
 .have e:7+6*j=l.length:=by omega
  have er:(⟨l.getD 0 default,l.getD 1 default,vw l j,l.getD 2 default,l.getD 3 default,l.getD 4 default,l.getD 5 default*256+l.getD 6 default⟩:Blk)=rdB l:=by
   unfold rdB;rw [show(l.length-7)/6=j by omega]
  have mE:∀(a1 a2:Int) (a3:List IOp) (a4 a5 a6 a7:Int),Co.mk .blk (a1,a2,a3,a4,a5,a6,a7,())=⟨a1,a2,a3,a4,a5,a6,a7⟩:=λ_ _ _ _ _ _ _=>rfl
  have ob:(rdB l).ops.length<1000000000:=by
   rw [<-er];show(vw l j).length<_;omega
  simp (disch:=omega) only [RR,h,mE,er,U1.hp _ ob,U1.hf _ ob];refine⟨λg=> ?_,λg=> ?_⟩
  .rw [no];intro z;rw [aP ((KH hl).1 z).2]at g;cases g
  .unfold rdF;rw [if_pos (aP ((KH hl).2 ⟨⟨l7,l6,apk⟩,aV.1 g⟩)),<-er]
noncomputable def mdF (b:Blk) (a:Ask):Blk×Bool:=if a.own=true then(xK b,true)else if bp (acJ a.bytes)=true then(rdB a.bytes,true)else(OG,false)
theorem amd{p1 f1 p2 f2}(U1:ao5 p1 f1)(U2:Y81 p2 f2)(b:Blk)(a:Ask)(h:b.ops.length<1000000)(ha:By a.bytes)(hl:a.bytes.length<1000000000):XH.F (p1,f1,p2,f2,()) (b,a,()) (λy=>y=((mdF b a).1,(mdF b a).2,())):=by
 have mE:∀c:Blk,Co.mk .blk (c.pc,c.len,c.ops,c.fin,c.x,c.y,c.k,())=c:=λ_=>rfl
 have ak:∀a:Ask,LY .ask 0 a=a.own/\ig .ask 1 .u8 a=a.bytes:=λ_=>⟨rfl,rfl⟩
 have H1:=U1.hf a.bytes ha hl;dsimp only [XH,gm,kJ];simp (disch:=omega) only [RR,ak,mE,U1.hp _ ha hl,U2.hp _ h,U2.hf _ h];unfold mdF;refine⟨λg=>by rw [g];rfl,λg=> ?_⟩;rw [g,if_neg (by decide),H1];unfold rdF;split<;>rfl
def ZG{b:Blk}{a:Ask}(h:b.ops.length<1000000)(hl:a.bytes.length<1000000000):(mdF b a).1.ops.length<1000000:=by
 have L:=FY b;unfold mdF;split
 .dsimp only;omega
 split
 .rename_i g;have:=(aV.1 g).1;show(vw _ _).length<_;unfold vw;rw [List.length_map,List.length_range];omega
 .decide
noncomputable def nP (cs:List Cer) (b:Blk) (a:Ask):Blk×List Cer:=
 if(mdF b a).2=false then(b,cs)else if bp (YK cs b (mdF b a).1)=true then((mdF b a).1,cs)else if chk b (mdF b a).1=true then((mdF b a).1,KE cs ⟨b,(mdF b a).1⟩)else(b,cs)
def acX{l:List Cer}{q:Cer}(h:ShC l)(h1:q.base.ops.length<1000000)(h2:q.made.ops.length<1000000):ShC (KE l q):=by
 unfold KE;have:=h.1;refine⟨by rw [List.length_drop,List.length_append,List.length_singleton];omega,λc hc=> ?_⟩;have:=List.mem_of_mem_drop hc;rw [List.mem_append,List.mem_singleton]at this;rcases this with g | rfl
 .exact h.2 c g
 .exact⟨h1,h2⟩
def ame{p1 f1 p2 f2 p3 f3}(U1:aoR p1 f1)(U2:ao3 p2 f2)(U3:Y96 p3 f3){p4:Blk×Ask×Unit->Bool}{f4:Blk×Ask×Unit->Blk×Bool×Unit}(hp4:∀b a,b.ops.length<1000000->By a.bytes->a.bytes.length<1000000000->p4 (b,a,())=true)(hf4:∀b a,b.ops.length<1000000->By a.bytes->a.bytes.length<1000000000->f4 (b,a,())=((mdF b a).1,(mdF b a).2,()))(e:Eng)(b:Blk)(a:Ask)(h:ShC e.aZ)(hb:b.ops.length<1000000)(ha:By a.bytes)(hl:a.bytes.length<1000000000):XK.F (p1,f1,p2,f2,p3,f3,p4,f4,()) (e.au.regs,e.au.pc,e.au.mem,e.au.save,e.au.bH,e.au.waits,e.au.halt,e.au.ins,e.au.outs,e.au.count,e.cache,b,a,e.aZ,()) (λy=>y=(e.au.regs,e.au.pc,e.au.mem,e.au.save,e.au.bH,e.au.waits,e.au.halt,e.au.ins,e.au.outs,e.au.count,e.cache,(nP e.aZ b a).1,(nP e.aZ b a).2,())):=by
 obtain⟨hp1,hf1⟩:=U1;obtain⟨hp2,hf2⟩:=U2;obtain⟨hp3,hf3⟩:=U3;have M:=ZG (a:=a) hb hl;have H4:=hf4 b a hb ha hl;unfold nP;generalize hm:mdF b a=d at*;have P3:=hp3 b d.1 ah ah;have H3:=hf3 b d.1 ah ah;have P1:=hp1 _ b d.1 h;have H1:=hf1 _ b d.1 h;have P2:=hp2 e.aZ ⟨b,d.1⟩ h hb M;have H2:=hf2 e.aZ ⟨b,d.1⟩ h hb M;have H2:(f2 (e.aZ,⟨b,d.1⟩,())).1=KE e.aZ ⟨b,d.1⟩:=by rw [H2]
 dsimp only [XK,gm,kJ,om];simp (disch:=omega) only [RR,RB,hp4 b a hb ha hl,H4,P1,H1,P3,H3];refine⟨λg=>by rw [if_pos g],λg=>⟨λk=>by rw [if_neg (by rw [g];decide),if_pos k],λk=>⟨λz=>by rw [if_neg (by rw [g];decide),if_neg (by rw [k];decide),if_neg (by rw [z];decide)],λz=>⟨P2,by
  rw [if_neg (by rw [g];decide),if_neg (by rw [k];decide),if_pos z];show(_,_,_,_,_,_,_,_,_,_,_,_,(f2 (e.aZ,⟨b,d.1⟩,())).1,())=_;rw [H2]⟩⟩⟩⟩
def RQ{cs:List Cer}{b:Blk}{a:Ask}(h:ShC cs)(hb:b.ops.length<1000000)(hl:a.bytes.length<1000000000):(nP cs b a).1.ops.length<1000000/\ShC (nP cs b a).2:=by
 have M:=ZG (a:=a) hb hl;unfold nP;split
 .exact⟨hb,h⟩
 split
 .exact⟨M,h⟩
 split
 .exact⟨M,acX h hb M⟩
 .exact⟨hb,h⟩
def acY{cs:List Cer}{b:Blk}{a:Ask}(h:Kq cs):(nP cs b a).1=b\/chk b (nP cs b a).1=true:=by
 unfold nP;split
 .exact Or.inl rfl
 split
 .rename_i g;obtain⟨q,hq,q1,q2⟩:=aV.1 g;refine Or.inr ?_;have:=h.2 q hq;rw [q1,q2]at this;exact this
 split
 .rename_i g;exact Or.inr g
 .exact Or.inl rfl
def acZ{l:List Cac}{e:Cac}(h:ShK l)(h1:e.words.length<1000)(h2:e.blk.ops.length<1000000)(h3:e.blk.pc<=1000000):ShK (pR l e)/\0< (pR l e).length:=by
 unfold pR;have fl:=List.length_filter_le (neP e.blk.pc) l;refine⟨⟨by rw [List.length_drop,List.length_append,List.length_singleton];omega,λc hc=> ?_⟩,by rw [List.length_drop,List.length_append,List.length_singleton];omega⟩;have:=List.mem_of_mem_drop hc;rw [List.mem_append,List.mem_singleton]at this;rcases this with g | rfl
 .exact h.2 c (List.mem_filter.1 g).1
 .exact⟨h1,h2,h3⟩
def fcI(l:List Cac)(pc:Int):Int:=match l.findIdx? (λx=>decide (x.blk.pc=pc))with | some i=>i | none=> -1
def ZH(l:List Cac)(pc:Int):FC l pc (fcI l pc):=by
 unfold fcI;split
 .rename_i i h;obtain⟨h1,h2,h3⟩:=List.findIdx?_eq_some_iff_getElem.1 h;refine Or.inr ⟨ah,ah,?_,λj j0 j1=> ?_⟩
  .rw [Int.toNat_natCast,getD_lt h1];simpa using h2
  .rw [getD_lt ah];simpa using h3 j.toNat ah
 .rename_i h;rw [List.findIdx?_eq_none_iff]at h;refine Or.inl ⟨rfl,λj j0 j1=> ?_⟩;rw [getD_lt ah];simpa using h _ (List.getElem_mem ah)
noncomputable def eD (e:Eng) (a:Ask):Eng×Int×Bool:=
 if 0<=fcI e.cache e.au.pc then(e,fcI e.cache e.au.pc,false)else if(findF e.au).length=0 then(e, -1,false)else
  (⟨e.au,pR e.cache ⟨(findF e.au).map lX,(nP e.aZ (lower e.au.pc (findF e.au)) a).1⟩,(nP e.aZ (lower e.au.pc (findF e.au)) a).2⟩,((pR e.cache ⟨(findF e.au).map lX,(nP e.aZ (lower e.au.pc (findF e.au)) a).1⟩).length:Int)-1,true)
structure amf(pp:aG×Unit->Bool)(ff:aG×Unit->List Ins×Unit):Prop where
 hp:∀m,MSh m->pp (m,())=true
 hf:∀m,MSh m->ff (m,())=(findF m,())
structure apl(pp:List Cac×Cac×Unit->Bool)(ff:List Cac×Cac×Unit->List Cac×Unit):Prop where
 hp:∀l e,ShK l->e.words.length<1000->e.blk.ops.length<1000000->pp (l,e,())=true
 hf:∀l e,ShK l->e.words.length<1000->e.blk.ops.length<1000000->ff (l,e,())=(pR l e,())
theorem amg{p1 f1 p2 f2 p3 f3 p4 f4 p5 f5}(U1:amf p1 f1)(U2:ahE p2 f2)(U3:alV p3 f3)(U4:apj p4 f4)(U5:apl p5 f5){p6:List Int×Int×List Int×Int×Bool×Bool×Int×List Int×List Int×Int×List Cac×Blk×Ask×List Cer×Unit->Bool}{f6:List Int×Int×List Int×Int×Bool×Bool×Int×List Int×List Int×Int×List Cac×Blk×Ask×List Cer×Unit->List Int×Int×List Int×Int×Bool×Bool×Int×List Int×List Int×Int×List Cac×Blk×List Cer×Unit}(hp6:∀(e:Eng) (b:Blk) (a:Ask),ShC e.aZ->b.ops.length<1000000->By a.bytes->a.bytes.length<1000000000->p6 (e.au.regs,e.au.pc,e.au.mem,e.au.save,e.au.bH,e.au.waits,e.au.halt,e.au.ins,e.au.outs,e.au.count,e.cache,b,a,e.aZ,())=true)(hf6:∀(e:Eng) (b:Blk) (a:Ask),ShC e.aZ->b.ops.length<1000000->By a.bytes->a.bytes.length<1000000000->f6 (e.au.regs,e.au.pc,e.au.mem,e.au.save,e.au.bH,e.au.waits,e.au.halt,e.au.ins,e.au.outs,e.au.count,e.cache,b,a,e.aZ,())=(e.au.regs,e.au.pc,e.au.mem,e.au.save,e.au.bH,e.au.waits,e.au.halt,e.au.ins,e.au.outs,e.au.count,e.cache,(nP e.aZ b a).1,(nP e.aZ b a).2,()))(e:Eng)(a:Ask)(h1:MSh e.au)(h2:ShK e.cache)(h3:ShC e.aZ)(ha:By a.bytes)(hl:a.bytes.length<1000000000):XL.F (p1,f1,p2,f2,p3,f3,p4,f4,p5,f5,p6,f6,()) (e.au.regs,e.au.pc,e.au.mem,e.au.save,e.au.bH,e.au.waits,e.au.halt,e.au.ins,e.au.outs,e.au.count,e.cache,a,e.aZ,()) (λy=>y=((eD e a).1.au.regs,(eD e a).1.au.pc,(eD e a).1.au.mem,(eD e a).1.au.save,(eD e a).1.au.bH,(eD e a).1.au.waits,(eD e a).1.au.halt,(eD e a).1.au.ins,(eD e a).1.au.outs,(eD e a).1.au.count,(eD e a).1.cache,(eD e a).2.1,(eD e a).2.2,(eD e a).1.aZ,())):=by
 obtain⟨hp1,hf1⟩:=U1;obtain⟨hp2,hf2⟩:=U2;obtain⟨hp3,hf3⟩:=U3;obtain⟨hp4,hf4⟩:=U4;obtain⟨hp5,hf5⟩:=U5;have mM:=MKM;have mE:∀c:Blk,Co.mk .blk (c.pc,c.len,c.ops,c.fin,c.x,c.y,c.k,())=c:=λ_=>rfl
 have l2:=h2.1;have P4:=hp4 e.cache e.au.pc ah;have H4:(f4 (e.cache,e.au.pc,())).1=fcI e.cache e.au.pc:=FC.one (hf4 e.cache e.au.pc ah) (ZH _ _);have B:=Eo e.au;have P1:=hp1 _ h1;have H1:=hf1 _ h1;unfold eD;generalize fcI e.cache e.au.pc=k at*;generalize findF e.au=l at*;have P2:=hp2 e.au.pc l ah;have H2:=hf2 e.au.pc l ah;have lw:((lower e.au.pc l).ops.length:Int)<=5000:=by have:=IB H2;rw [H2]at this;exact this
 generalize lower e.au.pc l=b at*;have P6:=hp6 e b a h3 ah ha hl;have H6:=hf6 e b a h3 ah ha hl;have A:=RQ (a:=a) h3 (show b.ops.length<1000000 by omega) hl;generalize nP e.aZ b a=z at*;have P3:=hp3 l ah;have H3:=hf3 l ah;have wl:(l.map lX).length<1000:=by rw [List.length_map];omega
 have P5:=hp5 e.cache ⟨l.map lX,z.1⟩ h2 wl A.1;have H5:=hf5 e.cache ⟨l.map lX,z.1⟩ h2 wl A.1;have kl:(pR e.cache ⟨l.map lX,z.1⟩).length<=e.cache.length+1:=by
  unfold pR;have fl:=List.length_filter_le (neP z.1.pc) e.cache;rw [List.length_drop,List.length_append,List.length_singleton];dsimp only;omega
 have mK:Co.mk .cac (l.map lX,z.1.pc,z.1.len,z.1.ops,z.1.fin,z.1.x,z.1.y,z.1.k,())=(⟨l.map lX,z.1⟩:Cac):=rfl;dsimp only [XL,gm,kJ,om]at*;simp (disch:=omega) only [RR,RB,mM,P4,H4,P1,H1,P2,H2,mE,P6,H6,P3,H3,mK,P5,H5];refine⟨λn=>by rw [if_pos n],λn=>⟨λg=>by rw [if_neg ah,if_pos ah],λg=> ?_⟩⟩;rw [if_neg ah,if_neg ah]
theorem aeo(n:Int)(b:List Int)(h0:0<=n)(h1:n<=1000000)(hb:b.length<1000000000):XP.F () (n,b,()) (λy=>y=(b++ [n/256%256,n%256],())):=by
 have m8:∀x:Int,Co.mk .u8 (x,())=x:=λ_=>rfl
 dsimp only [XP,gm];simp (disch:=omega) only [RR,m8,u8w];rw [Int.tmod_eq_emod_of_nonneg h0,Int.tdiv_eq_ediv_of_nonneg h0,w64 ah ah,Int.emod_emod];exact⟨by decide,by decide,by simp only [List.length_cons,List.length_nil];omega,rfl⟩
def apm{b:Blk}(h:bZ b):0<=b.k/\b.k<=1000000:=by
 have:=h.en.k1;have:=h.en.k0;omega
def opk{ops:List IOp}{n i:Int}{o:IOp}(h:kY ops n i o):0<=o.k/\o.k<=1000000:=by
 have:=h.kd;have:=h.k1;have:=h.k2;have:=h.k3;have:=h.k0;omega
theorem amh{p1 f1}(U1:Y60 p1 f1){p2:Int×List Int×Unit->Bool}{f2:Int×List Int×Unit->List Int×Unit}(hp2:∀n b,0<=n->n<=1000000->b.length<1000000000->p2 (n,b,())=true)(hf2:∀n b,0<=n->n<=1000000->b.length<1000000000->f2 (n,b,())=(b++ [n/256%256,n%256],()))(b:Blk)(hb:b.ops.length<1000000000):XQ.F (p1,f1,p2,f2,()) (b,()) (λy=>y=(irB b,())):=by
 have m8:∀x:Int,Co.mk .u8 (x,())=x:=λ_=>rfl
 dsimp only [XQ,gm];simp (disch:=omega) only [RR,RB,U1.hp b hb,U1.hf b hb,m8,u8w];refine⟨λh=>by unfold irB;rw [h];rfl,λh=> ?_⟩;have ok:=aV.1 h;have sz:=ok.sz;have kk:=apm ok;rw [hp2 _ _ kk.1 kk.2 (by simp only [List.length_cons,List.length_nil];omega),hf2 _ _ kk.1 kk.2 (by simp only [List.length_cons,List.length_nil];omega)];refine⟨rfl,?_⟩;refine aB (λ(y:Int×Blk×List Int×Unit)=>y.2.1=b/\0<=y.1/\y.1<=b.ops.length/\y.2.2.1=[b.pc%256,b.len%256,b.fin%256,b.x%256,b.y%256,b.k/256%256,b.k%256]++(b.ops.take y.1.toNat).flatMap opB) (λy=>(b.ops.length-y.1).toNat) ⟨rfl,by simp,by simp,by simp⟩ ?_;rintro⟨(i:Int),(c:Blk),(acc:List Int),⟨⟩⟩ hI;dsimp only at hI ⊢;obtain⟨rfl,h1,h2,h3⟩:=hI;have al:acc.length<=1000:=by
  rw [h3,List.length_append,y7];have:=List.length_take_le' i.toNat c.ops;simp only [List.length_cons,List.length_nil];omega
 refine⟨λg=> ?_,λg=> ?_⟩
 .have ko:=opk (ok.op i h1 g);rw [hp2 _ _ ko.1 ko.2 (by simp only [List.length_append,List.length_cons,List.length_nil];omega),hf2 _ _ ko.1 ko.2 (by simp only [List.length_append,List.length_cons,List.length_nil];omega)];simp (disch:=omega) only [RR,List.length_append,List.length_cons,List.length_nil];refine⟨h1,g,ah,ah,⟨ah,ah,?_⟩,ah⟩;rw [h3,show(i+1).toNat=i.toNat+1 by omega,List.take_succ_eq_append_getElem ah,List.flatMap_append,getD_lt (show i.toNat<c.ops.length by omega)];simp only [List.append_assoc];rfl
 .rw [h3,List.take_of_length_le ah];unfold irB;rw [h];rfl
structure TuD(b l:List Int)(p:Int)(y:List Int×Int×List Int×Unit):Prop where
 b:y.1=b
 p:p<=y.2.1/\y.2.1<=p+20
 l:By y.2.2.1/\y.2.2.1.length<=l.length+1
theorem ahL{p1 f1}(U1:Y38 p1 f1)(l:List Int)(b:List Int)(p:Int)(hl:By l)(h:l.length<100000000)(hb:Bt b)(h1:0<=p)(h2:p<900000000):Ou.F (p1,f1,()) (l,b,p,()) (λy=>TuD b l p y):=by
 obtain⟨hp1,hf1⟩:=U1;have m8:∀x:Int,Co.mk .u8 (x,())=x:=λ_=>rfl
 dsimp only [Ou,gm];have R:=pkR hb hf1;have P:=λn p h1 h2=>hp1 n b p hb h1 h2
 have f0:=hf1 256 b p hb h1 ah;have f1':=hf1 256 b (p+1) hb ah ah;simp (disch:=omega) only [RR,m8,u8w,R,P];have g0:=f0.2.2;have g1:=f1'.2.2;generalize (f1 (256,b,p,())).1=u at*;generalize (f1 (256,b,p+1,())).1=v at*;have w1:IntKind.i64.wrap (u*256)=u*256:=w64 ah ah;have w2:IntKind.i64.wrap (u*256+v)=u*256+v:=w64 ah ah;rw [w1,w2];refine⟨λ_=>⟨rfl,⟨by dsimp only;omega,by dsimp only;omega⟩,λx hx=> ?_,by simp⟩,λn=>⟨n,?_⟩⟩
 .dsimp only at hx;rw [List.mem_singleton]at hx;omega
 have k0:0<=(u*256+v).tmod l.length:=Int.tmod_nonneg _ ah;have k1:(u*256+v).tmod l.length<l.length:=Int.tmod_lt_of_pos _ ah;generalize (u*256+v).tmod l.length=k at*;have tk:∀x∈l.take k.toNat,0<=x/\x<=255:=λx hx=>hl x (List.mem_of_mem_take hx)
 have w3:IntKind.i64.wrap (k+1)=k+1:=w64 ah ah;rw [w3];simp only [List.length_append,List.length_drop,List.length_take,List.length_nil,List.length_cons,Int.toNat_zero,List.drop_zero,List.nil_append,Int.toNat_natCast,List.take_length];have dk:∀j,∀x∈l.drop j,0<=x/\x<=255:=λj x hx=>hl x (List.mem_of_mem_drop hx)
 have g2:=(hf1 2 b (p+1+1+1+1+1) hb ah ah).2.2;refine⟨λ_=>⟨ah,ah,ah,ah,ah,ah,ah,ah,ah,⟨rfl,⟨by dsimp only;omega,by dsimp only;omega⟩,λx hx=> ?_,?_⟩⟩,λ_=>⟨λ_=>⟨ah,ah,ah,ah,ah,ah,ah,ah,ah,ah,⟨rfl,⟨by dsimp only;omega,by dsimp only;omega⟩,λx hx=> ?_,?_⟩⟩,λ_=>⟨ah,ah,ah,ah,ah,ah,ah,⟨rfl,⟨by dsimp only;omega,by dsimp only;omega⟩,λx hx=> ?_,?_⟩⟩⟩⟩
 .rcases List.mem_append.1 hx with g | g
  .exact tk x g
  .exact dk _ x g
 .dsimp only;rw [List.length_append,List.length_take,List.length_drop];omega
 .rcases List.mem_append.1 hx with g | g
  .rcases List.mem_append.1 g with g | g
   .exact tk x g
   .rw [List.mem_singleton]at g;omega
  .exact dk _ x g
 .dsimp only;rw [List.length_append,List.length_append,List.length_take,List.length_drop,List.length_singleton];omega
 .rcases List.mem_or_eq_of_mem_set hx with g | g
  .exact hl x g
  .omega
 .dsimp only;rw [List.length_set];omega
structure AsD(b:List Int)(p:Int)(y:Bool×List Int×Int×List Int×Unit):Prop where
 b:y.2.1=b
 p:p<=y.2.2.1/\y.2.2.1<=p+2000000
 l:By y.2.2.2.1/\y.2.2.2.1.length<200000000
def Ca{b:Blk}(h:b.ops.length<=1000000):(irB b).length<100000000:=by
 unfold irB;split
 .unfold Iu;rw [List.length_append,y7];simp only [List.length_cons,List.length_nil];omega
 .simp
theorem ahM{p1 f1 p2 f2 p3 f3 p4 f4 p5 f5 p6 f6 p7 f7 p8 f8}(U1:amf p1 f1)(U2:ahE p2 f2)(U3:ao4 p3 f3)(U4:Y81 p4 f4)(U5:Y38 p5 f5)(U6:Y83 p6 f6)(U7:Y84 p7 f7)(U8:Y86 p8 f8){p9:List Int×List Int×Int×Unit->Bool}{f9:List Int×List Int×Int×Unit->List Int×Int×List Int×Unit}(hp9:∀l b p,By l->l.length<100000000->Bt b->0<=p->p<900000000->p9 (l,b,p,())=true)(hf9:∀l b p,By l->l.length<100000000->Bt b->0<=p->p<900000000->TuD b l p (f9 (l,b,p,())))(m:aG)(b:List Int)(p:Int)(h:MSh m)(hb:Bt b)(h1:0<=p)(h2:p<500000000):Hz.F (p1,f1,p2,f2,p3,f3,p4,f4,p5,f5,p6,f6,p7,f7,p8,f8,p9,f9,()) (m,b,p,()) (λ(y:Bool×List Int×Int×List Int×Unit)=>AsD b p y):=by
 obtain⟨hp1,hf1⟩:=U1;obtain⟨hp2,hf2⟩:=U2;obtain⟨hp3,hf3⟩:=U3;obtain⟨hp4,hf4⟩:=U4;obtain⟨hp5,hf5⟩:=U5;obtain⟨hp6,hf6⟩:=U6;obtain⟨hp7,hf7⟩:=U7;obtain⟨hp8,hf8⟩:=U8;have m8:∀x:Int,Co.mk .u8 (x,())=x:=λ_=>rfl
 have mE:∀c:Blk,Co.mk .blk (c.pc,c.len,c.ops,c.fin,c.x,c.y,c.k,())=c:=λ_=>rfl
 have R:=pkR hb hf5;have P:=λn p h1 h2=>hp5 n b p hb h1 h2
 have P1:=hp1 m h;have hL:=hf1 m h;have B:=Eo m;have no:AsD b p (true,b,p+1,[],()):=⟨rfl,⟨by dsimp only;omega,by dsimp only;omega⟩,λx hx=>(by cases hx),by simp⟩;generalize findF m=l at*;by_cases n:0<l.length
 .have ir:=xO (B.2 n).2;have sz:=ir.sz;have P2:=hp2 m.pc l ah;have H2:=hf2 m.pc l ah;generalize lower m.pc l=c at*;have P4:=hp4 c ah;have H4:=hf4 c ah;have lk:=(TP ir).oc;have sz2:=lk.sz;generalize xK c=d at*;dsimp only [Hz,gm,om,kJ];simp (disch:=omega) only [RR,m8,u8w,MRB,R,P,P1,hL,P2,H2,mE,P4,H4];have W:∀(z:Int×Int×Int×Int×Int×Int×List Int×Int×List IOp×Unit) (M:Int) (N:Nat) (q:Int),BkD M N b q z->N<=1000000->M<=1000000->p<=q->q<=p+2->p3 (Co.mk .blk (z.1,z.2.1,z.2.2.2.2.2.2.2.2.1,z.2.2.1,z.2.2.2.1,z.2.2.2.2.1,z.2.2.2.2.2.1,()),())=true/\AsD b p (false,z.2.2.2.2.2.2.1,z.2.2.2.2.2.2.2.1,(f3 (Co.mk .blk (z.1,z.2.1,z.2.2.2.2.2.2.2.2.1,z.2.2.1,z.2.2.2.1,z.2.2.2.2.1,z.2.2.2.2.2.1,()),())).1,()):=by
   intro z M N q D a1 a2 a3 a4;have d1:=D.len;have d2:=D.lo;have d3:=D.hi;have K:z.2.2.2.2.2.2.2.2.1.length<1000000000:=by omega
   have e:=hf3 (Co.mk .blk (z.1,z.2.1,z.2.2.2.2.2.2.2.2.1,z.2.2.1,z.2.2.2.1,z.2.2.2.2.1,z.2.2.2.2.2.1,())) K;refine⟨hp3 _ K,D.b,⟨by dsimp only;omega,by dsimp only;omega⟩,?_⟩;dsimp only;rw [e];exact⟨Iw _,Nat.lt_of_lt_of_le (Ca (show z.2.2.2.2.2.2.2.2.1.length<=1000000 by omega)) (by decide)⟩
  have c3:=hp3 c ah;have k3:=hf3 c ah;have d3:=hp3 d ah;have j3:=hf3 d ah;have T:=hf9 (irB c) b (p+1+1) (Iw c) (Ca ah) hb ah ah;rw [k3,j3];have tl:=Ca (b:=c) ah;have T1:=T.p;have T2:=T.l;refine⟨λ_=>no,λ_=>⟨λ_=>⟨hp8 d b _ lk ah hb ah ah,W _ _ _ _ (hf8 d b (p+1+1) lk ah hb ah ah) ah ah ah ah⟩,λ_=>⟨λ_=>⟨hp6 c b _ ah hb ah ah,W _ _ _ _ (hf6 c b (p+1+1) ah hb ah ah).1 ah ah ah ah⟩,λ_=>⟨λ_=>⟨hp6 d b _ ah hb ah ah,W _ _ _ _ (hf6 d b (p+1+1) ah hb ah ah).1 ah ah ah ah⟩,λ_=>⟨λ_=>⟨c3,hp9 _ b _ (Iw c) tl hb ah ah,T.b,⟨by dsimp only;omega,by dsimp only;omega⟩,T2.1,by dsimp only;omega⟩,λ_=>⟨λ_=>⟨hp7 b _ hb ah ah,W _ _ _ _ (hf7 b (p+1+1) hb ah ah) ah ah ah ah⟩,λ_=>⟨λ_=>⟨rfl,⟨by dsimp only;omega,by dsimp only;omega⟩,λx hx=> ?_,by simp⟩,λ_=>⟨d3,rfl,⟨by dsimp only;omega,by dsimp only;omega⟩,Iw d,Nat.lt_of_lt_of_le (Ca ah) (by decide)⟩⟩⟩⟩⟩⟩⟩⟩;dsimp only at hx;rw [List.mem_singleton]at hx;omega
 .dsimp only [Hz,gm,om,kJ];simp (disch:=omega) only [RR,m8,u8w,MRB,R,P,P1,hL];exact⟨λ_=>no,λg=>absurd (Int.natCast_eq_zero.2 ah) g.2⟩
structure SJ(b:Blk)(m0:aG)(i:Nat)(S:MS):Prop where
 r:RJ b m0 i S
 p:S.m.pc=m0.pc
 h:S.m.halt=m0.halt
 c:S.m.count=m0.count
abbrev yS(b : Blk)(i : Int)(S : MS) : Int × Blk × Int × Int × Bool × Bool × Int × Int × Int × Int × Bool × Bool × Int × List Int × Int × List Int × List Int × List Int × List Int × Unit := (i, b, 0, 0, false, false, 0, 0, S.m.pc, S.m.save, S.m.bH, S.m.waits, S.m.halt, S.m.ins, S.m.count, S.vals, S.m.regs, S.m.mem, S.m.outs, ())
abbrev ami(z : aG × Bool) : Int × Int × Bool × Bool × Int × List Int × Int × Bool × List Int × List Int × List Int × Unit := (z.1.pc, z.1.save, z.1.bH, z.1.waits, z.1.halt, z.1.ins, z.1.count, z.2, z.1.regs, z.1.mem, z.1.outs, ())
def SIv(b:Blk)(m0:aG)(y:Int×Blk×Int×Int×Bool×Bool×Int×Int×Int×Int×Bool×Bool×Int×List Int×Int×List Int×List Int×List Int×List Int×Unit):Prop:=∃(i:Nat) (S:MS),i<=b.ops.length/\SJ b m0 i S/\y=yS b i S
def SIv.next{b:Blk}{m0:aG}{i:Nat}{S:MS}{o:IOp}{y:Int×Blk×Int×Int×Bool×Bool×Int×Int×Int×Int×Bool×Bool×Int×List Int×Int×List Int×List Int×List Int×List Int×Unit}(h:SJ b m0 i S)(hi:i<b.ops.length)(ho:b.ops.getD i default=o)(k1:o.kind=1->0<=o.k/\o.k<=65535)
  (c1:¬((o.kind=4\/o.kind=5)/\64<=vx S o)) (c2:¬(o.kind=5/\b.pc+o.at_+1<=vx S o/\vx S o<=b.pc+b.len-1))
  (e:y=yS b ((i:Int)+1) ⟨mM S o,S.vals++ [mV S o],false⟩):SIv b m0 y/\(b.ops.length-y.1).toNat< (b.ops.length- (i:Int)).toNat:=by
 subst e;have k:=acT (s:=S) o;exact⟨⟨i+1,_,hi,⟨h.r.next hi ho k1 c1 c2,k.1.trans h.p,k.2.1.trans h.h,k.2.2.trans h.c⟩,rfl⟩,by dsimp only;omega⟩
def ZI{b:Blk}{m:aG}(h1:bZ b)(h2:MOK m)(h:¬(m.halt≠0\/m.pc≠b.pc\/1000000-b.len<m.count)):oJ b m=(O6 b (b.ops.foldl (fK b) ⟨m,[],false⟩),true):=by
 unfold oJ;rw [if_pos (aP ⟨h1,h2⟩),if_neg h]
set_option maxHeartbeats 4000000 in
theorem amj{p1 f1 p2 f2 p3 f3 p4 f4}(U1:Y60 p1 f1)(U2:Zg p2 f2)(U3:acM p3 f3)(U4:apg p4 f4){p5:Int×Int×Bool×Bool×Int×List Int×Int×Blk×IOp×Int×Int×List Int×List Int×List Int×Unit->Bool}{f5:Int×Int×Bool×Bool×Int×List Int×Int×Blk×IOp×Int×Int×List Int×List Int×List Int×Unit->Int×Int×Bool×Bool×Int×List Int×Int×Int×Bool×List Int×List Int×List Int×Unit}(hp5:∀(m:aG) (b:Blk) (o:IOp) (x y:Int),m.mem.length=64->0<=x->m.ins.length<1000000000->m.outs.length<900000000->0<=m.count/\m.count<=1000000->0<=o.at_/\o.at_<=100-> -1000<=b.pc/\b.pc<=1000000-> -1000<=b.len/\b.len<=1000000->p5 (m.pc,m.save,m.bH,m.waits,m.halt,m.ins,m.count,b,o,x,y,m.regs,m.mem,m.outs,())=true)(hf5:∀(m:aG) (b:Blk) (o:IOp) (x y:Int),m.mem.length=64->0<=x->m.ins.length<1000000000->m.outs.length<900000000->0<=m.count/\m.count<=1000000->0<=o.at_/\o.at_<=100-> -1000<=b.pc/\b.pc<=1000000-> -1000<=b.len/\b.len<=1000000->f5 (m.pc,m.save,m.bH,m.waits,m.halt,m.ins,m.count,b,o,x,y,m.regs,m.mem,m.outs,())=ahI (evR m b o x y)){p6:Blk×List Int×Unit->Bool}{f6:Blk×List Int×Unit->Int×Unit}(hp6:∀(b:Blk) (v:List Int), -1000<=b.pc/\b.pc<=1000000-> -1000<=b.len/\b.len<=1000000->(b.fin≠1->0<=b.x/\b.x<v.length)->(3<=b.fin->0<=b.y/\b.y<v.length)->p6 (b,v,())=true)(hf6:∀(b:Blk) (v:List Int), -1000<=b.pc/\b.pc<=1000000-> -1000<=b.len/\b.len<=1000000->(b.fin≠1->0<=b.x/\b.x<v.length)->(3<=b.fin->0<=b.y/\b.y<v.length)->f6 (b,v,())=(goS b v,())){p7:aG×IOp×Int×Int×Unit->Bool}{f7:aG×IOp×Int×Int×Unit->Int×Unit}(hp7:∀(m:aG) (o:IOp) (x y:Int),(o.kind=2->0<=o.k/\o.k<m.regs.length)->p7 (m,o,x,y,())=true)(hf7:∀(m:aG) (o:IOp) (x y:Int),(o.kind=2->0<=o.k/\o.k<m.regs.length)->f7 (m,o,x,y,())=(if o.kind=1 then o.k else if o.kind=2 then((m.regs).getD (o.k).toNat default)else if o.kind=3 then wdo o.k x y else 0,()))(b:Blk)(m:aG)(hs:MSh m)(hb:b.ops.length<1000000000)(ho:m.outs.length<800000000):XM.F (p1,f1,p2,f2,p3,f3,p4,f4,p5,f5,p6,f6,p7,f7,()) (b,m,()) (λy=>y=ami (oJ b m)):=by
 obtain⟨hp1,hf1⟩:=U1;obtain⟨hp2,hf2⟩:=U2;obtain⟨hp3,hf3⟩:=U3;obtain⟨hp4,hf4⟩:=U4;unfold m10 at hf3;unfold ahI at hf5;have mM':=MKM;dsimp only [XM,gm,om,kJ];simp (disch:=omega) only [RR,RB,MRB,hp1 b hb,hf1 b hb,hp2 m hs,hf2 m hs,hp3 m hs,hf3 m hs];refine⟨λg=> ?_,λg=> ?_⟩
 .unfold oJ;rw [if_neg]
  .rfl
  .intro z;have z:=aV.1 z;rw [aP z.1,aP z.2]at g;rcases g with g | g<;>cases g
 have c1:=aV.1 g.1;have c2:=aV.1 g.2;have bl:=c1.ln;have cw:=c2.ct;have sz:=c1.sz;have bp':=c1.pc;have en:=c1.en;have w0:IntKind.i64.wrap (1000000-b.len)=1000000-b.len:=w64 ah ah;rw [w0];refine⟨λh=> ?_,λh=> ?_⟩
 .unfold oJ;rw [if_pos (aP ⟨c1,c2⟩),if_pos (show m.halt≠0\/m.pc≠b.pc\/1000000-b.len<m.count by omega)]
 have st:¬(m.halt≠0\/m.pc≠b.pc\/1000000-b.len<m.count):=by omega
 rw [ZI c1 c2 st];refine aB (SIv b m) (λy=>(b.ops.length-y.1).toNat) ⟨0,⟨m,[],false⟩,Nat.zero_le _,⟨⟨rfl,rfl,rfl,(by intro n hn;cases hn),c2,hs.2.2.1,Nat.le_add_right _ _⟩,rfl,rfl,rfl⟩,rfl⟩ ?_;rintro y ⟨i,S,hi,J,rfl⟩;dsimp only;have R:=J.r;have ok:=R.ok;have ln:=R.ln;have Jp:=J.p;have Jh:=J.h;have Jc:=J.c;by_cases h7:(i:Int)<b.ops.length
 case neg=>
  have ei:i=b.ops.length:=by omega
  have eS:b.ops.foldl (fK b) ⟨m,[],false⟩=S:=by rw [R.e,ei];unfold SM;rw [List.take_of_length_le (Nat.le_refl _)]
  have x1:=en.x1;have y1:=en.y1;unfold Vl at x1 y1;have hf:=en.f;have hx:b.fin≠1->0<=b.x/\b.x<S.vals.length:=λz=>by have:=x1 ah;omega
  have hy:3<=b.fin->0<=b.y/\b.y<S.vals.length:=λz=>by have:=y1 ah;omega
  have P6:=hp6 b S.vals ah ah hx hy;have H6:=hf6 b S.vals ah ah hx hy;simp (disch:=omega) only [RR,h7,RB,P6,H6];rw [eS];unfold O6;rw [R.lf,if_neg (by decide)];have wx:=R.wv.at b.x;have wy:=R.wv.at b.y;unfold Wo at wx wy;have eg:goS b S.vals=if b.fin=1 then b.k else if b.fin=2 then((S.vals).getD (b.x).toNat default)else if Iy (b.fin-2) ((S.vals).getD (b.x).toNat default) ((S.vals).getD (b.y).toNat default)=true then b.k else b.pc+b.len:=by
   unfold goS;have ix:=dD.2 wx;have iy:=dD.2 wy;rcases(by omega:b.fin=1\/b.fin=2\/b.fin=3\/b.fin=4)with f | f | f | f
   all_goals simp only [f,Int.reduceEq,if_false,if_true,true_and,false_and,Int.reduceSub,Ze,Zf,ix,iy,Bool.true_and,decide_eq_true_eq]
  rw [eg]
 have hop:=c1.op i ah ah;have eT:((i:Int)).toNat=i:=rfl;generalize hq:((b.ops).getD ((i:Int)).toNat default)=o at*;rw [eT]at hq;have kd:=hop.kd;have x1:=hop.x1;have y1:=hop.y1;unfold Vl at x1 y1;have k1:=hop.k1;have k2:=hop.k2;have k3:=hop.k3;have a1:=hop.a1;have a0:=hop.a0;have m64:=ok.m64;have r4:=ok.r4;have lo:=R.lo;have li:=R.li;have nx:=λ{y} c1 c2 e=>SIv.next (y:=y) J ah hq k1 c1 c2 e
 have lv:∀mm:aG,fK b S o=⟨mm,S.vals,true⟩->b.ops.foldl (fK b) ⟨m,[],false⟩=⟨mm,S.vals,true⟩:=λmm h=>acL (i:=i+1) (by rw [RF ah,<-R.e,hq];exact h)
 have X0:0<=o.x:=by
  by_cases h:hX o
  .have:=x1 h;omega
  .have:=hop.x0 h;omega
 have Y0:0<=o.y:=by
  by_cases h:hY o
  .have:=y1 h;omega
  .have:=hop.y0 h;omega
 have A4:∀k:Int,0<=k->f4 (S.vals,k,())=(vo S.vals k,()):=λk h=>by rw [hf4,if_neg ah]
 have wV:∀k:Int,Wo (vo S.vals k):=λk=>by
  unfold vo;split
  .exact R.wv.at _
  .exact wo0
 have ex:hX o->vo S.vals o.x=vx S o:=λh=>by
  have:=x1 h;unfold vx vo;rw [if_pos ah,if_pos h]
 have ey:hY o->vo S.vals o.y=vy S o:=λh=>by
  have:=y1 h;unfold vy vo;rw [if_pos ah,if_pos h]
 have wx:=wV o.x;have wy:=wV o.y;have F4x:=A4 o.x X0;have F4y:=A4 o.y Y0;generalize vo S.vals o.x=X at*;generalize vo S.vals o.y=Y at*;have ln':S.vals.length<1000:=by omega
 have cl:∀v:Int,(([v]:List Int).length:Int)=1:=λ_=>rfl
 have EV:evO o->p5 (S.m.pc,S.m.save,S.m.bH,S.m.waits,S.m.halt,S.m.ins,S.m.count,b,o,X,Y,S.m.regs,S.m.mem,S.m.outs,())=true:=λz=>by
  have:=a1 z;exact hp5 S.m b o X Y m64 wx.1 li ah ok.ct ah ah ah
 have EW:=λz:evO o=>hf5 S.m b o X Y m64 wx.1 li ah ok.ct (by have:=a1 z;omega) ah ah
 have EL:∀(mm:aG) (n h:Int),mm.pc=b.pc->lvS mm b n h=leave mm n h:=λmm n h e=>by unfold lvS leave;rw [e]
 have Sp:S.m.pc=b.pc:=by omega
 have Sh:S.m.halt=0:=by omega
 rcases(by omega:o.kind=1\/o.kind=2\/o.kind=3\/o.kind=4\/o.kind=5\/o.kind=6\/o.kind=7\/o.kind=8)with k | k | k | k | k | k | k | k
 .have P7:=hp7 S.m o X Y (λz=>by omega);have H7:=hf7 S.m o X Y (λz=>by omega);rw [if_pos k]at H7;simp (disch:=omega) only [RR,h7,RB,hq,eT,k,Int.reduceEq,hp4,F4x,F4y,mM',P7,H7,cl];exact⟨ah,ah,nx (λh=>by omega) (λh=>by omega) (by simp [mM,mV,k])⟩
 .have g:=k2 (Or.inl k);have P7:=hp7 S.m o X Y (λz=>by omega);have H7:=hf7 S.m o X Y (λz=>by omega);rw [if_neg ah,if_pos k]at H7;simp (disch:=omega) only [RR,h7,RB,hq,eT,k,Int.reduceEq,hp4,F4x,F4y,mM',P7,H7,cl];exact⟨ah,ah,nx (λh=>by omega) (λh=>by omega) (by simp [mM,mV,k])⟩
 .have P7:=hp7 S.m o X Y (λz=>by omega);have H7:=hf7 S.m o X Y (λz=>by omega);rw [if_neg ah,if_neg ah,if_pos k]at H7;have e1:=ex (by unfold hX;omega);have e2:=ey (Or.inl k);simp (disch:=omega) only [RR,h7,RB,hq,eT,k,Int.reduceEq,hp4,F4x,F4y,mM',P7,H7,cl];exact⟨ah,ah,nx (λh=>by omega) (λh=>by omega) (by simp [mM,mV,k,e1,e2])⟩
 .have e1:=ex (by unfold hX;omega);have Q:=EV (by unfold evO;omega);have V:=EW (by unfold evO;omega);by_cases z:64<=X
  .have ev:evR S.m b o X Y=(lvS S.m b o.at_ 3,0,true):=by unfold evR;rw [if_neg ah,if_neg ah,if_pos z]
   rw [ev]at V;simp (disch:=omega) only [RR,h7,RB,hq,eT,k,Int.reduceEq,hp4,F4x,F4y,mM',Q,V,cl];rw [lv (leave S.m o.at_ 3) (by unfold fK;rw [if_neg (by rw [R.lf];decide),if_pos ⟨Or.inl k,ah⟩]),EL _ _ _ Sp];exact⟨ah,rfl⟩
  .have ev:evR S.m b o X Y=(S.m,((S.m.mem).getD (X).toNat default),false):=by unfold evR;rw [if_neg ah,if_neg ah,if_neg z,if_pos k]
   rw [ev]at V;simp (disch:=omega) only [RR,h7,RB,hq,eT,k,Int.reduceEq,hp4,F4x,F4y,mM',Q,V,cl];exact⟨ah,ah,nx (λh=>by omega) (λh=>by omega) (by simp [mM,mV,k,e1])⟩
 .have e1:=ex (by unfold hX;omega);have e2:=ey (Or.inr k);have Q:=EV (by unfold evO;omega);have V:=EW (by unfold evO;omega);by_cases z:64<=X
  .have ev:evR S.m b o X Y=(lvS S.m b o.at_ 3,0,true):=by unfold evR;rw [if_neg ah,if_neg ah,if_pos z]
   rw [ev]at V;simp (disch:=omega) only [RR,h7,RB,hq,eT,k,Int.reduceEq,hp4,F4x,F4y,mM',Q,V,cl];rw [lv (leave S.m o.at_ 3) (by unfold fK;rw [if_neg (by rw [R.lf];decide),if_pos ⟨Or.inr k,ah⟩]),EL _ _ _ Sp];exact⟨ah,rfl⟩
  .have mm:mM S o={S.m with mem:=S.m.mem.set X.toNat Y}:=by unfold mM;rw [if_pos k,e1,e2]
   by_cases y:b.pc+o.at_<X/\X<b.pc+b.len
   .have ev:evR S.m b o X Y=(lvS {S.m with mem:=S.m.mem.set X.toNat Y} b (o.at_+1) 0,0,true):=by unfold evR;rw [if_neg ah,if_neg ah,if_neg z,if_neg ah,if_pos y]
    rw [ev]at V;simp (disch:=omega) only [RR,h7,RB,hq,eT,k,Int.reduceEq,hp4,F4x,F4y,mM',Q,V,cl];rw [lv (leave (mM S o) (o.at_+1) (mM S o).halt) (by unfold fK;rw [if_neg (by rw [R.lf];decide),if_neg ah,if_pos ⟨k,ah⟩]),mm,EL {S.m with mem:=S.m.mem.set X.toNat Y} _ _ Sp];dsimp only;rw [Sh];exact⟨ah,rfl⟩
   .have ev:evR S.m b o X Y=({S.m with mem:=S.m.mem.set X.toNat Y},0,false):=by unfold evR;rw [if_neg ah,if_neg ah,if_neg z,if_neg ah,if_neg y]
    rw [ev]at V;simp (disch:=omega) only [RR,h7,RB,hq,eT,k,Int.reduceEq,hp4,F4x,F4y,mM',Q,V,cl];exact⟨ah,ah,nx (λh=>by omega) (λh=>by omega) (by rw [mm];simp [mV,k])⟩
 .have Q:=EV (by unfold evO;omega);have V:=EW (by unfold evO;omega);have ev:evR S.m b o X Y=({S.m with ins:=S.m.ins.drop 1},S.m.ins.getD 0 0,false):=by unfold evR;rw [if_neg ah,if_pos k]
  rw [ev]at V;simp (disch:=omega) only [RR,h7,RB,hq,eT,k,Int.reduceEq,hp4,F4x,F4y,mM',Q,V,cl];exact⟨ah,ah,nx (λh=>by omega) (λh=>by omega) (by simp [mM,mV,k])⟩
 .have e1:=ex (by unfold hX;omega);have Q:=EV (by unfold evO;omega);have V:=EW (by unfold evO;omega);have ev:evR S.m b o X Y=({S.m with outs:=S.m.outs++ [X]},0,false):=by unfold evR;rw [if_pos k]
  rw [ev]at V;simp (disch:=omega) only [RR,h7,RB,hq,eT,k,Int.reduceEq,hp4,F4x,F4y,mM',Q,V,cl];exact⟨ah,ah,nx (λh=>by omega) (λh=>by omega) (by simp [mM,mV,k,e1])⟩
 .have e1:=ex (by unfold hX;omega);have xv:=x1 (by unfold hX;omega);have g:=k2 (Or.inr k);have eX:((S.vals).getD (o.x).toNat default)=vx S o:=by unfold vx;rw [if_pos (by unfold hX;omega)]
  simp (disch:=omega) only [RR,h7,RB,hq,eT,k,Int.reduceEq,hp4,F4x,F4y,mM',cl,eX];exact⟨ah,ah,ah,ah,ah,ah,ah,ah,ah,ah,nx (λh=>by omega) (λh=>by omega) (by simp [mM,mV,k])⟩
theorem EGM:∀e:Eng,Co.mk .eng (e.au.regs,e.au.pc,e.au.mem,e.au.save,e.au.bH,e.au.waits,e.au.halt,e.au.ins,e.au.outs,e.au.count,e.cache,e.aZ,())=e:=λ_=>rfl
def apn:Eng:=⟨KF,[],[]⟩
noncomputable def goE (e:Eng) (q:List Int) (left:Int) (a:Ask):Eng×Bool:=
 if(e.au.waits=true\/e.au.count∈q)/\e.au.bH=true then(su e q,false)
 else if(eD e a).2.1<0 then(su (eD e a).1 q,(eD e a).2.2)
 else if En e.au q left ((((eD e a).1.cache).getD ((eD e a).2.1).toNat default)).blk.len=false then(su (eD e a).1 q,(eD e a).2.2)
 else(⟨(oJ ((((eD e a).1.cache).getD ((eD e a).2.1).toNat default)).blk {e.au with waits:=e.au.waits || bp (e.au.count∈q)}).1,(eD e a).1.cache.filter (cu (oJ ((((eD e a).1.cache).getD ((eD e a).2.1).toNat default)).blk {e.au with waits:=e.au.waits || bp (e.au.count∈q)}).1.mem),(eD e a).1.aZ⟩,(eD e a).2.2)
noncomputable def F3 (e:Eng) (q:List Int) (left:Int) (a:Ask):Eng×Bool:=
 if bp (Pb e)=false then(apn,false)else if e.au.halt≠0\/left<1\/e.au.count=1000000 then(e,false)else goE e q left a
def RS:∀(r:List Ins) (n:Int) (b:Blk),(lW n b r).pc=b.pc/\(lW n b r).len=b.len
 | [],_,_=>⟨rfl,rfl⟩
 | i::r,n,b=>by
  have e:(gy n b i).pc=b.pc/\(gy n b i).len=b.len:=by
   unfold gy;split
   .exact⟨rfl,rfl⟩
   split<;>exact⟨rfl,rfl⟩
  have h:=RS r (n+1) (gy n b i);exact⟨h.1.trans e.1,h.2.trans e.2⟩
def Ua{pc:Int}{l:List Ins}(h:oK pc l):(lower pc l).pc=pc:=by
 unfold lower;rw [if_pos (aP h)];exact(RS l 0 (xM pc l)).1
def ZJ{b c:Blk}(h:chk b c=true):bZ b/\bZ c/\b.pc=c.pc/\b.len=c.len:=by
 have:=aV.1 h;exact⟨this.1,this.2.1,this.2.2.1,this.2.2.2.1⟩
def Ub(l:List Cac)(e:Cac):((pR l e).getD (((pR l e).length:Int)-1).toNat default)=e:=by
 have n:(pR l e).length=(l.filter (neP e.blk.pc)).length+1- ((l.filter (neP e.blk.pc)).length+1-4):=by unfold pR;rw [List.length_drop,List.length_append,List.length_singleton]
 rw [n,getD_lt (by rw [n];omega)];unfold pR;rw [List.getElem_drop,List.getElem_append_right ah];simp
def F4(e:Eng)(a:Ask):(eD e a).1.au=e.au:=by
 unfold eD;split
 .rfl
 split<;>rfl
def ac0{cs:List Cer}{b:Blk}{a:Ask}(h:cs.length<=3):(nP cs b a).2.length<=3:=by
 unfold nP;split
 .exact h
 split
 .exact h
 split
 .unfold KE;rw [List.length_drop,List.length_append,List.length_singleton];omega
 .exact h
structure FnS(e:Eng)(y:Eng×Int×Bool):Prop where
 l:y.1.cache.length<=e.cache.length+4/\(e.cache.length<=4->y.1.cache.length<=4)/\(e.aZ.length<=3->y.1.aZ.length<=3)
 w:(∀x∈e.cache,0<x.words.length)->∀x∈y.1.cache,0<x.words.length
 k:ShK y.1.cache
 c:ShC y.1.aZ
 r:y.2.1<y.1.cache.length
 b:0<=y.2.1->bZ (((y.1.cache).getD (y.2.1).toNat default)).blk/\(((y.1.cache).getD (y.2.1).toNat default)).blk.pc=e.au.pc
def ZK{e:Eng}{a:Ask}(h2:ShK e.cache)(h3:ShC e.aZ)(ok:Pb e)(hl:a.bytes.length<1000000000):FnS e (eD e a):=by
 have B:=Eo e.au;have fc:=ZH e.cache e.au.pc;unfold eD;split
 .rename_i g;rcases fc with f | ⟨f1,f2,f3,_⟩
  .omega
  .exact⟨⟨Nat.le_add_right _ _,id,id⟩,id,h2,h3,f2,λ_=>⟨(ZJ (ok.2.1.2.1 _ f1 f2).1.2.2).2.1,f3⟩⟩
 split
 .exact⟨⟨Nat.le_add_right _ _,id,id⟩,id,h2,h3,by dsimp only;omega,λg=>absurd (show(0:Int)<= -1 from g) (by decide)⟩
 .rename_i g;have bk:=(B.2 ah).2;have ir:=xO bk;have sz:=ir.sz;have A:=RQ (a:=a) h3 (show(lower e.au.pc (findF e.au)).ops.length<1000000 by omega) hl;have Q:=acY (a:=a) (b:=lower e.au.pc (findF e.au)) ok.2.2;have lpc:(lower e.au.pc (findF e.au)).pc=e.au.pc:=Ua bk;have Z:bZ (nP e.aZ (lower e.au.pc (findF e.au)) a).1/\(nP e.aZ (lower e.au.pc (findF e.au)) a).1.pc=e.au.pc:=by
   rcases Q with q | q
   .rw [q];exact⟨ir,lpc⟩
   .have k:=ZJ q;exact⟨k.2.1,by rw [<-k.2.2.1,lpc]⟩
  have wl:((findF e.au).map lX).length<1000:=by rw [List.length_map];omega
  have zp:=Z.1.pc;have zl:=Z.1.ln;have S:=acZ h2 (e:=⟨(findF e.au).map lX,(nP e.aZ (lower e.au.pc (findF e.au)) a).1⟩) wl A.1 (by dsimp only;omega);have kl:(pR e.cache ⟨(findF e.au).map lX,(nP e.aZ (lower e.au.pc (findF e.au)) a).1⟩).length<=4:=by
   unfold pR;rw [List.length_drop,List.length_append,List.length_singleton];omega
  exact⟨⟨by dsimp only;omega,λ_=>kl,λz=>ac0 z⟩,λhw x hx=>by
   unfold pR at hx;have hx:=List.mem_of_mem_drop hx;rw [List.mem_append,List.mem_singleton]at hx;rcases hx with hx | rfl
   .exact hw x (List.mem_filter.1 hx).1
   .show 0< ((findF e.au).map lX).length;rw [List.length_map];omega,S.1,A.2,Int.sub_lt_self _ (by decide),λ_=>by rw [Ub];exact Z⟩
def Cc{l:List Cac}(h:ShK l)(P:Cac->Bool):ShK (l.filter P):=h.sub (Nat.lt_of_le_of_lt (List.length_filter_le _ _) h.1) λx hx=>(List.mem_filter.1 hx).1
abbrev e13(y : Eng × Bool) : List Int × Int × Int × Bool × Bool × Int × List Int × List Int × Int × Bool × List Cer × List Int × List Cac × Unit := (y.1.au.regs, y.1.au.pc, y.1.au.save, y.1.au.bH, y.1.au.waits, y.1.au.halt, y.1.au.ins, y.1.au.outs, y.1.au.count, y.2, y.1.aZ, y.1.au.mem, y.1.cache, ())
def KJ{b:Blk}{m:aG}(hs:MSh m)(ho:m.outs.length<900000000):MSh (oJ b m).1/\(oJ b m).1.outs.length<=m.outs.length+48/\(oJ b m).1.ins.length<=m.ins.length:=by
 unfold oJ;split
 .rename_i g;have g:=aV.1 g;split
  .exact⟨hs,Nat.le_add_right _ _,Nat.le_refl _⟩
  .have l:=Iz b b.ops ⟨m,[],false⟩;have sz:=g.1.sz;refine⟨acK g.1 hs ho,?_,?_⟩
   .unfold O6;split<;>(dsimp only;have:=l.2.1;dsimp only at this;omega)
   .unfold O6;split<;>exact l.1
 .exact⟨⟨by decide,by decide,by decide,by decide⟩,Nat.zero_le _,Nat.zero_le _⟩
structure apo(pp:Eng×Unit->Bool)(ff:Eng×Unit->Bool×Unit):Prop where
 hp:∀e,MSh e.au->ShK e.cache->ShD e.aZ->pp (e,())=true
 hf:∀e,MSh e.au->ShK e.cache->ShD e.aZ->ff (e,())=(bp (Pb e),())
theorem amk{p1 f1 p2 f2 p8 f8}(U1:acV p1 f1)(U2:apo p2 f2){p3:Blk×aG×Unit->Bool}{f3:Blk×aG×Unit->Int×Int×Bool×Bool×Int×List Int×Int×Bool×List Int×List Int×List Int×Unit}(hp3:∀(b:Blk) (m:aG),MSh m->b.ops.length<1000000000->m.outs.length<800000000->p3 (b,m,())=true)(hf3:∀(b:Blk) (m:aG),MSh m->b.ops.length<1000000000->m.outs.length<800000000->f3 (b,m,())=ami (oJ b m)){p4:Eng×Unit->Bool}{f4:Eng×Unit->List Int×Int×Int×Bool×Bool×Int×List Int×List Int×Int×List Cer×List Int×List Cac×Unit}(hp4:∀e,MSh e.au->ShK e.cache->ShC e.aZ->p4 (e,())=true)(hf4:∀e,MSh e.au->ShK e.cache->ShC e.aZ->f4 (e,())=e12 e){p5:List Int×Int×List Int×Int×Bool×Bool×Int×List Int×List Int×Int×List Cac×Ask×List Cer×Unit->Bool}{f5:List Int×Int×List Int×Int×Bool×Bool×Int×List Int×List Int×Int×List Cac×Ask×List Cer×Unit->List Int×Int×List Int×Int×Bool×Bool×Int×List Int×List Int×Int×List Cac×Int×Bool×List Cer×Unit}(hp5:∀(e:Eng) (a:Ask),MSh e.au->ShK e.cache->ShC e.aZ->By a.bytes->a.bytes.length<1000000000->p5 (e.au.regs,e.au.pc,e.au.mem,e.au.save,e.au.bH,e.au.waits,e.au.halt,e.au.ins,e.au.outs,e.au.count,e.cache,a,e.aZ,())=true)(hf5:∀(e:Eng) (a:Ask),MSh e.au->ShK e.cache->ShC e.aZ->By a.bytes->a.bytes.length<1000000000->f5 (e.au.regs,e.au.pc,e.au.mem,e.au.save,e.au.bH,e.au.waits,e.au.halt,e.au.ins,e.au.outs,e.au.count,e.cache,a,e.aZ,())=((eD e a).1.au.regs,(eD e a).1.au.pc,(eD e a).1.au.mem,(eD e a).1.au.save,(eD e a).1.au.bH,(eD e a).1.au.waits,(eD e a).1.au.halt,(eD e a).1.au.ins,(eD e a).1.au.outs,(eD e a).1.au.count,(eD e a).1.cache,(eD e a).2.1,(eD e a).2.2,(eD e a).1.aZ,())){p6:List Int×Int×List Int×Int×Bool×Bool×Int×List Int×List Int×Int×List Cac×List Int×List Cer×Unit->Bool}{f6:List Int×Int×List Int×Int×Bool×Bool×Int×List Int×List Int×Int×List Cac×List Int×List Cer×Unit->List Int×Int×Int×Bool×Bool×Int×List Int×List Int×Int×List Cer×List Int×List Cac×Unit}(hp6:∀(e:Eng) (q:List Int),MSh e.au->e.au.outs.length<900000000->ShK e.cache->q.length<1000000000->p6 (e.au.regs,e.au.pc,e.au.mem,e.au.save,e.au.bH,e.au.waits,e.au.halt,e.au.ins,e.au.outs,e.au.count,e.cache,q,e.aZ,())=true)(hf6:∀(e:Eng) (q:List Int),MSh e.au->e.au.outs.length<900000000->ShK e.cache->q.length<1000000000->f6 (e.au.regs,e.au.pc,e.au.mem,e.au.save,e.au.bH,e.au.waits,e.au.halt,e.au.ins,e.au.outs,e.au.count,e.cache,q,e.aZ,())=e12 (su e q)){p7:aG×List Int×Int×Int×Unit->Bool}{f7:aG×List Int×Int×Int×Unit->Bool×Unit}(hp7:∀m q l s,q.length<1000000000->0<=m.count/\m.count<=2000000-> -1000<=s/\s<=1000000->p7 (m,q,l,s,())=true)(hf7:∀m q l s,q.length<1000000000->0<=m.count/\m.count<=2000000-> -1000<=s/\s<=1000000->f7 (m,q,l,s,())=(En m q l s,()))(U8:ahz p8 f8)(e:Eng)(q:List Int)(left:Int)(a:Ask)(h1:MSh e.au)(ho:e.au.outs.length<700000000)(h2:ShK e.cache)(h3:ShC e.aZ)(hq:q.length<1000000000)(ha:By a.bytes)(hl:a.bytes.length<1000000000):XO.F (p1,f1,p2,f2,p3,f3,p4,f4,p5,f5,p6,f6,p7,f7,p8,f8,()) (e,q,left,a,()) (λy=>y=e13 (F3 e q left a)):=by
 obtain⟨hp1,hf1⟩:=U1;obtain⟨hp2,hf2⟩:=U2;obtain⟨hp8,hf8⟩:=U8;have mM:=MKM;have mE:∀c:Blk,Co.mk .blk (c.pc,c.len,c.ops,c.fin,c.x,c.y,c.k,())=c:=λ_=>rfl
 dsimp only [XO,gm,om,kJ]at*;have P6:=hp6 e q h1 ah h2 hq;have H6:=hf6 e q h1 ah h2 hq;have P5:=hp5 e a h1 h2 h3 ha hl;have H5:=hf5 e a h1 h2 h3 ha hl;have P8:=hp8 q e.au.count hq;have H8:=hf8 q e.au.count hq;have fm:=F4 e a;have S:Pb e->FnS e (eD e a):=λk=>ZK h2 h3 k hl
 unfold F3 goE;generalize eD e a=Y at*;simp (disch:=omega) only [RR,mM,hp2 e h1 h2 h3.d,hf2 e h1 h2 h3.d,hp4 e h1 h2 h3,hf4 e h1 h2 h3,P6,H6,P5,H5,P8,H8,CAB,mE];refine⟨λg=>by rw [if_pos g];rfl,λg=>⟨λh=>by rw [if_neg (by rw [g];decide),if_pos (show e.au.halt≠0\/left<1\/e.au.count=1000000 by omega)],λh=> ?_⟩⟩;have ok:=aV.1 g;have S:=S ok;have cw:=ok.1.ct;rw [if_neg (by rw [g];decide),if_neg (show¬(e.au.halt≠0\/left<1\/e.au.count=1000000) by omega)];have PY:=hp6 Y.1 q (by rw [fm];exact h1) (by rw [fm];omega) S.k hq;have HY:=hf6 Y.1 q (by rw [fm];exact h1) (by rw [fm];omega) S.k hq;rw [HY];have ec:((e.au.waits=true\/bp (e.au.count∈q)=true)/\e.au.bH=true)↔((e.au.waits=true\/e.au.count∈q)/\e.au.bH=true):=by rw [aV]
 refine⟨λw=>by rw [if_pos (ec.1 w)],λw=> ?_⟩;rw [if_neg (λz=>by
  have:((e.au.waits || bp (e.au.count∈q))&&e.au.bH)=true:=by rw [Bool.and_eq_true,Bool.or_eq_true];exact ec.2 z
  rw [this]at w;cases w)]
 refine⟨λn=>⟨PY,by rw [if_pos n]⟩,λn=> ?_⟩;rw [if_neg ah];have k0:0<=Y.2.1:=by omega
 have Sr:=S.r;obtain⟨B1,B2⟩:=S.b k0;have s1:=(S.k.at Y.2.1.toNat).2.1;generalize hb:(((Y.1.cache).getD (Y.2.1).toNat default)).blk=b at*;have bl:=B1.ln;have P7:=hp7 e.au q left b.len hq ah ah;have H7:=hf7 e.au q left b.len hq ah ah;refine⟨k0,Sr,P7,?_⟩;rw [H7];refine⟨λr=>⟨PY,by rw [if_pos r]⟩,λr=> ?_⟩;have r:En e.au q left b.len=true:=r;rw [if_neg (by rw [r];decide)];obtain⟨M,hM⟩:∃M:aG,M={e.au with waits:=e.au.waits || bp (e.au.count∈q)}:=⟨_,rfl⟩;have eM:Co.mk .au (e.au.regs,e.au.pc,e.au.mem,e.au.save,e.au.bH,e.au.waits || bp (e.au.count∈q),e.au.halt,e.au.ins,e.au.outs,e.au.count,())=M:=hM.symm;have Ms:MSh M:=by rw [hM];exact h1
 have Mo:M.outs.length<700000000:=by rw [hM];exact ho
 rw [<-hM];have R:=KJ (b:=b) Ms ah;simp only [eM,hp3 b M Ms ah ah,hf3 b M Ms ah ah,hp1 _ _ S.k R.1.2.1,hf1 _ _ S.k R.1.2.1];exact⟨trivial,trivial,trivial⟩
structure EgS(e:Eng)(n:Nat):Prop where
 m:MSh e.au
 o:e.au.outs.length<=n
 k:ShK e.cache
 c:ShC e.aZ
 kl:e.cache.length<=4
 cl:e.aZ.length<=3
 w:∀x∈e.cache,0<x.words.length
 v:∀x∈e.cache,0<=x.blk.pc/\x.blk.pc<e.au.mem.length
def ZL{l:List Cac}{mem:List Int}(w:∀x∈l,0<x.words.length):∀x∈l.filter (cu mem),0<=x.blk.pc/\x.blk.pc<mem.length:=λx hx=>by
 have h:=List.mem_filter.1 hx;have d:=aV.1 (show bp _=true from h.2);have t:=d.2 0 (by decide) (by have:=w x h.1;omega);exact⟨d.1,ah⟩
def ac1{e:Eng}{n:Nat}(h:EgS e n)(hn:n<700000000)(q:List Int)(left:Int){a:Ask}(hl:a.bytes.length<1000000000):EgS (F3 e q left a).1 (n+50):=by
 have ho:=h.o;unfold F3;split
 .exact⟨⟨by decide,by decide,by decide,by decide⟩,Nat.zero_le _,⟨by decide,λx hx=>by cases hx⟩,⟨by decide,λx hx=>by cases hx⟩,by decide,by decide,(λx hx=>by cases hx),λx hx=>by cases hx⟩
 rename_i g;have ok:Pb e:=aV.1 (by simpa using g);split
 .exact⟨h.m,by have:=h.o;dsimp only;omega,h.k,h.c,h.kl,h.cl,h.w,h.v⟩
 have pl:∀y:Eng,y.au=e.au->ShK y.cache->ShC y.aZ->y.cache.length<=4->y.aZ.length<=3->(∀x∈y.cache,0<x.words.length)->EgS (su y q) (n+50):=λy ym yk yc yl ym' yw=>by
  have s:=Zz (m:=y.au) (by rw [ym];exact h.m) (by rw [ym];omega) (bp (y.au.count∈q));rw [ym]at s;exact⟨by unfold su;rw [ym];exact s.1,by have:=s.2.1;unfold su;rw [ym];dsimp only;omega,Cc yk _,yc,Nat.le_trans (List.length_filter_le _ _) yl,ym',λx hx=>yw x (List.mem_filter.1 hx).1,ZL yw⟩
 have S:=ZK h.k h.c ok hl;have fm:=F4 e a;unfold goE;split
 .exact pl e rfl h.k h.c h.kl h.cl h.w
 split
 .exact pl _ fm S.k S.c (S.l.2.1 h.kl) (S.l.2.2 h.cl) (S.w h.w)
 split
 .exact pl _ fm S.k S.c (S.l.2.1 h.kl) (S.l.2.2 h.cl) (S.w h.w)
 .have R:=KJ (b:=((((eD e a).1.cache).getD ((eD e a).2.1).toNat default)).blk) (m:={e.au with waits:=e.au.waits || bp (e.au.count∈q)}) h.m (by dsimp only;omega);exact⟨R.1,by have:=R.2.1;dsimp only at this ⊢;omega,Cc S.k _,S.c,Nat.le_trans (List.length_filter_le _ _) (S.l.2.1 h.kl),S.l.2.2 h.cl,λx hx=>S.w h.w x (List.mem_filter.1 hx).1,ZL (S.w h.w)⟩
def EnD(b:List Int)(p:Int)(y:List Int×Int×Int×Bool×Bool×Int×List Int×List Int×Int×List Int×Int×List Cer×List Int×List Cac×Unit):Prop:=
 ∃(e:Eng) (p':Int),EgS e 1000/\p<=p'/\p'<=p+30000000/\y=(e.au.regs,e.au.pc,e.au.save,e.au.bH,e.au.waits,e.au.halt,e.au.ins,e.au.outs,e.au.count,b,p',e.aZ,e.au.mem,e.cache,())
def ShK.nil:ShK []:=⟨by decide,λx hx=>by cases hx⟩
def ShC.nil:ShC []:=⟨by decide,λx hx=>by cases hx⟩
def ahN{m:aG}(h:MSh m)(ho:m.outs.length<=0):EgS (newE m) 0:=by
 unfold newE;split
 .exact⟨h,ho,ShK.nil,ShC.nil,Nat.zero_le _,Nat.zero_le _,(λx hx=>by cases hx),λx hx=>by cases hx⟩
 .exact⟨⟨by decide,by decide,by decide,by decide⟩,Nat.le_refl _,ShK.nil,ShC.nil,by decide,by decide,(λx hx=>by cases hx),λx hx=>by cases hx⟩
theorem ahO{p3 f3 p4 f4 p5 f5 p6 f6 p7 f7}{p1:aG×Unit->Bool}{f1:aG×Unit->List Int×Int×Int×Bool×Bool×Int×List Int×List Int×Int×List Cer×List Int×List Cac×Unit}(hp1:∀m,MSh m->p1 (m,())=true)(hf1:∀m,MSh m->f1 (m,())=e12 (newE m)){p2:Eng×List Int×Int×Ask×Unit->Bool}{f2:Eng×List Int×Int×Ask×Unit->List Int×Int×Int×Bool×Bool×Int×List Int×List Int×Int×Bool×List Cer×List Int×List Cac×Unit}(hp2:∀(e:Eng) (q:List Int) (l:Int) (a:Ask),MSh e.au->e.au.outs.length<700000000->ShK e.cache->ShC e.aZ->q.length<1000000000->By a.bytes->a.bytes.length<1000000000->p2 (e,q,l,a,())=true)(hf2:∀(e:Eng) (q:List Int) (l:Int) (a:Ask),MSh e.au->e.au.outs.length<700000000->ShK e.cache->ShC e.aZ->q.length<1000000000->By a.bytes->a.bytes.length<1000000000->f2 (e,q,l,a,())=e13 (F3 e q l a))(U3:apb p3 f3)(U4:apc p4 f4)(U5:apd p5 f5)(U6:Y38 p6 f6)(U7:ape p7 f7){p8:aG×List Int×Int×Unit->Bool}{f8:aG×List Int×Int×Unit->Bool×List Int×Int×List Int×Unit}(hp8:∀m b p,MSh m->Bt b->0<=p->p<500000000->p8 (m,b,p,())=true)(hf8:∀m b p,MSh m->Bt b->0<=p->p<500000000->AsD b p (f8 (m,b,p,())))(b:List Int)(p:Int)(hb:Bt b)(h1:0<=p)(h2:p<300000000):Ov.F (p1,f1,p2,f2,p3,f3,p4,f4,p5,f5,p6,f6,p7,f7,p8,f8,()) (b,p,()) (λy=>EnD b p y):=by
 obtain⟨hp3,hf3⟩:=U3;obtain⟨hp4,hf4⟩:=U4;obtain⟨hp5,hf5⟩:=U5;obtain⟨hp6,hf6⟩:=U6;obtain⟨hp7,hf7⟩:=U7;have R:=pkR hb hf6;have P:=λn p h1 h2=>hp6 n b p hb h1 h2
 obtain⟨i1,i2,i3,i4,i5⟩:=hf4 b p hb h1 ah;have P4:=hp4 b p hb h1 ah;generalize hy:f4 (b,p,())=y at i1 i2 i3 i4 i5;obtain⟨b',q0,w,⟨⟩⟩:=y;dsimp only at i1 i2 i3 i4 i5;subst i1;obtain⟨a1,a2,a3,a4⟩:=hf6 4 b' q0 hb ah ah;have P6:=hp6 4 b' q0 hb ah ah;generalize hk:f6 (4,b',q0,())=k at a1 a2 a3 a4;obtain⟨n,b'',q1,⟨⟩⟩:=k;dsimp only at a1 a2 a3 a4;subst a1;subst a2;obtain⟨w1,w2,w3,w4,w5⟩:=hf7 n b'' (q0+1) hb ah ah ah;have P7:=hp7 n b'' (q0+1) hb ah ah ah;generalize hw:f7 (n,b'',q0+1,())=v at w1 w2 w3 w4 w5;obtain⟨c,q2,ins,⟨⟩⟩:=v;dsimp only at w1 w2 w3 w4 w5;subst w1;have ok:=acP i4 i5 w5;have P3:=hp3 w ins ah ah;have H3:=hf3 w ins ah ah;have Nm:(jH w ins).outs=[]/\(jH w ins).ins.length<=ins.length:=by
  unfold jH;split<;>exact⟨rfl,by simp [KF]⟩
 have Ns:MSh (jH w ins):=⟨by rw [ok.r4];decide,by have:=ok.m64;omega,ah,by rw [Nm.1];decide⟩;have P1:=hp1 _ Ns;have H1:=hf1 _ Ns;have E0:=ahN Ns (by rw [Nm.1];exact Nat.le_refl _);obtain⟨s1,s2,s3,s4⟩:=hf5 c q2 hb ah ah;have P5:=hp5 c q2 hb ah ah;generalize hs:f5 (c,q2,())=z at s1 s2 s3 s4;obtain⟨d,q3,irq,⟨⟩⟩:=z;dsimp only at s1 s2 s3 s4;subst s1;have mM:=MKM;generalize jH w ins=M at*;have mK:Co.mk .au (M.regs,M.pc,M.mem,M.save,M.bH,M.waits,M.halt,M.ins,[],M.count,())=M:=by
  have:=Nm.1;cases M;dsimp only at this;subst this;rfl
 generalize newE M=N at*;dsimp only [Ov,gm,om];simp (disch:=omega) only [RR,P4,hy,P6,hk,P7,hw,P3,H3,P5,hs,R,P,mK,P1,H1];obtain⟨t1,t2,t3,t4⟩:=hf6 12 d q3 hb ah ah;refine aB (λy=>∃(k q:Int) (e:Eng),0<=k/\k<=11/\p<=q/\q<=p+20000+2000100*(11-k)/\EgS e (50*(11-k).toNat)/\y=(k,d,q,0,0,false,false,0,0,e.au.regs,e.au.pc,e.au.save,e.au.bH,e.au.waits,e.au.halt,e.au.ins,e.au.outs,e.au.count,irq,e.au.mem,e.cache,e.aZ,())) (λy=>y.1.toNat) ⟨(f6 (12,d,q3,())).1,q3+1,N,t3,ah,ah,ah,⟨E0.m,by have:=E0.o;omega,E0.k,E0.c,E0.kl,E0.cl,E0.w,E0.v⟩,rfl⟩ ?_;rintro y ⟨k,q,e,k0,k1,k2,k3,E,rfl⟩;dsimp only;have eo:=E.o;by_cases c:0<k
 .obtain⟨u1,u2,u3,u4⟩:=hf6 30 d q hb ah ah;have P8:=hp8 e.au d (q+1) E.m hb ah ah;have A:=hf8 e.au d (q+1) E.m hb ah ah;have Ap:=A.p;have Ab:=A.b;obtain⟨Al,An⟩:=A.l;generalize hA8:f8 (e.au,d,q+1,())=a at*;have w1:IntKind.i64.wrap (1+(f6 (30,d,q,())).1)=1+(f6 (30,d,q,())).1:=w64 ah ah;have P2:=hp2 e irq (1+(f6 (30,d,q,())).1) ⟨a.1,a.2.2.2.1⟩ E.m ah E.k E.c ah Al (by dsimp only;omega);have H2:=hf2 e irq (1+(f6 (30,d,q,())).1) ⟨a.1,a.2.2.2.1⟩ E.m ah E.k E.c ah Al (by dsimp only;omega);have T:=ac1 E ah irq (1+(f6 (30,d,q,())).1) (a:=⟨a.1,a.2.2.2.1⟩) (by dsimp only;omega);have mA:∀(x:Bool) (y:List Int),Co.mk .ask (x,y,())=(⟨x,y⟩:Ask):=λ_ _=>rfl
  have mG:=EGM;generalize F3 e irq (1+(f6 (30,d,q,())).1) ⟨a.1,a.2.2.2.1⟩=X at*;simp (disch:=omega) only [RR,c,R,P,mM,P8,hA8,mA,mG,w1,P2,H2];exact⟨⟨k-1,a.2.2.1,X.1,ah,ah,ah,ah,⟨T.m,by have:=T.o;omega,T.k,T.c,T.kl,T.cl,T.w,T.v⟩,by rw [Ab]⟩,ah⟩
 .simp (disch:=omega) only [RR,c];exact⟨e,q,⟨E.m,ah,E.k,E.c,E.kl,E.cl,E.w,E.v⟩,k2,ah,rfl⟩
def KpD(b:List Int)(p:Int)(y:List Int×List Int×Int×List Cac×Unit):Prop:=
 ∃(e:Eng) (p':Int),EgS e 1000/\p<=p'/\p'<=p+30000000/\y=(e.au.mem,b,p',e.cache,())
structure apq(pp:List Int×Int×Unit->Bool)(ff:List Int×Int×Unit->List Int×Int×Int×Bool×Bool×Int×List Int×List Int×Int×List Int×Int×List Cer×List Int×List Cac×Unit):Prop where
 hp:∀b p,Bt b->0<=p->p<300000000->pp (b,p,())=true
 hf:∀b p,Bt b->0<=p->p<300000000->EnD b p (ff (b,p,()))
def ahP{p1 f1}(U1:apq p1 f1)(b:List Int)(p:Int)(hb:Bt b)(h1:0<=p)(h2:p<100000000):Ow.F (p1,f1,()) (b,p,()) (λy=>KpD b p y):=by
 obtain⟨e,p',E,e1,e2,H⟩:=U1.hf b p hb h1 ah;have P1:=U1.hp b p hb h1 ah;dsimp only [Ow,gm];simp (disch:=omega) only [RR,P1,H];exact⟨e,p',E,e1,e2,rfl⟩
structure apr(pp:List Int×Int×Unit->Bool)(ff:List Int×Int×Unit->List Int×List Int×Int×List Cac×Unit):Prop where
 hp:∀b p,Bt b->0<=p->p<100000000->pp (b,p,())=true
 hf:∀b p,Bt b->0<=p->p<100000000->KpD b p (ff (b,p,()))
def PuD(y:List Cac×Cac×Unit):Prop:=ShK y.1/\y.2.1.words.length<1000/\y.2.1.blk.ops.length<1000000/\y.2.1.blk.pc<=1000000
def ShK.add{l:List Cac}(h:ShK l)(n:l.length<999){x:Cac}(h1:x.words.length<1000)(h2:x.blk.ops.length<1000000)(h3:x.blk.pc<=1000000):ShK (l++ [x]):=by
 refine⟨by rw [List.length_append,List.length_singleton];omega,λc hc=> ?_⟩;rw [List.mem_append,List.mem_singleton]at hc;rcases hc with g | rfl
 .exact h.2 c g
 .exact⟨h1,h2,h3⟩
theorem aml{p1 f1 p2 f2 p3 f3 p4 f4 p5 f5}(U1:Y41 p1 f1)(U2:Y39 p2 f2)(U3:Y38 p3 f3)(U4:Y40 p4 f4)(U5:apr p5 f5)(c:List Int)(hc:By c)(hl:c.length<1000000000):X7.F (p1,f1,p2,f2,p3,f3,p4,f4,p5,f5,()) (c,()) (λy=>ShK y.1/\y.2.1.length<1000000000/\∀x∈y.1,0<x.words.length):=by
 obtain⟨hb,e0⟩:=U1.hf c hc hl;generalize hbe:(f1 (c,())).1=b at hb;obtain⟨e,q,E,e1,e2,H⟩:=U5.hf b 0 hb ah ah;have P5:=U5.hp b 0 hb ah ah;have R:=pkR hb U3.hf;have P:=λn p h1 h2=>U3.hp n b p hb h1 h2
 have l:=E.kl;have ml:=E.m.2.1;have li:∀x:Int,(([x]:List Int).length:Int)=1:=λ_=>rfl
 obtain⟨_,_,t3,t4⟩:=U3.hf 3 b q hb ah ah;dsimp only [X7,gm,kJ];simp (disch:=omega) only [RR,U1.hp c hc hl,hbe,e0,P5,H,R,P,List.nil_append,List.length_nil];refine⟨ah,?_⟩;refine aB (λy=>∃(k r:Int) (M:List Int),0<=k/\k<=2/\0<=r/\r<=30000100-40*k/\M.length<1000000000/\y=(k,b,r,e.cache,M,())) (λy=>y.1.toNat) ⟨(f3 (3,b,q,())).1,q+1,e.au.mem,t3,ah,ah,ah,ml,rfl⟩ ?_;rintro y ⟨k,r,M,k0,k1,r0,r1,hM,rfl⟩;dsimp only;obtain⟨g1,g2,g3,g4⟩:=U3.hf M.length b r hb ah ah;have W:=U4.hf b (r+1) hb ah ah;have P4:=U4.hp b (r+1) hb ah ah;have O1:=λr h1 h2=>(U2.hf 12 b r hb h1 h2).1
 have O2:=λr h1 h2=>(U2.hf 12 b r hb h1 h2).2
 have OP:=λr h1 h2=>U2.hp 12 b r hb h1 h2
 have td:((M.length:Int)).tdiv 2=((M.length/2:Nat):Int):=by rw [Int.tdiv_eq_ediv_of_nonneg ah];omega
 have tw:IntKind.i64.wrap ((M.length/2:Nat):Int)=((M.length/2:Nat):Int):=w64 ah ah;have A:ShK (e.cache++ [Co.mk .cac ([0], -1,0,[],0,0,0,0,())]):=E.k.add ah (x:=⟨[0],⟨-1,0,[],0,0,0,0⟩⟩) (by decide) (by decide) (by decide);have Aw:∀x∈e.cache++ [Co.mk .cac ([0], -1,0,[],0,0,0,0,())],0<x.words.length:=λx hx=>by
  rw [List.mem_append,List.mem_singleton]at hx;rcases hx with hx | rfl
  .exact E.w x hx
  .show 0<1;decide
 obtain⟨W1,W2,W3,_⟩:=W;simp (disch:=omega) only [RR,R,P,P4,W1,O1,O2,OP,td,tw];refine⟨λc4=>⟨ah,ah,⟨k-1,_,M.set _ _,ah,ah,ah,ah,by rw [List.length_set];exact hM,rfl⟩,ah⟩,λc4=>⟨λ_=>⟨ah,ah,ah,ah,ah,ah,ah,λ_=>⟨?_,A,?_,Aw⟩,λ_=>⟨E.k,?_,E.w⟩⟩,λ_=>⟨λ_=>⟨?_,A,hM,Aw⟩,λ_=>⟨E.k,hM,E.w⟩⟩⟩⟩
 all_goals first | (simp only [List.length_cons,List.length_nil];omega) | (rw [List.length_drop,List.length_take];omega)
structure aqk(pp:Cac×Cac×Unit->Bool)(ff:Cac×Cac×Unit->Bool×Cac×Unit):Prop where
 hp:∀e x,pp (e,x,())=true
 hf:∀e x,ff (e,x,())=(decide (e.blk.pc=x.blk.pc),x,())
def filter_all{α:Type}{P:α->Bool}{d:α}:∀ {l:List α},(∀i:Nat,i<l.length->P (l.getD i d)=true)->l.filter P=l
 | [],_=>rfl
 | x::l,h=>by
  have h0:=h 0 (by simp);have h1:=filter_all (P:=P) (d:=d) (l:=l) λi hi=>h (i+1) (by simp;omega)
  rw [List.filter_cons,if_pos (by simpa using h0),h1]
structure BM(P:Cac->Bool)(l L:List Cac)(i j:Int):Prop where
 i0:0<=i
 ij:i<=j
 jl:j<=l.length
 len:L.length=l.length
 a:L.take i.toNat=(l.take j.toNat).filter P
 b:∀k:Nat,j<=k->L.getD k default=l.getD k default
def BM.start{P:Cac->Bool}{l:List Cac}{k:Int}(h0:0<=k)(h1:k<l.length)(hp:P ((l).getD (k).toNat default)=false)(h:∀j:Int,0<=j->j<k->P ((l).getD (j).toNat default)=true):BM P l l k (k+1):=by
 refine⟨h0,ah,ah,rfl,?_,λ_ _=>rfl⟩;rw [jo (d:=default) h0 h1,if_neg (by rw [hp];decide),List.append_nil,filter_all (d:=default) λi hi=> ?_];rw [List.length_take]at hi;have:=h i ah ah;have e:(l.take k.toNat).getD i default=l.getD i default:=by rw [getD_lt (by rw [List.length_take];omega),getD_lt ah,List.getElem_take]
 rw [e];simpa using this
def BM.keep{P:Cac->Bool}{l L:List Cac}{i j:Int}(h:BM P l L i j)(hj:j<l.length)(hp:P ((L).getD (j).toNat default)=true):BM P l (L.set i.toNat ((L).getD (j).toNat default)) (i+1) (j+1):=by
 obtain⟨i0,ij,jl,len,a,b⟩:=h;have ej:((L).getD (j).toNat default)=((l).getD (j).toNat default):=b j.toNat ah;rw [ej]at hp ⊢;refine⟨ah,ah,ah,by rw [List.length_set];exact len,?_,λk hk=> ?_⟩
 .rw [jo (d:=default) ah hj,if_pos hp,<-a,show(i+1).toNat=i.toNat+1 by omega,List.take_succ_eq_append_getElem (by rw [List.length_set];omega),List.getElem_set_self,List.take_set_of_le (Nat.le_refl _)]
 .rw [<-b k ah,List.getD_eq_getElem?_getD,List.getD_eq_getElem?_getD,List.getElem?_set_ne ah,<-List.getD_eq_getElem?_getD]
def BM.skip{P:Cac->Bool}{l L:List Cac}{i j:Int}(h:BM P l L i j)(hj:j<l.length)(hp:P ((L).getD (j).toNat default)=false):BM P l L i (j+1):=by
 obtain⟨i0,ij,jl,len,a,b⟩:=h;have ej:((L).getD (j).toNat default)=((l).getD (j).toNat default):=b j.toNat ah;rw [ej]at hp;refine⟨ah,ah,ah,len,?_,λk hk=>b k ah⟩;rw [jo (d:=default) ah hj,if_neg (by rw [hp];decide),List.append_nil,a]
def BM.fin{P:Cac->Bool}{l L:List Cac}{i j:Int}(h:BM P l L i j)(hj:¬j<l.length):L.take i.toNat=l.filter P:=by
 rw [h.a,List.take_of_length_le (by have:=h.jl;omega)]
def ac2{L:List Cac}{z:Cac}{i n:Int}(h0:0<=i)(h1:i<=L.length)(hn:(L.length:Int)=n):
  i<=((List.drop (Int.toNat 0) (List.take i.toNat L)++List.replicate (n-i).toNat z++List.drop (i+(n-i)).toNat (List.take n.toNat L)).length:Int)/\
  List.drop (Int.toNat 0) (List.take (0+(i-0)).toNat (List.drop (Int.toNat 0) (List.take i.toNat L)++List.replicate (n-i).toNat z++List.drop (i+(n-i)).toNat (List.take n.toNat L)))=L.take i.toNat:=by
 have e:(List.take i.toNat L).length=i.toNat:=by rw [List.length_take];omega
 rw [show(Int.toNat 0)=0 by rfl,List.drop_zero,List.drop_zero,show(0+(i-0)).toNat=i.toNat by omega,List.append_assoc];refine⟨by rw [List.length_append];omega,?_⟩;rw [List.take_append_of_le_length ah,List.take_of_length_le ah]
theorem aps{p1 f1 p2 f2}(U1:Y99 p1 f1)(U2:ao6 p2 f2)(e:Cac)(hw:e.words.length<1000)(ho:e.blk.ops.length<1000000):agk.F (p1,f1,p2,f2,()) (e,()) (λy=>y=cE e):=by
 have mE:∀c:Blk,Co.mk .blk (c.pc,c.len,c.ops,c.fin,c.x,c.y,c.k,())=c:=λ_=>rfl
 dsimp only [agk,gm,kJ];simp (disch:=omega) only [RR,CAB,mE,U1.hp e.blk ah,U1.hf e.blk ah,U2.hp e.words ah,U2.hf e.words ah]
def amm{p1 f1}(U1:acU p1 f1)(l:List Cac)(h:ShK l):X3.F (p1,f1,()) (l,()) (λy=>y=(l,())):=by
 have hlen:=h.1;have mC:=CAM;dsimp only [X3,gm,kJ];refine aB (λ(y:List Cac×Int×Int×List Cac×Unit)=>y.1=l/\y.2.1=l.length/\y.2.2.2.1=l.take y.2.2.1.toNat/\0<=y.2.2.1/\y.2.2.1<=l.length) (λy=>(l.length-y.2.2.1).toNat) ⟨rfl,rfl,by simp,by simp,by simp⟩ ?_;rintro⟨(l:List Cac),(m:Int),(i:Int),(o:List Cac),⟨⟩⟩ hI;dsimp only at hI ⊢;obtain⟨rfl,rfl,rfl,h1,h2⟩:=hI;have a:=h.at i.toNat;simp (disch:=omega) only [RR,U1.hp _ a.1 a.2.1,U1.hf _ a.1 a.2.1,mC];refine⟨λh4=>⟨ah,ah,?_,⟨cO h1 h4 rfl,ah,ah⟩,ah⟩,λh4=>by rw [List.take_of_length_le ah]⟩;have:=List.length_take_le' i.toNat l;omega
structure apt(pp:List Cac×Unit->Bool)(ff:List Cac×Unit->List Cac×Unit):Prop where
 hp:∀l,ShK l->pp (l,())=true
 hf:∀l,ShK l->ff (l,())=(l,())
theorem amn{p1 f1 p2 f2}(U1:Y94 p1 f1)(U2:Y32 p2 f2)(a b:List Cac)(ha:ShK a):X6.F (p1,f1,p2,f2,()) (a,b,()) (λy=>y=(bp (a=b),())):=by
 have mE:∀c:Blk,Co.mk .blk (c.pc,c.len,c.ops,c.fin,c.x,c.y,c.k,())=c:=λ_=>rfl
 have hlen:=ha.1;dsimp only [X6,gm,kJ];simp (disch:=omega) only [RR,CAB,mE];refine⟨λh=> ?_,λh=> ?_⟩
 .rw [bL (λe=>h (by rw [e]))]
 have hl:a.length=b.length:=by omega
 refine aB (λ(y:List Cac×List Cac×Int×Unit)=>y.1=a/\y.2.1=b/\0<=y.2.2.1/\y.2.2.1<=a.length/\All y.2.2.1 (λi=>a.getD i.toNat default=b.getD i.toNat default)) (λy=>(a.length-y.2.2.1).toNat) ⟨rfl,rfl,by simp,by simp,All.zero⟩ ?_;rintro⟨(l1:List Cac),(l2:List Cac),(i:Int),⟨⟩⟩ hI;dsimp only at hI ⊢;obtain⟨rfl,rfl,h1,h2,h3⟩:=hI;have A:=ha.at i.toNat;simp (disch:=omega) only [RR,CAB,mE,U1.hp (((l1).getD (i).toNat default)).blk (((l2).getD (i).toNat default)).blk ah,U1.hf (((l1).getD (i).toNat default)).blk (((l2).getD (i).toNat default)).blk ah,U2.hp (((l1).getD (i).toNat default)).words (((l2).getD (i).toNat default)).words ah,U2.hf (((l1).getD (i).toNat default)).words (((l2).getD (i).toNat default)).words ah,aV,kK];refine⟨λh4=>⟨h1,h4,h1,ah,Or.inr h1,Or.inr h4,Or.inr h1,Or.inr ah,λh5=> ?_,λh5=>⟨⟨ah,ah,h3.snoc (Cac.ext h5.1 h5.2)⟩,ah⟩⟩,λh4=> ?_⟩
 .rw [bL];intro e;rw [e]at h5;rcases h5 with h5 | h5<;>exact h5 rfl
 .rw [aP (kX hl (h3.le ah))]
structure aql(pp:List Cac×Cac×Unit->Bool)(ff:List Cac×Cac×Unit->List Cac×Unit):Prop where
 hp:∀l e,ShK l->e.words.length<1000->e.blk.ops.length<1000000->e.blk.pc<=1000000->pp (l,e,())=true
 hf:∀l e,ShK l->e.words.length<1000->e.blk.ops.length<1000000->e.blk.pc<=1000000->ff (l,e,())=(pR l e,())
structure apu(pp:List Cac×List Cac×Unit->Bool)(ff:List Cac×List Cac×Unit->Bool×Unit):Prop where
 hp:∀a b,ShK a->pp (a,b,())=true
 hf:∀a b,ShK a->ff (a,b,())=(bp (a=b),())
structure aqm(pp:List Int×Unit->Bool)(ff:List Int×Unit->List Cac×Cac×Unit):Prop where
 hp:∀c,By c->c.length<1000000000->pp (c,())=true
 hf:∀c,By c->c.length<1000000000->PuD (ff (c,()))
def aep(a b:List Int)(ha:a.length<1000000000):XU.F () (a,b,()) (λy=>y=(bp (a=b),())):=by
 dsimp only [XU,gm];simp (disch:=omega) only [RR];refine⟨λh=> ?_,λh=> ?_⟩
 .rw [bL (λe=>h (by rw [e]))]
 have hl:a.length=b.length:=by omega
 refine aB (λ(y:List Int×List Int×Int×Int×Unit)=>y.1=a/\y.2.1=b/\y.2.2.1=a.length/\0<=y.2.2.2.1/\y.2.2.2.1<=a.length/\All y.2.2.2.1 (λi=>a.getD i.toNat default=b.getD i.toNat default)) (λy=>(a.length-y.2.2.2.1).toNat) ⟨rfl,rfl,rfl,by simp,by simp,All.zero⟩ ?_;rintro⟨(l1:List Int),(l2:List Int),(n:Int),(i:Int),⟨⟩⟩ hI;dsimp only at hI ⊢;obtain⟨rfl,rfl,rfl,h1,h2,h3⟩:=hI;simp (disch:=omega) only [RR];refine⟨λh4=>⟨h1,h4,h1,ah,λh5=> ?_,λh5=>⟨⟨ah,ah,h3.snoc h5⟩,ah⟩⟩,λh4=> ?_⟩
 .rw [bL];intro e;rw [e]at h5;exact h5 rfl
 .rw [aP (kX hl (h3.le ah))]
def uZ{w mem:List Int}{pc:Int}(p0:0<=pc)(hw:0<w.length):There w mem pc↔pc+w.length<=mem.length/\(mem.take (pc+w.length).toNat).drop pc.toNat=w:=by
 have gt:∀k:Nat,k<w.length->pc+w.length<=mem.length->((mem.take (pc+w.length).toNat).drop pc.toNat).getD k default=((mem).getD (pc+k).toNat default):=λk hk h=>by
  rw [List.getD_eq_getElem?_getD,List.getElem?_drop,List.getElem?_take_of_lt ah,<-List.getD_eq_getElem?_getD,show pc.toNat+k=(pc+k).toNat by omega]
 refine⟨λh=> ?_,λ⟨h,e⟩ k k0 k1=>⟨ah,?_⟩⟩
 .have e:=(h ((w.length:Int)-1) ah ah).1;have hl:pc+w.length<=mem.length:=by omega
  refine⟨hl,List.ext_getElem (by rw [List.length_drop,List.length_take];omega) λn h1 h2=> ?_⟩;have:=(h n ah ah).2;rw [<-gt n h2 hl,getD_lt h1,Int.toNat_natCast,getD_lt h2]at this;exact this
 .have:=gt k.toNat ah h;rw [e,show pc+((k.toNat:Nat):Int)=pc+k by omega]at this;exact this.symm
def apv{p1 f1 p2 f2}(U1:Y1 p1 f1)(U2:Y32 p2 f2)(e:Cac)(mem:List Int)(hw:e.words.length<1000)(hm:mem.length<1000000000)(hp:e.blk.pc<=1000000):agf.F (p1,f1,p2,f2,()) (e,mem,()) (λy=>y=(cu mem e,())):=by
 dsimp only [agf,gm];simp (disch:=omega) only [RR,CAB,U1.hp,U1.hf];refine⟨λz=> ?_,λz=> ?_⟩
 .refine Prod.ext ?_ rfl;show decide (0<=e.blk.pc)=cu mem e;rw [Bool.eq_iff_iff,decide_eq_true_eq,cu,aV];exact⟨λh=>⟨h,λk k0 k1=>by omega⟩,λh=>h.1⟩
 .by_cases c:inB e.blk.pc 0 (mem.length-e.words.length)=true
  .obtain⟨c0,c1⟩:=dD.1 c;have w:IntKind.i64.wrap (e.blk.pc+e.words.length)=e.blk.pc+e.words.length:=w64 ah ah;have dl:(List.drop e.blk.pc.toNat (List.take (e.blk.pc+e.words.length).toNat mem)).length<1000000000:=by rw [List.length_drop,List.length_take];omega
   rw [w,c,U2.hf _ _ dl];refine⟨Or.inr c0,Or.inr ah,Or.inr ah,Or.inr (U2.hp _ _ dl),?_⟩;rw [Bool.true_and];refine Prod.ext (xD ?_) rfl;rw [uZ c0 ah];exact⟨λh=>⟨c0,ah,h⟩,λh=>h.2.2⟩
  .have c':inB e.blk.pc 0 (mem.length-e.words.length)=false:=by simpa using c
   rw [c'];refine⟨Or.inl rfl,Or.inl rfl,Or.inl rfl,Or.inl rfl,?_⟩;rw [Bool.false_and];refine Prod.ext (bL λh=>c (dD.2 ⟨h.1,?_⟩)).symm rfl;have:=((uZ h.1 ah).1 h.2).1;omega
def FP(P:Cac->Bool)(l:List Cac)(k:Int):Prop:=(k= -1/\∀j:Int,0<=j->j<l.length->P ((l).getD (j).toNat default)=true)\/(0<=k/\k<l.length/\P ((l).getD (k).toNat default)=false/\∀j:Int,0<=j->j<k->P ((l).getD (j).toNat default)=true)
def apw{p1:Cac×List Int×Unit->Bool}{f1:Cac×List Int×Unit->Bool×Unit}(hp1:∀e mem,e.words.length<1000->mem.length<1000000000->e.blk.pc<=1000000->p1 (e,mem,())=true)(hf1:∀e mem,e.words.length<1000->mem.length<1000000000->e.blk.pc<=1000000->f1 (e,mem,())=(cu mem e,()))(e:Cac)(mem:List Int)(hw:e.words.length<1000)(hm:mem.length<1000000000)(hp:e.blk.pc<=1000000):agh.F (p1,f1,()) (e,mem,()) (λy=>y=(!cu mem e,mem,())):=by
 dsimp only [agh,gm];simp (disch:=omega) only [RR,hp1 e mem hw hm hp,hf1 e mem hw hm hp]
structure amo(pp:Cac×List Int×Unit->Bool)(ff:Cac×List Int×Unit->Bool×List Int×Unit):Prop where
 hp:∀e mem,e.words.length<1000->mem.length<1000000000->e.blk.pc<=1000000->pp (e,mem,())=true
 hf:∀e mem,e.words.length<1000->mem.length<1000000000->e.blk.pc<=1000000->ff (e,mem,())=(!cu mem e,mem,())
def amq{p1 f1}(U1:amo p1 f1)(l:List Cac)(mem:List Int)(h:ShK l)(hm:mem.length<1000000000):XV.F (p1,f1,()) (l,mem,()) (λy=>y.2.1=mem/\FP (cu mem) l y.1):=by
 have hl:=h.1;dsimp only [XV,gm];refine aB (λ(y:List Cac×Int×Int×List Int×Unit)=>y.1=l/\y.2.1=l.length/\0<=y.2.2.1/\y.2.2.1<=l.length/\y.2.2.2.1=mem/\∀j:Int,0<=j->j<y.2.2.1->cu mem ((l).getD (j).toNat default)=true) (λy=>(l.length-y.2.2.1).toNat) ⟨rfl,rfl,by simp,by simp,rfl,λj h0 h1=>absurd h1 (by simp;omega)⟩ ?_;rintro⟨(l:List Cac),(n:Int),(i:Int),(mem:List Int),⟨⟩⟩ hI;dsimp only at hI ⊢;obtain⟨rfl,rfl,h1,h2,rfl,h3⟩:=hI;obtain⟨a1,a2,a3⟩:=h.at i.toNat;simp (disch:=omega) only [RR,U1.hp _ mem a1 hm a3,U1.hf _ mem a1 hm a3];refine⟨λg=>⟨h1,g,λe=>Or.inr ⟨h1,g,e,h3⟩,λe=>⟨⟨ah,ah,λj j0 j1=> ?_⟩,ah⟩⟩,λg=>Or.inl ⟨rfl,λj j0 j1=>h3 j j0 ah⟩⟩;by_cases c:j<i
 .exact h3 j j0 c
 .rw [show j=i by omega];exact e
def amr{p1 f1}(U1:amo p1 f1){p2:List Cac×List Int×Unit->Bool}{f2:List Cac×List Int×Unit->Int×List Int×Unit}(hp2:∀l mem,ShK l->mem.length<1000000000->p2 (l,mem,())=true)(hf2:∀l mem,ShK l->mem.length<1000000000->(f2 (l,mem,())).2.1=mem/\FP (cu mem) l (f2 (l,mem,())).1)(l:List Cac)(mem:List Int)(h:ShK l)(hm:mem.length<1000000000):XY.F (p1,f1,p2,f2,()) (l,mem,()) (λy=>y=(mem,l.filter (cu mem),())):=by
 obtain⟨hp1,hf1⟩:=U1;have hl:=h.1;have I:=hf2 l mem h hm;have P2:=hp2 l mem h hm;dsimp only [XY,gm];simp (disch:=omega) only [RR,P2];rw [I.1];have F:=I.2;generalize (f2 (l,mem,())).1=k at*;refine⟨λg=> ?_,λg=> ?_⟩
 .rw [filter_all (d:=default) λi hi=> ?_];rcases F with⟨_,f⟩ | ⟨f,_⟩
  .simpa using f i ah ah
  .omega
 .obtain⟨k0,k1,k2,k3⟩:0<=k/\k<l.length/\cu mem ((l).getD (k).toNat default)=false/\∀j:Int,0<=j->j<k->cu mem ((l).getD (j).toNat default)=true:=by
   rcases F with⟨f,_⟩ | f
   .exact absurd f g
   .exact f
  have w:IntKind.i64.wrap (k+1)=k+1:=w64 ah ah;rw [w];refine aB (λ(y:Int×Int×List Cac×List Int×Unit)=>y.2.2.2.1=mem/\BM (cu mem) l y.2.2.1 y.1 y.2.1) (λy=>(l.length-y.2.1).toNat) ⟨rfl,BM.start k0 k1 k2 k3⟩ ?_;rintro⟨(i:Int),(j:Int),(L:List Cac),(mem:List Int),⟨⟩⟩ hI;dsimp only at hI ⊢;obtain⟨rfl,D⟩:=hI;have i0:=D.i0;have ij:=D.ij;have jl:=D.jl;have len:=D.len;have ll:(L.length:Int)=l.length:=by omega
  by_cases c:j<l.length
  .have ej:((L).getD (j).toNat default)=((l).getD (j).toNat default):=D.b j.toNat ah;obtain⟨a1,a2,a3⟩:=h.at j.toNat;rw [<-ej]at a1 a3;have P1:=hp1 _ mem a1 hm a3;have H1:=hf1 _ mem a1 hm a3;by_cases d:cu mem ((L).getD (j).toNat default)=true
   .simp (disch:=omega) only [RR,ll,c,P1,H1,d];exact⟨ah,ah,ah,ah,ah,ah,D.keep c d,ah⟩
   .have d:cu mem ((L).getD (j).toNat default)=false:=by simpa using d
    simp (disch:=omega) only [RR,ll,c,P1,H1,d];exact⟨ah,ah,D.skip c d,ah⟩
  .simp (disch:=omega) only [RR,ll,c];obtain⟨z1,z2⟩:=ac2 (L:=L) (n:=l.length) (z:=Co.mk .cac ([],0,0,[],0,0,0,0,())) i0 ah ll;exact⟨ah,ah,ah,ah,ah,ah,ah,ah,z1,ah,ah,Int.le_trans (show 0+(i-0)<=i by omega) z1,Prod.ext rfl (Prod.ext (z2.trans (D.fin c)) rfl)⟩
def apx{p1 f1}(U1:apt p1 f1){p2:List Cac×List Int×Unit->Bool}{f2:List Cac×List Int×Unit->List Int×List Cac×Unit}(hp2:∀l mem,ShK l->mem.length<1000000000->p2 (l,mem,())=true)(hf2:∀l mem,ShK l->mem.length<1000000000->f2 (l,mem,())=(mem,l.filter (cu mem),()))(l:List Cac)(mem:List Int)(h:ShK l)(hm:mem.length<1000000000):agl.F (p1,f1,p2,f2,()) (l,mem,()) (λy=>y=(l.filter (cu mem),())):=by
 have sh:=Cc h (cu mem);dsimp only [agl,gm];simp (disch:=omega) only [RR,U1.hp l h,U1.hf l h,hp2 l mem h hm,hf2 l mem h hm,U1.hp _ sh,U1.hf _ sh]
def sub_one{l a b:List Cac}{e:Cac}{k:Int}(h:l=a++e::b)(ha:(a.length:Int)=k):List.drop k.toNat (List.take (k+(k+1-k)).toNat l)=[e]/\List.drop k.toNat (List.take (k+1).toNat l)=[e]:=by
 have e1:(k+(k+1-k)).toNat=a.length+1:=by omega
 have e2:(k+1).toNat=a.length+1:=by omega
 have e3:k.toNat=a.length:=by omega
 rw [e1,e2,e3,h,List.take_length_add_append,List.take_succ_cons,List.take_zero,List.drop_left];exact⟨rfl,rfl⟩
theorem ams{p1 f1 p2 f2 p3 f3 p4 f4 p5 f5}(U1:acV p1 f1)(U2:apu p2 f2)(U3:Y32 p3 f3)(U4:Y47 p4 f4)(U5:acV p5 f5){p6:List Int×Unit->Bool}{f6:List Int×Unit->List Cac×List Int×Unit}(hp6:∀c,By c->c.length<1000000000->p6 (c,())=true)(hf6:∀c,By c->c.length<1000000000->ShK (f6 (c,())).1/\(f6 (c,())).2.1.length<1000000000/\∀x∈(f6 (c,())).1,0<x.words.length)(c:List Int)(hc:By c):X8.F (p1,f1,p2,f2,p3,f3,p4,f4,p5,f5,p6,f6,()) (c,()) (λy=>y=(true,())):=by
 obtain⟨hp1,hf1⟩:=U1;obtain⟨hp2,hf2⟩:=U2;obtain⟨hp3,hf3⟩:=U3;obtain⟨hp4,hf4⟩:=U4;obtain⟨hp5,hf5⟩:=U5;dsimp only [X8,gm];by_cases hl:1048576< (c.length:Int)
 .simp (disch:=omega) only [RR,hl]
 obtain⟨D1,D2,D3⟩:=hf6 c hc ah;have P6:=hp6 c hc ah;generalize hy:f6 (c,())=y at*;obtain⟨l,mem,⟨⟩⟩:=y;dsimp only at D1 D2 D3;have P1:=hp1 l mem D1 D2;have H1:=hf1 l mem D1 D2;have P5:=hp5 l mem D1 D2;have H5:=hf5 l mem D1 D2;have shX:=Cc D1 (cu mem);have Q1:=hp1 _ mem shX D2;have R1:=hf1 _ mem shX D2;rw [List.filter_filter,show(λa=>cu mem a&&cu mem a)=cu mem from funext λa=>Bool.and_self _]at R1;generalize hX:l.filter (cu mem)=X at*;have P2:=hp2 X X shX;have H2:=hf2 X X shX;rw [aP rfl]at H2;simp (disch:=omega) only [RR,hl,P6,hy,P1,H1,P5,H5,P2,H2,Q1,R1];refine aB (λ(y:List Cac×List Int×Int×Int×List Cac×Unit)=>y.1=l/\y.2.1=mem/\y.2.2.1=((l.take y.2.2.2.1.toNat).filter (cu mem)).length/\0<=y.2.2.2.1/\y.2.2.2.1<=l.length/\y.2.2.2.2.1=X) (λy=>(l.length-y.2.2.2.1).toNat) ⟨rfl,rfl,by simp,by simp,by simp,rfl⟩ ?_;rintro⟨(l':List Cac),(mem':List Int),(n:Int),(k:Int),(X':List Cac),⟨⟩⟩ hI;dsimp only at hI ⊢;obtain⟨rfl,rfl,hn,k0,k1,rfl⟩:=hI;have l1:=D1.1;have x1:=shX.1;have ft:=lY (cu mem') l' k.toNat;by_cases c:k<l'.length
 .have fs:=jo (d:=default) (P:=cu mem') k0 c;obtain⟨a1,a2,a3⟩:=D1.at k.toNat;have a4:0< (((l').getD (k).toNat default)).words.length:=D3 _ (by rw [getD_lt ah];exact List.getElem_mem _);have ls:l'=l'.take k.toNat++((l').getD (k).toNat default)::l'.drop (k.toNat+1):=by rw [getD_lt ah,<-List.drop_eq_getElem_cons,List.take_append_drop]
  have dp:cu mem' ((l').getD (k).toNat default)=bp (0<=(((l').getD (k).toNat default)).blk.pc/\There (((l').getD (k).toNat default)).words mem' (((l').getD (k).toNat default)).blk.pc):=rfl;have sl:=(sub_one ls (by rw [List.length_take];omega):_/\List.drop k.toNat (List.take (k+1).toNat l')=[((l').getD (k).toNat default)]).2;generalize ((l').getD (k).toNat default)=e at*;have sh1:ShK [e]:=⟨by show 1<1000;decide,λx hx=>by rw [List.mem_singleton]at hx;rw [hx];exact⟨a1,a2,a3⟩⟩;have w1:IntKind.i64.wrap ((mem'.length:Int)-e.words.length)=(mem'.length:Int)-e.words.length:=w64 ah ah;have w2:0<=e.blk.pc->IntKind.i64.wrap (e.blk.pc+e.words.length)=e.blk.pc+e.words.length:=λh=>w64 ah ah
  have w3:IntKind.i64.wrap (n+1)=n+1:=w64 ah ah;by_cases q:0<=e.blk.pc/\e.blk.pc<=(mem'.length:Int)-e.words.length
  .have w4:=w2 q.1;have dl:(List.drop e.blk.pc.toNat (List.take (e.blk.pc+e.words.length).toNat mem')).length<1000000000:=by rw [List.length_drop,List.length_take];omega
   have P3:=hp3 _ e.words dl;have H3:=hf3 _ e.words dl;have th:=uZ (w:=e.words) (mem:=mem') q.1 a4;simp (disch:=omega) only [RR,CAB,c,w1,w3,w4,q.1,q.2,P3,H3,decide_true,Bool.and_self,Bool.true_and];refine⟨k0,k0,k0,ah,ah,k0,λd=> ?_,λd=> ?_⟩
   .have d:=aV.1 d;have dt:cu mem' e=true:=aP ⟨q.1,th.2 ⟨ah,d⟩⟩;rw [if_pos dt]at fs;have xs:X'=(l'.take k.toNat).filter (cu mem')++e::(l'.drop (k.toNat+1)).filter (cu mem'):=by
     rw [<-hX]
     conv=>lhs;rw [ls]
     rw [List.filter_append,List.filter_cons,if_pos dt]
    have xl:(X'.length:Int)=n+1+((l'.drop (k.toNat+1)).filter (cu mem')).length:=by
     conv=>lhs;rw [xs]
     rw [List.length_append,List.length_cons];omega
    have xe:=(sub_one xs hn.symm).1;have z:=hf2 [e] [e] sh1;rw [aP rfl]at z;rw [xe,sl,z];refine⟨Or.inr ah,Or.inr ah,Or.inr ah,Or.inr ah,Or.inr ah,Or.inr ah,Or.inr ah,Or.inr ah,Or.inr ah,Or.inr (hp2 _ _ sh1),λy=> ?_,λ_=>⟨⟨?_,ah,ah⟩,ah⟩⟩
    .rcases y with y | y
     .omega
     .cases y
    .rw [fs,List.length_append,List.length_singleton];omega
   .have dt:cu mem' e=false:=bL λh=>(kK.1 d) (th.1 h.2).2
    rw [if_neg (by rw [dt];decide),List.append_nil]at fs;exact⟨⟨by rw [fs];exact hn,ah,ah⟩,ah⟩
  .have B:(decide (0<=e.blk.pc)&&decide (e.blk.pc<=(mem'.length:Int)-e.words.length))=false:=by
    rw [Bool.and_eq_false_iff,decide_eq_false_iff_not,decide_eq_false_iff_not];omega
   have dt:cu mem' e=false:=bL λh=>q ⟨h.1,by have:=((uZ h.1 a4).1 h.2).1;omega⟩
   rw [if_neg (by rw [dt];decide),List.append_nil]at fs;simp (disch:=omega) only [RR,CAB,c,w1,w3,B];refine⟨k0,Or.inr k0,λy=>absurd y.1 q,λ_=>⟨⟨by rw [fs];exact hn,ah,ah⟩,ah⟩⟩
 .simp (disch:=omega) only [RR,c];have e1:n=X'.length:=by rw [hn,<-hX,List.take_of_length_le ah]
  rw [hf4,e1];exact⟨Or.inr hp4,by simp⟩
structure EoD(b:List Int)(p:Int)(y:Eng×List Int×Int×Unit):Prop where
 m:MSh y.1.au
 o:y.1.au.outs.length<=2000
 k:ShK y.1.cache
 kl:y.1.cache.length<=10
 c:ShC y.1.aZ
 cl:y.1.aZ.length<=10
 b:y.2.1=b
 lo:p<=y.2.2.1
 hi:y.2.2.1<=p+40000000
def ShK.set{l:List Cac}(h:ShK l)(i:Nat){x:Cac}(h1:x.words.length<1000)(h2:x.blk.ops.length<1000000)(h3:x.blk.pc<=1000000):ShK (l.set i x):=by
 refine⟨by rw [List.length_set];exact h.1,λc hc=> ?_⟩;rcases List.mem_or_eq_of_mem_set hc with g | rfl
 .exact h.2 c g
 .exact⟨h1,h2,h3⟩
end Go.TX.F
namespace Go.TX
open Go Go.AE
def enters_of{P:Program}{f:FuncId}{fn:Func}{c:Code}(hf:P.funcs[f]? =some fn)(hname:(fn.name== "runtime.NumGoroutine")=false)(hb:fn.body=some c):Enters P f:=by
 intro args w;have h1:fn.name≠ "runtime.NumGoroutine" :=by simpa using hname
 simp [callFunc,hf,h1,hb,mark]
def RU(P:Program):Nat->List Field->Bool
 | _,[]=>true
 | k,f::fs=> !(f.name== "_")&&f.offset==k&& (match P.underlying f.type with | some (.int _)=>true | _=>false)&&RU P (k+1) fs
def RV{P:Program}(w:World)(d:Nat)(xs ys:List Int)(hl:xs.length=ys.length):∀(fs:List Field) (k:Nat),RU P k fs=true->k+fs.length=xs.length->
  (Op.eqFields (d+1) (xs.map (Value.int .i64)).toArray (ys.map (Value.int .i64)).toArray fs).run P w= .ok (xs.drop k==ys.drop k) w
 | [],k,_,h2=>by
  rw [List.drop_eq_nil_of_le (show xs.length<=k by simp only [List.length_nil]at h2;omega),List.drop_eq_nil_of_le (show ys.length<=k by simp only [List.length_nil]at h2;omega)];simp [Op.eqFields]
 | f::fs,k,h1,h2=>by
  simp only [List.length_cons]at h2;simp only [RU,Bool.and_eq_true,Bool.not_eq_true',beq_eq_false_iff_ne,beq_iff_eq]at h1;obtain⟨⟨⟨n1,n2⟩,n3⟩,n4⟩:=h1;have hk:k<xs.length:=by omega
  have hk':k<ys.length:=by omega
  obtain⟨kd,hu⟩:∃kd,P.underlying f.type=some (.int kd):=by
   cases hu:P.underlying f.type with
   | none=>rw [hu]at n3;cases n3
   | some z=>cases z<;>(first | exact⟨_,rfl⟩ | (rw [hu]at n3;cases n3))
  have pk:P.plainKey f.type=true:=by unfold Program.plainKey;rw [hu]
  have p1:=run_part_plain w pk (xs:=(xs.map (Value.int .i64)).toArray) (off:=f.offset) (v:= .int .i64 xs[k]) (by rw [n2];simp [hk]);have p2:=run_part_plain w pk (xs:=(ys.map (Value.int .i64)).toArray) (off:=f.offset) (v:= .int .i64 ys[k]) (by rw [n2];simp [hk']);have ih:=RV w d xs ys hl fs (k+1) n4 ah;simp only [Op.eqFields,if_pos n1,Sem.run_bind,p1,p2,Result.andThen_ok,run_equalIn_int w d f.type .i64 kd _ _ hu];have e:(xs.drop k==ys.drop k)=((xs[k]==ys[k])&& (xs.drop (k+1)==ys.drop (k+1))):=by rw [List.drop_eq_getElem_cons hk,List.drop_eq_getElem_cons hk'];rfl
  rw [e];by_cases c:(xs[k]==ys[k])=true
  .rw [c];simp only [Bool.not_true,Bool.false_eq_true,if_false,ih,Bool.true_and]
  .have c2:(xs[k]==ys[k])=false:=by simpa using c
   rw [c2];simp only [Bool.not_false,if_true,Sem.run_pure,Bool.false_and]
def ahQ{P:Program}{t:TypeId}{n:Nat}(hu:P.underlying t=some (.struct (P.fieldsOf t)))(hs:P.stoodInHeld t=false)(hg:P.eqGuardType P.depth t=false)(hf:RU P 0 (P.fieldsOf t).toList=true)(hn:(P.fieldsOf t).size=n)(xs ys:List Int)(hx:xs.length=n)(hy:ys.length=n)(w:World):
  (Op.equal t (.agg (xs.map (Value.int .i64)).toArray) (.agg (ys.map (Value.int .i64)).toArray)).run P w= .ok (xs==ys) w/\
  (eqGuard .eql t (.tmp 0) (.tmp 0) (.agg (xs.map (Value.int .i64)).toArray) (.agg (ys.map (Value.int .i64)).toArray)).run P w= .ok () w:=by
 refine⟨?_,run_eqGuard_agg w _ _ _ _ _ _ hg⟩;show(Op.equalIn (9999+1) t _ _).run P w=_;rw [run_equalIn_struct w 9999 t _ _ hu hs,RV w 9998 xs ys ah _ 0 hf (by rw [Array.length_toList];omega)];rfl
abbrev apy:Sig:={args:=[.c (.rows true .u8)],objs:=[],res:=[.c .bool],dP:=[]}
def entry(W:World):Ctx:={K:=λ_ b=>b<W.heap.size,ν:=λ_=>none,n:=0}
def Pf(W:World):bI (entry W) W []:=
 ⟨λl o h=>(by cases h),λl o l' o' b h=>(by cases h),λf b ⟨l,o,h,_⟩=>(by cases h),λf b h=>h,λb h=>h⟩
def KL{W W':World}{c':Ctx}{h':Heap}(g:Grow (entry W) W [] c' W' h'):RowKit.Below W.heap.size W W':=
 ⟨g.os,g.tape,g.output,g.size,λk hk=>g.kept k hk λ⟨l,o,h,_⟩=>by cases h⟩
def ac3{c:Ctx}{w:World}{v:Value}{r:PV}{N:NM}{b:Bool}(h1:bG c w v r)(h2:PVR N r (.c (.d true (.bool b)))):v= .bool b:=by
 cases h2 with
 | one h=>
  cases h with
  | c h=>
   cases h with
   | d h3 _=>
    subst h3;cases h1 with
    | c _ _ h4=>cases h4 with
     | d _ _ _ h5=>cases h5;rfl
  | agg h=>cases h
def apz{E:Tab}{f:FuncId}{c:Ct aI apy}(hc:kC E f (jC c)){xs:List Int}{W:World}{v:Value}(hv:dH (λb=>b<W.heap.size) W v (.rows 1 (aO .u8 xs)))
  (hg:oP E (entry W) W) (hp:c.pre (xs,())=true):Go.Calls E.P f #[v] W λe W'=>e= .returned (.bool (c.fn (xs,())).1)/\RowKit.Below W.heap.size W W':=by
 refine(hc.calls [.c (.d true (.rows 1 (aO .u8 xs)))] [] 0 (λr _ _=>PVR (nmh []) r (.c (.d true (.bool (c.fn (xs,())).1)))) ?_ (entry W) W [v] rfl (.cons (.c _ _ (.d true _ _ hv)) .nil) (Pf W) hg).mono ?_
 .refine⟨0,[.c (.d true (.rows .u8 xs))],[],.cons (.one (.c (.d rfl λ_=> .inl rfl))) .nil,⟨λl o h=>(by cases h),λ_ _=>rfl⟩,rfl,_,rfl,?_,_,_,rfl,?_⟩
  .intro b hb;rcases List.mem_append.1 hb with h | h
   .cases h
   .rw [List.mem_singleton]at h;rw [h];exact hp
  .intro r _ _ h _ _ _;exact h
 .rintro e W' he;cases e with
  | returned u=>
   obtain⟨c',r,h',j,g,_,_,h1,h2⟩:=he;exact⟨by rw [ac3 h1 h2],KL g⟩
  | outgrown=>exact he.elim
  | panicked _=>exact he.elim
open Go.RowKit Go.ChangeShapes Go.WideShapes Go.ChangeAt in
def ZM{H:Type}{enc:TypeId×Value->H}{P:Program}{t e:TypeId}(ht:P.underlying t=some (.slice e))(he:P.underlying e=some (.int .u8))(hc:P.cellsOf e=1){W:World}{base:Nat}{v:Value}{d:DataW H}{p:List MemPlace}
  (hval:Value.okWide P W .any base t v) (h:DataW.Trod enc P W 0 (λ_=>true) true t v d p) (hlt:∀x∈p,x.block<W.heap.size):
  ∃xs:List Int,dH (λb=>b<W.heap.size) W v (.rows 1 (aO .u8 xs))/\∀z∈xs,0<=z/\z<=255:=by
 obtain⟨a0,len,cap,rfl⟩:=okWide_slice ht hval;obtain⟨fuel,hf⟩:=h;rcases open_ints ht he hc hf with⟨hcs,hx⟩ | ⟨a,len',cap',zs,hcs,_,hl,hm,hz,hx,hcell,hwz⟩
 .simp [Value.cells]at hcs;obtain⟨rfl,rfl,rfl⟩:=hcs;exact⟨[],.none _ _ _,λ_ h=>by cases h⟩
 .simp [Value.cells]at hcs;obtain⟨rfl,rfl,rfl⟩:=hcs;simp only [Prod.mk.injEq]at hx;obtain⟨rfl,rfl⟩:=hx;simp only [if_true]at hz;have rng:∀z∈zs,0<=z/\z<=255:=λz hz=>by
   obtain⟨i,hi,rfl⟩:=List.getElem_of_mem hz;have:=range_u8 hwz i
   rwa [List.getElem?_eq_getElem hi]at this
  refine⟨zs.take len,?_,λz h=>rng z (List.mem_of_mem_take h)⟩;by_cases h0:len=0
  .subst h0;exact .none _ _ _
  .obtain⟨b,off,spot⟩:=a;have hspot:spot=none:=by simpa [Addr.add]using World.cell?_spot (hcell 0 ah)
   subst hspot;have hbW:b<W.heap.size:=hlt (.cell b off) (MemPlace.mem_row.2 ⟨0,ah,by simp⟩);have hlen:(aO .u8 (zs.take len)).length=len:=by simp only [aO,List.length_map,List.length_take];omega
   have hget:∀i,i<len->(aO .u8 (zs.take len)).getD i []=[.int .u8 (zs.getD i 0)]:=λi hi=>by
    simp only [aO,List.getD,List.getElem?_map,List.getElem?_take_of_lt hi,List.getElem?_eq_getElem (show i<zs.length by omega)];rfl
   refine .rows b off cap 1 len _ (λi j=> .int .u8 (zs.getD i 0)) hbW hlen.symm hl (λi j hi hj=> ?_) (λi hi=> ?_) (λi j hi hj=> ?_)
   .rw [hlen]at hi;have:=hcell i ah;rw [add_plain]at this;rw [show off+i*1+j=off+i by omega];exact this
   .rw [hlen]at hi;rw [hget i hi];rfl
   .rw [hlen]at hi;have hj0:j=0:=by omega
    subst hj0;unfold gd;rw [hget i hi];exact .int _ _
end Go.TX
namespace Go.TX.Seat
open Go Go.AE Go.TX Go.TX.F Go.Proofs
set_option maxRecDepth 100000
theorem apA:∀t n,E.ieq t=some n->∀(xs ys:List Int),xs.length=n->ys.length=n->∀w,
  (Op.equal t (.agg (xs.map (Value.int .i64)).toArray) (.agg (ys.map (Value.int .i64)).toArray)).run E.P w= .ok (xs==ys) w/\
  (eqGuard .eql t (.tmp 0) (.tmp 0) (.agg (xs.map (Value.int .i64)).toArray) (.agg (ys.map (Value.int .i64)).toArray)).run E.P w= .ok () w:=by
 intro t n h;obtain⟨c,hc,rfl⟩:∃c,ieq t=some c/\c.size=n:=by
  have h':(ieq t).map (λc=>c.size)=some n:=h;cases hi:ieq t with
  | none=>rw [hi]at h';cases h'
  | some c=>rw [hi]at h';cases h';exact⟨c,rfl,rfl⟩
 unfold ieq at hc;split at hc
 all_goals first | (cases hc;exact ahQ (by kernel_rfl) (by kernel_rfl) (by kernel_rfl) (by kernel_rfl) (by kernel_rfl)) | cases hc
theorem hE:aH E:=⟨aoO,apA⟩
theorem apB:∀t c,X.ieq t=some c->(c= .ins/\E.ieq t=some 4)\/(c= .iop/\E.ieq t=some 5):=by
 intro t c h;have h:ieq t=some c:=h;have e:E.ieq t=(ieq t).map λc=>c.size:=rfl
 rw [e,h];unfold ieq at h;split at h
 all_goals first | (cases h;first | exact Or.inl ⟨rfl,rfl⟩ | exact Or.inr ⟨rfl,rfl⟩) | cases h
theorem xok:XOK X E:=⟨rfl,λg c h=>(by
    first
    | (cases h;done)
    | (dsimp only [X] at h
       split at h
       · rename_i e;cases h;unfold E;dsimp only;rw [if_pos e];rfl
       · cases h)),apB⟩
theorem hm:E.P.follows .mixedOrders=true:=by kernel_rfl
structure HL(l:List (Nat×Sig)) where
 C:Cs (std 0) l
 h:∀p∈csl (std 0) l C,kC E p.1 (jC p.2.2)
abbrev hn : HL [] := ⟨(), λ_ h => by cases h⟩
abbrev hk{f : FuncId}{s : Sig}{c : Ct aI s}{l : List (Nat × Sig)}(h : kC E f (jC c))(r : HL l) : HL ((f, s) :: l) := ⟨(c.pre, c.fn, r.C), λp hp => by
 rcases List.mem_cons.1 hp with rfl | hp
 .exact h
 .exact r.h p hp⟩
structure Mt{lk:aF}{s:Sig}{an:Ann}{fn:Func}{l:List (Nat×Sig)}(f:FuncId)(g:Gt lk X E an s fn l) where
 H:HL l
 k:Fn E f (g.F H.C) (cn (g.F H.C))
section
variable {lk:aF} {s:Sig} {an:Ann} {fn:Func} {l:List (Nat×Sig)} {f:FuncId}
@[irreducible] noncomputable def Mt.c {g : Gt lk X E an s fn l} (t : Mt f g) : Ct aI s := cn (g.F t.H.C)
theorem Mt.cs{g:Gt lk X E an s fn l}(t:Mt f g){x:gJ s.inp}{Q:gJ s.out->Prop}(h:g.F t.H.C x Q):t.c.pre x=true/\Q (t.c.fn x):=by unfold Mt.c;exact t.k.cs h
theorem Mt.ok{g:Gt lk X E an s fn l}(t:Mt f g):kC E f (jC t.c):=by unfold Mt.c;exact t.k.ok
@[reducible] noncomputable def hc {r : List (Nat × Sig)} {g : Gt lk X E an s fn l} (t : Mt f g) (h : HL r) : HL ((f, s) :: r) := hk t.ok h
theorem mkF(hf:E.P.funcs[f]? =some fn)(g:Gt lk X E an s fn l)(H:HL l)
 (hb:fn.body.isSome=true:=by rfl) (hn:(fn.name== "runtime.NumGoroutine")=false:=by kernel_rfl):Fn E f (g.F H.C) (cn (g.F H.C)):=aoL hE xok hm hf hb (λ_=>enters_of hf hn) H.h (g.h H.C)
noncomputable def mk (g:Gt lk X E an s fn l) (hf:E.P.funcs[f]? =some fn) (H:HL l)
 (hb:fn.body.isSome=true:=by rfl) (hn:(fn.name== "runtime.NumGoroutine")=false:=by kernel_rfl):Mt f g:=⟨H,mkF hf g H hb hn⟩
end
end Go.TX.Seat
namespace Go.TX.F
open Go Go.AE Go.TX Go.TX.Seat Go.Proofs
set_option maxRecDepth 100000
set_option maxHeartbeats 4000000
noncomputable def Ph:=mk MC Tryz.func21 hn
def ahR:=λb hb hl=>(Ph.cs (Yu b hb hl:)).1
def ahS:=λb hb hl=>(Ph.cs (Yu b hb hl:)).2
noncomputable def gX:=mk ME Tryz.func23 hn
def iO:=λn b p hb h1 h2=>(gX.cs (Yv n b p hb h1 h2:)).1
def iP:=λn b p hb h1 h2=>(gX.cs (Yv n b p hb h1 h2:)).2
noncomputable def y9:=mk Wt Tryz.func58 hn
def Ep:=λa=>(y9.cs (ad4 a:)).1
def Er:=λa=>(y9.cs (ad4 a:)).2
noncomputable def Pj:=mk MF Tryz.func57 (hc y9 hn)
def sD:=λl h=>Pj.cs (ahm ⟨Ep,Er⟩ l h:)
def ZN:=λl h=>(sD l h).1
def ZO:=λl h=>(sD l h).2
noncomputable def jI:=mk MG Tryz.func59 hn
def kg:=λa b c=>(jI.cs (Yh a b c:)).1
def ku:=λa b c=>(jI.cs (Yh a b c:)).2
noncomputable def F5:=mk Wu Tryz.func42 (hc y9 (hc jI (hc Pj hn)))
def za:=λm h=>F5.cs (alM ⟨Ep,Er⟩ ⟨kg,ku⟩ ⟨ZN,ZO⟩ m h:)
def KM:=λm h=>(za m h).1
def KN:=λm h=>(za m h).2
noncomputable def AA:=mk MH Tryz.func91 hn
def IC:=λm h=>(AA.cs (Zl m h:)).1
def IE:=λm h=>(AA.cs (Zl m h:)).2
noncomputable def aer:=mk Wv Tryz.func62 (hc F5 (hc AA hn))
def vM:=λm h=>aer.cs (al8 ⟨KM,KN⟩ ⟨IC,IE⟩ m h:)
def amt:=λm h=>(vM m h).1
def amu:=λm h=>(vM m h).2
noncomputable def aes:=mk Ww Tryz.func63 (hc Pj hn)
def vN:=λw i hw hi=>aes.cs (alS ⟨ZN,ZO⟩ w i hw hi:)
def amv:=λw i hw hi=>(vN w i hw hi).1
def amw:=λw i hw hi=>(vN w i hw hi).2
noncomputable def Pm:=mk MI Tryz.func27 (hc gX hn)
def oL:=λn b p hb h1 h2=>Pm.cs (agN ⟨iO,iP⟩ n b p hb h1 h2:)
def ZP:=λn b p hb h1 h2=>(oL n b p hb h1 h2).1
def ZQ:=λn b p hb h1 h2=>(oL n b p hb h1 h2).2
noncomputable def Pn:=mk MK Tryz.func104 hn
def ahT:=λi=>(Pn.cs (sj i:)).1
def ahU:=λi=>(Pn.cs (sj i:)).2
noncomputable def KO:=mk Wx Tryz.func71 (hc jI (hc Pn hn))
def ze:=λi=>KO.cs (EJ ⟨kg,ku⟩ ahT ahU i:)
def RX:=λi=>(ze i).1
def RY:=λi=>(ze i).2
noncomputable def ZR:=mk Wy Tryz.func48 (hc KO hn)
def vO:=λi=>ZR.cs (alP ⟨RX,RY⟩ i:)
def aeu:=λi=>(vO i).1
def aev:=λi=>(vO i).2
noncomputable def ZT:=mk Wz Tryz.func29 (hc ZR hn)
def qx:=λl hl=>ZT.cs (alR ⟨aeu,aev⟩ l hl:)
def aew:=λl hl=>(qx l hl).1
def aex:=λl hl=>(qx l hl).2
noncomputable def IG:=mk ML Tryz.func37 (hc gX hn)
def sF:=λb p hb h1 h2=>IG.cs (agO ⟨iO,iP⟩ b p hb h1 h2:)
def Po:=λb p hb h1 h2=>(sF b p hb h1 h2).1
def Pp:=λb p hb h1 h2=>(sF b p hb h1 h2).2
noncomputable def Pq:=mk MN Tryz.func69 (hc gX hn)
def vP:=λb p hb h1 h2=>Pq.cs (ag1 ⟨iO,iP⟩ b p hb h1 h2:)
def ZU:=λb p hb h1 h2=>(vP b p hb h1 h2).1
def ZV:=λb p hb h1 h2=>(vP b p hb h1 h2).2
noncomputable def KQ:=mk WA Tryz.func72 hn
def ZW:=λa=>(KQ.cs (qw a:)).1
def ZX:=λa=>(KQ.cs (qw a:)).2
noncomputable def Pv:=mk MO Tryz.func70 (hc KQ (hc KO hn))
def sG:=λi=>Pv.cs (BL ⟨ZW,ZX⟩ ⟨RX,RY⟩ i:)
def ZY:=λi=>(sG i).1
def ahV:=λi=>(sG i).2
noncomputable def II:=mk MQ Tryz.func47 (hc Pq (hc gX (hc Pv hn)))
def sH:=λb p hb h1 h2=>II.cs (ag2 ⟨ZU,ZV⟩ ⟨iO,iP⟩ ⟨ZY⟩ b p hb h1 h2:)
def Pw:=λb p hb h1 h2=>(sH b p hb h1 h2).1
def Px:=λb p hb h1 h2=>(sH b p hb h1 h2).2
noncomputable def Z0:=mk MR Tryz.func92 (hc II (hc gX hn))
def sI:=λt b p hb t0 h1 h2=>Z0.cs (ahC ⟨Pw,Px⟩ ⟨iO,iP⟩ t b p hb t0 h1 h2:)
def ahW:=λt b p hb t0 h1 h2=>(sI t b p hb t0 h1 h2).1
def ahX:=λt b p hb t0 h1 h2=>(sI t b p hb t0 h1 h2).2
noncomputable def Z4:=mk MU Tryz.func93 (hc gX hn)
def sJ:=λt b p hb t0 h1 h2=>Z4.cs (ahB ⟨iO,iP⟩ t b p hb t0 h1 h2:)
def ahY:=λt b p hb t0 h1 h2=>(sJ t b p hb t0 h1 h2).1
def ahZ:=λt b p hb t0 h1 h2=>(sJ t b p hb t0 h1 h2).2
noncomputable def Z5:=mk MV Tryz.func64 (hc ZT (hc ZR (hc Z0 (hc II (hc Pq (hc Z4 (hc Pm (hc gX (hc IG hn)))))))))
def qy:=λb p hb h1 h2=>Z5.cs (ahD ⟨aew,aex⟩ ⟨aeu,aev⟩ ahW ahX ⟨Pw,Px⟩ ⟨ZU,ZV⟩ ahY ahZ ⟨ZP,ZQ⟩ ⟨iO,iP⟩ ⟨Po,Pp⟩ b p hb h1 h2:)
def ah0:=λb p hb h1 h2=>(qy b p hb h1 h2).1
def ah1:=λb p hb h1 h2=>(qy b p hb h1 h2).2
noncomputable def Z6:=mk MW Tryz.func65 (hc IG hn)
def qz:=λn b p hb hn h1 h2=>Z6.cs (agP ⟨Po,Pp⟩ n b p hb hn h1 h2:)
def ah2:=λn b p hb hn h1 h2=>(qz n b p hb hn h1 h2).1
def ah3:=λn b p hb hn h1 h2=>(qz n b p hb hn h1 h2).2
noncomputable def Z7:=mk MX Tryz.func66 (hc gX hn)
def sK:=λb p hb h1 h2=>Z7.cs (ahA ⟨iO,iP⟩ b p hb h1 h2:)
def ah4:=λb p hb h1 h2=>(sK b p hb h1 h2).1
def ah5:=λb p hb h1 h2=>(sK b p hb h1 h2).2
noncomputable def sM:=mk MZ Tryz.func52 hn
def AB:=λb hb=>(sM.cs (YG b hb:)).1
def AJ:=λb hb=>(sM.cs (YG b hb:)).2
noncomputable def RZ:=mk WB Tryz.func36 (hc sM hn)
def qA:=λe hw ho=>RZ.cs (al0 ⟨AB,AJ⟩ e hw ho:)
def Z8:=λe hw ho=>(qA e hw ho).1
def Z9:=λe hw ho=>(qA e hw ho).2
noncomputable def R3:=mk WE Tryz.func40 hn
def aey:=λw mem pc hw hm p0 p1=>(R3.cs (aem w mem pc hw hm p0 p1:)).1
def aez:=λw mem pc hw hm p0 p1=>(R3.cs (aem w mem pc hw hm p0 p1:)).2
noncomputable def R4:=mk WG Tryz.func17 (hc RZ (hc R3 hn))
def sN:=λl mem h hm=>R4.cs (al2 ⟨Z8,Z9⟩ ⟨aey,aez⟩ l mem h hm:)
def aac:=λl mem h hm=>(sN l mem h hm).1
def aad:=λl mem h hm=>(sN l mem h hm).2
noncomputable def aae:=mk WH Tryz.func49 (hc KQ (hc KO (hc jI (hc Pv hn))))
def zf:=λpc l hl=>aae.cs (EM ⟨ZW,ZX⟩ ⟨RX,RY⟩ ⟨kg,ku⟩ ZY ahV pc l hl:)
def aeA:=λpc l hl=>(zf pc l hl).1
def aeB:=λpc l hl=>(zf pc l hl).2
noncomputable def xP:=mk M0 Tryz.func73 hn
def xQ:=λa1 a2 a3 a4 a5 a6 o ops h=>(xP.cs (vJ a1 a2 a3 a4 a5 a6 o ops h:)).1
def xR:=λa1 a2 a3 a4 a5 a6 o ops h=>(xP.cs (vJ a1 a2 a3 a4 a5 a6 o ops h:)).2
noncomputable def IJ:=mk M4 Tryz.func74 (hc xP hn)
def aaf:=λa1 a2 a3 a4 a5 a6 k x ops h=>(IJ.cs (vL ⟨xQ,xR⟩ a1 a2 a3 a4 a5 a6 k x ops h:)).1
def aag:=λa1 a2 a3 a4 a5 a6 k x ops h=>(IJ.cs (vL ⟨xQ,xR⟩ a1 a2 a3 a4 a5 a6 k x ops h:)).2
noncomputable def AL:=mk M5 Tryz.func75 (hc xP hn)
def IK:=λa1 a2 a3 a4 a5 a6 k ops h=>(AL.cs (vK ⟨xQ,xR⟩ a1 a2 a3 a4 a5 a6 k ops h:)).1
def IL:=λa1 a2 a3 a4 a5 a6 k ops h=>(AL.cs (vK ⟨xQ,xR⟩ a1 a2 a3 a4 a5 a6 k ops h:)).2
noncomputable def Py:=mk M6 Tryz.func76 (hc AL (hc xP hn))
def qB:=λa1 a2 a3 a4 a5 a6 k a o ops h=>Py.cs (Av ⟨IK,IL⟩ ⟨xQ,xR⟩ a1 a2 a3 a4 a5 a6 k a o ops h:)
def aah:=λa1 a2 a3 a4 a5 a6 k a o ops h=>(qB a1 a2 a3 a4 a5 a6 k a o ops h).1
def aai:=λa1 a2 a3 a4 a5 a6 k a o ops h=>(qB a1 a2 a3 a4 a5 a6 k a o ops h).2
noncomputable def Pz:=mk M7 Tryz.func77 hn
def ah6:=λk k0 k1=>(Pz.cs (qp k k0 k1:)).1
def ah7:=λk k0 k1=>(Pz.cs (qp k k0 k1:)).2
noncomputable def aaj:=mk M8 Tryz.func78 (hc AL (hc xP (hc Py (hc IJ hn))))
def sO:=λa1 a2 a3 a4 a5 a6 i n ops hi h=>aaj.cs (BK ⟨IK,IL⟩ ⟨xQ,xR⟩ ⟨aah,aai⟩ ⟨aaf,aag⟩ a1 a2 a3 a4 a5 a6 i n ops hi h:)
def ah8:=λa1 a2 a3 a4 a5 a6 i n ops hi h=>(sO a1 a2 a3 a4 a5 a6 i n ops hi h).1
def ah9:=λa1 a2 a3 a4 a5 a6 i n ops hi h=>(sO a1 a2 a3 a4 a5 a6 i n ops hi h).2
set_option maxRecDepth 100000
set_option maxHeartbeats 4000000
noncomputable def aak:=mk M9 Tryz.func79 (hc AL hn)
def vQ:=λB i hi h=>aak.cs (El ⟨IK,IL⟩ B i hi h:)
def aia:=λB i hi h=>(vQ B i hi h).1
def aib:=λB i hi h=>(vQ B i hi h).2
noncomputable def aal:=mk Na Tryz.func50 (hc AL (hc aak (hc xP (hc aaj (hc Py (hc IJ (hc Pz hn)))))))
def zh:=λB i n hi h0 h=>aal.cs (EK ⟨IK,IL⟩ aia aib ⟨xQ,xR⟩ ah8 ah9 ⟨aah,aai⟩ ⟨aaf,aag⟩ ah6 ah7 B i n hi h0 h:)
def aic:=λB i n hi h0 h=>(zh B i n hi h0 h).1
def aie:=λB i n hi h0 h=>(zh B i n hi h0 h).2
noncomputable def KR:=mk WI Tryz.func30 (hc aae (hc aal hn))
def qC:=λpc l hl=>KR.cs (Ay ⟨aeA,aeB⟩ aic aie pc l hl:)
def R5:=λpc l hl=>(qC pc l hl).1
def R6:=λpc l hl=>(qC pc l hl).2
noncomputable def aam:=mk Nb Tryz.func166 (hc jI hn)
def sP:=λk=>aam.cs (agT ⟨kg,ku⟩ k:)
def aif:=λk=>(sP k).1
def aii:=λk=>(sP k).2
noncomputable def PD:=mk Nc Tryz.func144 (hc aam hn)
def zi:=λops x n h1=>PD.cs (agU aif aii ops x n h1:)
def aan:=λops x n h1=>(zi ops x n h1).1
def aao:=λops x n h1=>(zi ops x n h1).2
noncomputable def aap:=mk Ng Tryz.func111 (hc y9 (hc jI (hc PD hn)))
def Br:=λops i len h0 h1 h3=>aap.cs (agV ⟨Ep,Er⟩ ⟨kg,ku⟩ ⟨aan,aao⟩ ops i len h0 h1 h3:)
def aij:=λops i len h0 h1 h3=>(Br ops i len h0 h1 h3).1
def aik:=λops i len h0 h1 h3=>(Br ops i len h0 h1 h3).2
noncomputable def aaq:=mk Nh Tryz.func112 (hc y9 (hc PD hn))
def zk:=λb=>aaq.cs (agY ⟨Ep,Er⟩ ⟨aan,aao⟩ b:)
def ail:=λb=>(zk b).1
def ain:=λb=>(zk b).2
noncomputable def sQ:=mk WJ Tryz.func86 (hc jI (hc aaq (hc aap hn)))
def Bu:=λb h2=>sQ.cs (alc ⟨kg,ku⟩ ail ain aij aik b h2:)
def vR:=λb h2=>(Bu b h2).1
def vS:=λb h2=>(Bu b h2).2
noncomputable def R7:=mk WK Tryz.func87 hn
def aeC:=λa b ha=>(R7.cs (aej a b ha:)).1
def aeD:=λa b ha=>(R7.cs (aej a b ha:)).2
noncomputable def KS:=mk WL Tryz.func113 (hc jI hn)
def sS:=λa=>KS.cs (akW ⟨kg,ku⟩ a:)
def R8:=λa=>(sS a).1
def R9:=λa=>(sS a).2
noncomputable def aar:=mk WM Tryz.func88 (hc KS hn)
def vU:=aar.cs (ak7 ⟨R8,R9⟩:)
def aeE:=(vU).1
def aeF:=(vU).2
noncomputable def Es:=mk Ni Tryz.func155 hn
def PE:=λa b ha=>(Es.cs (Yj a b ha:)).1
def PG:=λa b ha=>(Es.cs (Yj a b ha:)).2
noncomputable def aas:=mk Nj Tryz.func173 (hc jI hn)
def vV:=λm hm=>aas.cs (agA ⟨kg,ku⟩ m hm:)
def aio:=λm hm=>(vV m hm).1
def aip:=λm hm=>(vV m hm).2
noncomputable def Eu:=mk WO Tryz.func151 (hc aas (hc Es hn))
def zm:=λa ha=>Eu.cs (akX aio aip ⟨PE,PG⟩ a ha:)
def F6:=λa ha=>(zm a ha).1
def F7:=λa ha=>(zm a ha).2
noncomputable def PI:=mk Nk Tryz.func167 hn
def aiq:=λa=>(PI.cs (Yk a:)).1
def air:=λa=>(PI.cs (Yk a:)).2
noncomputable def aat:=mk WQ Tryz.func168 hn
def amx:=λa n ha=>(aat.cs (ad6 a n ha:)).1
def amy:=λa n ha=>(aat.cs (ad6 a n ha:)).2
noncomputable def PK:=mk Nl Tryz.func145 (hc jI (hc Eu (hc aat (hc PI hn))))
def vW:=λa n ha=>PK.cs (agB ⟨kg,ku⟩ ⟨F6,F7⟩ ⟨amx,amy⟩ aiq air a n ha:)
def aau:=λa n ha=>(vW a n ha).1
def aav:=λa n ha=>(vW a n ha).2
noncomputable def Bv:=mk WR Tryz.func128 (hc Es hn)
def qD:=λa b ha=>Bv.cs (akY ⟨PE,PG⟩ a b ha:)
def Ew:=λa b ha=>(qD a b ha).1
def Ey:=λa b ha=>(qD a b ha).2
noncomputable def PL:=mk Nn Tryz.func146 (hc Bv hn)
def vX:=λa b ha=>PL.cs (agC ⟨Ew,Ey⟩ a b ha:)
def aaw:=λa b ha=>(vX a b ha).1
def aax:=λa b ha=>(vX a b ha).2
noncomputable def aeG:=mk WS Tryz.func114 (hc PK (hc PL hn))
def zn:=λa ha=>aeG.cs (akZ ⟨aau,aav⟩ ⟨aaw,aax⟩ a ha:)
def amA:=λa ha=>(zn a ha).1
def amB:=λa ha=>(zn a ha).2
noncomputable def lZ:=mk Np Tryz.func123 hn
def pU:=λa ha=>(lZ.cs (Ym a ha:)).1
def pV:=λa ha=>(lZ.cs (Ym a ha:)).2
noncomputable def PN:=mk Nq Tryz.func147 (hc lZ hn)
def vY:=λa ha=>PN.cs (agE ⟨pU,pV⟩ a ha:)
def aay:=λa ha=>(vY a ha).1
def aaz:=λa ha=>(vY a ha).2
noncomputable def aaA:=mk Nr Tryz.func115 (hc PN hn)
def vZ:=λa ha=>aaA.cs (agF ⟨aay,aaz⟩ a ha:)
def ais:=λa ha=>(vZ a ha).1
def ait:=λa ha=>(vZ a ha).2
noncomputable def IQ:=mk Nt Tryz.func116 (hc PK (hc PL (hc PN hn)))
def zo:=λa t ha ht hok=>IQ.cs (agG ⟨aau,aav⟩ ⟨aaw,aax⟩ ⟨aay,aaz⟩ a t ha ht hok:)
def PO:=λa t ha ht hok=>(zo a t ha ht hok).1
def PU:=λa t ha ht hok=>(zo a t ha ht hok).2
noncomputable def PW:=mk Nu Tryz.func117 hn
def aiu:=λk l=>(PW.cs (YT k l:)).1
def aiv:=λk l=>(PW.cs (YT k l:)).2
noncomputable def aaB:=mk WT Tryz.func118 (hc jI hn)
def qE:=λa=>aaB.cs (akV ⟨kg,ku⟩ a:)
def aeH:=λa=>(qE a).1
def aeI:=λa=>(qE a).2
noncomputable def zq:=mk WU Tryz.func164 hn
def Ez:=λa=>(zq.cs (ad5 a:)).1
def EA:=λa=>(zq.cs (ad5 a:)).2
noncomputable def PX:=mk Nv Tryz.func181 (hc Es (hc zq hn))
def wo:=λl m hl hn hm hma=>PX.cs (agL ⟨PE,PG⟩ ⟨Ez,EA⟩ l m hl hn hm hma:)
def aaC:=λl m hl hn hm hma=>(wo l m hl hn hm hma).1
def aaD:=λl m hl hn hm hma=>(wo l m hl hn hm hma).2
noncomputable def PZ:=mk Nw Tryz.func182 (hc lZ hn)
def zu:=λa ha=>PZ.cs (agD ⟨pU,pV⟩ a ha:)
def aaE:=λa ha=>(zu a ha).1
def aaF:=λa ha=>(zu a ha).2
noncomputable def aeJ:=mk WW Tryz.func169 (hc Eu (hc PX (hc PZ hn)))
def wu:=λa b ha hb=>aeJ.cs (ak2 ⟨F6,F7⟩ ⟨aaC,aaD⟩ ⟨aaE,aaF⟩ a b ha hb:)
def amC:=λa b ha hb=>(wu a b ha hb).1
def amD:=λa b ha hb=>(wu a b ha hb).2
noncomputable def aeK:=mk WX Tryz.func170 (hc Eu (hc zq (hc lZ (hc y9 hn))))
def qF:=λa n ha=>aeK.cs (ak5 ⟨F6,F7⟩ ⟨Ez,EA⟩ ⟨pU,pV⟩ ⟨Ep,Er⟩ a n ha:)
def amE:=λa n ha=>(qF a n ha).1
def amF:=λa n ha=>(qF a n ha).2
noncomputable def P9:=mk Ny Tryz.func183 hn
def aiw:=λa b ha hb sa sb=>(P9.cs (Yp a b ha hb sa sb:)).1
def aix:=λa b ha hb sa sb=>(P9.cs (Yp a b ha hb sa sb:)).2
noncomputable def aeL:=mk WY Tryz.func171 (hc Eu (hc zq (hc PX (hc P9 (hc PZ hn)))))
def wz:=λa b ha hb=>aeL.cs (ak3 ⟨F6,F7⟩ ⟨Ez,EA⟩ ⟨aaC,aaD⟩ aiw aix ⟨aaE,aaF⟩ a b ha hb:)
def amG:=λa b ha hb=>(wz a b ha hb).1
def amH:=λa b ha hb=>(wz a b ha hb).2
noncomputable def aaG:=mk Nz Tryz.func148 (hc aeL (hc aeJ (hc aeK hn)))
def wB:=λop x y hx hy=>aaG.cs (agJ ⟨amG,amH⟩ ⟨amC,amD⟩ ⟨amE,amF⟩ op x y hx hy:)
def aiy:=λop x y hx hy=>(wB op x y hx hy).1
def aiz:=λop x y hx hy=>(wB op x y hx hy).2
noncomputable def KT:=mk WZ Tryz.func142 (hc zq (hc y9 hn))
def zw:=λop a b=>KT.cs (ak0 ⟨Ep,Er⟩ ⟨Ez,EA⟩ op a b:)
def Sb:=λop a b=>(zw op a b).1
def Sc:=λop a b=>(zw op a b).2
noncomputable def Sd:=mk Xa Tryz.func152 (hc Eu hn)
def wC:=λa ha=>Sd.cs (ak1 ⟨F6,F7⟩ a ha:)
def aaH:=λa ha=>(wC a ha).1
def aaI:=λa ha=>(wC a ha).2
noncomputable def aaJ:=mk NA Tryz.func172 (hc lZ hn)
def wD:=λop n y hy=>aaJ.cs (agH ⟨pU,pV⟩ op n y hy:)
def aiA:=λop n y hy=>(wD op n y hy).1
def aiB:=λop n y hy=>(wD op n y hy).2
set_option maxRecDepth 100000
set_option maxHeartbeats 4000000
noncomputable def aaK:=mk NC Tryz.func149 (hc Bv (hc lZ (hc KT (hc aaB (hc Sd (hc aaJ hn))))))
def wE:=λop x y hx hy=>aaK.cs (agI ⟨Ew,Ey⟩ ⟨pU,pV⟩ ⟨Sb,Sc⟩ ⟨aeH,aeI⟩ ⟨aaH,aaI⟩ aiA aiB op x y hx hy:)
def aiC:=λop x y hx hy=>(wE op x y hx hy).1
def aiD:=λop x y hx hy=>(wE op x y hx hy).2
noncomputable def aaL:=mk ND Tryz.func119 (hc KS (hc Bv (hc aaG (hc aaK (hc IQ hn)))))
def Bw:=λop x y t hop hx hy ht hok=>aaL.cs (agK ⟨R8,R9⟩ ⟨Ew,Ey⟩ aiy aiz aiC aiD ⟨PO,PU⟩ op x y t hop hx hy ht hok:)
def aiE:=λop x y t hop hx hy ht hok=>(Bw op x y t hop hx hy ht hok).1
def aiF:=λop x y t hop hx hy ht hok=>(Bw op x y t hop hx hy ht hok).2
noncomputable def Qa:=mk NG Tryz.func150 hn
def aiG:=λl k hl=>(Qa.cs (YU l k hl:)).1
def aiH:=λl k hl=>(Qa.cs (YU l k hl:)).2
noncomputable def aaM:=mk NH Tryz.func120 (hc KS (hc IQ (hc Qa hn)))
def sU:=λl k t hl ht hk=>aaM.cs (ahc ⟨R8,R9⟩ ⟨PO,PU⟩ aiG aiH l k t hl ht hk:)
def aiI:=λl k t hl ht hk=>(sU l k t hl ht hk).1
def aiJ:=λl k t hl ht hk=>(sU l k t hl ht hk).2
noncomputable def IU:=mk NI Tryz.func122 (hc lZ hn)
def sV:=λa ha=>IU.cs (ahb ⟨pU,pV⟩ a ha:)
def Qb:=λa ha=>(sV a ha).1
def Qc:=λa ha=>(sV a ha).2
noncomputable def aaN:=mk NJ Tryz.func121 (hc lZ (hc IU hn))
def sW:=λo x y r hx hy hr=>aaN.cs (ahd ⟨pU,pV⟩ ⟨Qb,Qc⟩ o x y r hx hy hr:)
def aiK:=λo x y r hx hy hr=>(sW o x y r hx hy hr).1
def aiL:=λo x y r hx hy hr=>(sW o x y r hx hy hr).2
noncomputable def Qd:=mk NK Tryz.func124 hn
def aiM:=λb=>(Qd.cs (YW b:)).1
def aiN:=λb=>(Qd.cs (YW b:)).2
noncomputable def Qe:=mk NP Tryz.func125 hn
def aiO:=λb=>(Qe.cs (YX b:)).1
def aiP:=λb=>(Qe.cs (YX b:)).2
noncomputable def IV:=mk NQ Tryz.func153 hn
def aaO:=λs k=>(IV.cs (YV s k:)).1
def aaP:=λs k=>(IV.cs (YV s k:)).2
noncomputable def aaQ:=mk NR Tryz.func154 (hc Sd (hc Bv (hc IV hn)))
def Bz:=λs n hs hx hy hf=>aaQ.cs (ahe ⟨aaH,aaI⟩ ⟨Ew,Ey⟩ ⟨aaO,aaP⟩ s n hs hx hy hf:)
def aiQ:=λs n hs hx hy hf=>(Bz s n hs hx hy hf).1
def aiR:=λs n hs hx hy hf=>(Bz s n hs hx hy hf).2
noncomputable def aeM:=mk Xb Tryz.func126 (hc Sd (hc Eu (hc lZ (hc IV (hc aaQ (hc IU hn))))))
def wF:=λs n hs=>aeM.cs (als ⟨aaH,aaI⟩ ⟨F6,F7⟩ ⟨pU,pV⟩ ⟨aaO,aaP⟩ aiQ aiR ⟨Qb,Qc⟩ s n hs:)
def amI:=λs n hs=>(wF s n hs).1
def amJ:=λs n hs=>(wF s n hs).2
noncomputable def aeN:=mk Xc Tryz.func89 (hc sQ (hc KS (hc aaB (hc aeM (hc aar (hc aeG (hc lZ (hc aaA (hc aaL (hc IQ (hc aaM (hc aaN (hc PW (hc IU (hc Qd (hc Qe hn))))))))))))))))
def wG:=λt b ht hb=>aeN.cs (alu ⟨vR,vS⟩ ⟨R8,R9⟩ ⟨aeH,aeI⟩ ⟨amI,amJ⟩ ⟨aeE,aeF⟩ ⟨amA,amB⟩ ⟨pU,pV⟩ ⟨ais,ait⟩ aiE aiF ⟨PO,PU⟩ aiI aiJ aiK aiL aiu aiv ⟨Qb,Qc⟩ aiM aiN aiO aiP t b ht hb:)
def amK:=λt b ht hb=>(wG t b ht hb).1
def amL:=λt b ht hb=>(wG t b ht hb).2
noncomputable def Qf:=mk NS Tryz.func127 (hc Bv hn)
def sZ:=λa b ha=>Qf.cs (ahg ⟨Ew,Ey⟩ a b ha:)
def aaR:=λa b ha=>(sZ a b ha).1
def aaS:=λa b ha=>(sZ a b ha).2
noncomputable def aaT:=mk NT Tryz.func129 (hc Bv (hc Qf hn))
def tq:=λa b ha=>aaT.cs (ahh ⟨Ew,Ey⟩ ⟨aaR,aaS⟩ a b ha:)
def aiS:=λa b ha=>(tq a b ha).1
def aiT:=λa b ha=>(tq a b ha).2
noncomputable def aeO:=mk Xd Tryz.func90 (hc Bv (hc aaT (hc Qf hn)))
def tu:=λa b ha=>aeO.cs (alz ⟨Ew,Ey⟩ ⟨aiS,aiT⟩ ⟨aaR,aaS⟩ a b ha:)
def amM:=λa b ha=>(tu a b ha).1
def amN:=λa b ha=>(tu a b ha).2
noncomputable def Sg:=mk Xe Tryz.func61 (hc sQ (hc R7 (hc aar (hc aeN (hc aeO hn)))))
def tC:=λb c hb hc=>Sg.cs (alA ⟨vR,vS⟩ ⟨aeC,aeD⟩ ⟨aeE,aeF⟩ ⟨amK,amL⟩ ⟨amM,amN⟩ b c hb hc:)
def aaU:=λb c hb hc=>(tC b c hb hc).1
def aaV:=λb c hb hc=>(tC b c hb hc).2
noncomputable def Si:=mk Xf Tryz.func110 (hc KO (hc y9 hn))
def tF:=λw=>Si.cs (alO ⟨RX,RY⟩ ⟨Ep,Er⟩ w:)
def aaW:=λw=>(tF w).1
def aaX:=λw=>(tF w).2
noncomputable def aeP:=mk Xg Tryz.func85 (hc Si hn)
def tH:=λw h=>aeP.cs (al3 ⟨aaW,aaX⟩ w h:)
def amO:=λw h=>(tH w h).1
def amP:=λw h=>(tH w h).2
noncomputable def aeQ:=mk Xh Tryz.func60 (hc KR (hc aae (hc aeP (hc Sg hn))))
def qG:=λe hw ho=>aeQ.cs (al5 ⟨R5,R6⟩ ⟨aeA,aeB⟩ amO amP ⟨aaU,aaV⟩ e hw ho:)
def amQ:=λe hw ho=>(qG e hw ho).1
def amR:=λe hw ho=>(qG e hw ho).2
noncomputable def aeR:=mk Xi Tryz.func43 (hc aeQ (hc R3 hn))
def zy:=λl mem h hm=>aeR.cs (al6 amQ amR ⟨aey,aez⟩ l mem h hm:)
def amS:=λl mem h hm=>(zy l mem h hm).1
def amT:=λl mem h hm=>(zy l mem h hm).2
noncomputable def aeS:=mk Xj Tryz.func44 (hc Sg hn)
def zB:=λl h=>aeS.cs (alB ⟨aaU,aaV⟩ l h:)
def amU:=λl h=>(zB l h).1
def amV:=λl h=>(zB l h).2
noncomputable def aeT:=mk Xk Tryz.func20 (hc aeR (hc aeS (hc F5 hn)))
def zC:=λe h1 h2 h3=>aeT.cs (al7 amS amT ⟨amU,amV⟩ ⟨KM,KN⟩ e h1 h2 h3:)
def amW:=λe h1 h2 h3=>(zC e h1 h2 h3).1
def amX:=λe h1 h2 h3=>(zC e h1 h2 h3).2
noncomputable def aaY:=mk Xl Tryz.func130 (hc sM hn)
def tJ:=λq h1 h2=>aaY.cs (alC ⟨AB,AJ⟩ q h1 h2:)
def aeU:=λq h1 h2=>(tJ q h1 h2).1
def aeV:=λq h1 h2=>(tJ q h1 h2).2
noncomputable def aeW:=mk Xm Tryz.func94 (hc RZ (hc aaY (hc AA hn)))
def tK:=λe h1 h2 h3=>aeW.cs (al9 ⟨Z8,Z9⟩ ⟨aeU,aeV⟩ ⟨IC,IE⟩ e h1 h2 h3:)
def amY:=λe h1 h2 h3=>(tK e h1 h2 h3).1
def amZ:=λe h1 h2 h3=>(tK e h1 h2 h3).2
noncomputable def EB:=mk NU Tryz.func95 hn
def IW:=λl n h=>(EB.cs (Zq l n h:)).1
def IX:=λl n h=>(EB.cs (Zq l n h:)).2
noncomputable def Qg:=mk NV Tryz.func156 hn
def aiU:=λm b=>(Qg.cs (Zp m b:)).1
def aiV:=λm b=>(Qg.cs (Zp m b:)).2
noncomputable def EC:=mk NW Tryz.func157 hn
def Qh:=λm h=>(EC.cs (Zm m h:)).1
def Qi:=λm h=>(EC.cs (Zm m h:)).2
noncomputable def AO:=mk NY Tryz.func178 (hc zq hn)
def wH:=λm n h=>AO.cs (ahn ⟨Ez,EA⟩ m n h:)
def AP:=λm n h=>(wH m n h).1
def AQ:=λm n h=>(wH m n h).2
noncomputable def aaZ:=mk NZ Tryz.func174 (hc EC (hc AO hn))
def wI:=λm i h ho=>aaZ.cs (aht ⟨Qh,Qi⟩ ⟨AP,AQ⟩ m i h ho:)
def aiW:=λm i h ho=>(wI m i h ho).1
def aiX:=λm i h ho=>(wI m i h ho).2
noncomputable def ED:=mk N7 Tryz.func175 (hc AO hn)
def Qj:=λm d v h d0 d1=>(ED.cs (Zo ⟨AP,AQ⟩ m d v h d0 d1:)).1
def Qk:=λm d v h d0 d1=>(ED.cs (Zo ⟨AP,AQ⟩ m d v h d0 d1:)).2
noncomputable def aa0:=mk N8 Tryz.func176 (hc zq hn)
def tL:=λv k h k0 k1=>aa0.cs (aho ⟨Ez,EA⟩ v k h k0 k1:)
def aiY:=λv k h k0 k1=>(tL v k h k0 k1).1
def aiZ:=λv k h k0 k1=>(tL v k h k0 k1).2
noncomputable def aa1:=mk N9 Tryz.func177 (hc zq (hc EC (hc AO (hc ED hn))))
def tN:=λm i h hi ho=>aa1.cs (ahr ⟨Ez,EA⟩ ⟨Qh,Qi⟩ ⟨AP,AQ⟩ ⟨Qj,Qk⟩ m i h hi ho:)
def ai0:=λm i h hi ho=>(tN m i h hi ho).1
def ai1:=λm i h hi ho=>(tN m i h hi ho).2
set_option maxRecDepth 100000
set_option maxHeartbeats 4000000
noncomputable def aa2:=mk Oa Tryz.func179 (hc AO (hc ED hn))
def wJ:=λm i h hi hq hn ho=>aa2.cs (ahs ⟨AP,AQ⟩ ⟨Qj,Qk⟩ m i h hi hq hn ho:)
def ai2:=λm i h hi hq hn ho=>(wJ m i h hi hq hn ho).1
def ai3:=λm i h hi hq hn ho=>(wJ m i h hi hq hn ho).2
noncomputable def aa3:=mk Ob Tryz.func158 (hc KT (hc AO (hc aa2 (hc aa1 (hc ED (hc aa0 (hc aaZ hn)))))))
def BA:=λm i h hi hn ho=>aa3.cs (ahu ⟨Sb,Sc⟩ ⟨AP,AQ⟩ ai2 ai3 ai0 ai1 ⟨Qj,Qk⟩ aiY aiZ aiW aiX m i h hi hn ho:)
def ai4:=λm i h hi hn ho=>(BA m i h hi hn ho).1
def ai5:=λm i h hi hn ho=>(BA m i h hi hn ho).2
noncomputable def aeX:=mk Xo Tryz.func131 (hc Si (hc F5 (hc AA (hc aa3 (hc EC (hc Qg hn))))))
def tO:=λm b h ho=>aeX.cs (alT ⟨aaW,aaX⟩ ⟨KM,KN⟩ ⟨IC,IE⟩ ai4 ai5 ⟨Qh,Qi⟩ aiU aiV m b h ho:)
def am0:=λm b h ho=>(tO m b h ho).1
def am1:=λm b h ho=>(tO m b h ho).2
noncomputable def aa4:=mk Oc Tryz.func96 (hc R4 (hc aeX (hc EB hn)))
def qH:=λe q h1 ho h2 hq=>aa4.cs (ahG ⟨aac,aad⟩ ⟨am0,am1⟩ ⟨IW,IX⟩ e q h1 ho h2 hq:)
def ai6:=λe q h1 ho h2 hq=>(qH e q h1 ho h2 hq).1
def ai7:=λe q h1 ho h2 hq=>(qH e q h1 ho h2 hq).2
noncomputable def aa5:=mk Xp Tryz.func9 hn
def am2:=λl pc h=>(aa5.cs (ael l pc h:)).1
def am3:=λl pc h=>(aa5.cs (ael l pc h:)).2
noncomputable def aeY:=mk Xq Tryz.func14 (hc RZ hn)
def wK:=λl e h h1 h2=>aeY.cs (al4 ⟨Z8,Z9⟩ l e h h1 h2:)
def am4:=λl e h h1 h2=>(wK l e h h1 h2).1
def am5:=λl e h h1 h2=>(wK l e h h1 h2).2
noncomputable def aa6:=mk Xr Tryz.func100 (hc KQ (hc Si (hc F5 hn)))
def tQ:=λm h=>aa6.cs (amb ⟨ZW,ZX⟩ ⟨aaW,aaX⟩ ⟨KM,KN⟩ m h:)
def aeZ:=λm h=>(tQ m h).1
def ae0:=λm h=>(tQ m h).2
noncomputable def Sj:=mk Xt Tryz.func109 (hc jI hn)
def ae1:=λo al hk hx hy=>(Sj.cs (aef ⟨kg,ku⟩ o al hk hx hy:)).1
def ae2:=λo al hk hx hy=>(Sj.cs (aef ⟨kg,ku⟩ o al hk hx hy:)).2
noncomputable def aa7:=mk Xu Tryz.func84 (hc sQ (hc Sj (hc sM hn)))
def tT:=λb hb=>aa7.cs (alm ⟨vR,vS⟩ ⟨ae1,ae2⟩ ⟨AB,AJ⟩ b hb:)
def ae3:=λb hb=>(tT b hb).1
def ae4:=λb hb=>(tT b hb).2
noncomputable def aa8:=mk Xv Tryz.func138 (hc Sj hn)
def tV:=λb kp ok hk=>aa8.cs (ali ⟨ae1,ae2⟩ b kp ok hk:)
def ae5:=λb kp ok hk=>(tV b kp ok hk).1
def ae6:=λb kp ok hk=>(tV b kp ok hk).2
noncomputable def ae7:=mk Xw Tryz.func139 (hc sQ (hc jI hn))
def tX:=λb hb=>ae7.cs (alh ⟨vR,vS⟩ ⟨kg,ku⟩ b hb:)
def am6:=λb hb=>(tX b hb).1
def am7:=λb hb=>(tX b hb).2
noncomputable def ae8:=mk Xx Tryz.func106 (hc sQ (hc ae7 (hc aa8 hn)))
def tY:=λb hb=>ae8.cs (alj ⟨vR,vS⟩ ⟨am6,am7⟩ ⟨ae5,ae6⟩ b hb:)
def am8:=λb hb=>(tY b hb).1
def am9:=λb hb=>(tY b hb).2
noncomputable def aa9:=mk Xy Tryz.func140 hn
def ana:=λops k h0 h1 h2=>(aa9.cs (aeg ops k h0 h1 h2:)).1
def anb:=λops k h0 h1 h2=>(aa9.cs (aeg ops k h0 h1 h2:)).2
noncomputable def ae9:=mk Xz Tryz.func107 (hc sQ (hc aa8 (hc aa9 hn)))
def tZ:=λb hb=>ae9.cs (alk ⟨vR,vS⟩ ⟨ae5,ae6⟩ ana anb b hb:)
def ane:=λb hb=>(tZ b hb).1
def anf:=λb hb=>(tZ b hb).2
noncomputable def Sk:=mk XA Tryz.func141 hn
def afa:=λops k=>(Sk.cs (aed ops k:)).1
def afb:=λops k=>(Sk.cs (aed ops k:)).2
noncomputable def abb:=mk XB Tryz.func165 hn
def ang:=λb k=>(abb.cs (aee b k:)).1
def anh:=λb k=>(abb.cs (aee b k:)).2
noncomputable def afc:=mk XC Tryz.func143 (hc abb (hc Sk hn))
def uf:=λb h=>afc.cs (ale ang anh ⟨afa,afb⟩ b h:)
def ani:=λb h=>(uf b h).1
def anj:=λb h=>(uf b h).2
noncomputable def afd:=mk XD Tryz.func108 (hc sQ (hc KT (hc afc (hc Sk (hc sM hn)))))
def qI:=λb hb=>afd.cs (alg ⟨vR,vS⟩ ⟨Sb,Sc⟩ ani anj ⟨afa,afb⟩ ⟨AB,AJ⟩ b hb:)
def ank:=λb hb=>(qI b hb).1
def anl:=λb hb=>(qI b hb).2
noncomputable def Sl:=mk XE Tryz.func83 (hc afd (hc aa7 (hc ae8 (hc ae9 hn))))
def wL:=λb hb=>Sl.cs (alf ⟨ank,anl⟩ ⟨ae3,ae4⟩ ⟨am8,am9⟩ ⟨ane,anf⟩ b hb:)
def abd:=λb hb=>(wL b hb).1
def abe:=λb hb=>(wL b hb).2
noncomputable def abf:=mk XF Tryz.func184 hn
def anm:=λb k hb h0 h1 hl=>(abf.cs (aen b k hb h0 h1 hl:)).1
def ano:=λb k hb h0 h1 hl=>(abf.cs (aen b k hb h0 h1 hl:)).2
noncomputable def afe:=mk XG Tryz.func180 (hc sQ (hc abf hn))
def wM:=λl hl hlen=>afe.cs (amc ⟨vR,vS⟩ anm ano l hl hlen:)
def anp:=λl hl hlen=>(wM l hl hlen).1
def anq:=λl hl hlen=>(wM l hl hlen).2
noncomputable def aff:=mk XH Tryz.func159 (hc afe (hc Sl hn))
def ug:=λb a h ha hl=>aff.cs (amd ⟨anp,anq⟩ ⟨abd,abe⟩ b a h ha hl:)
def anr:=λb a h ha hl=>(ug b a h ha hl).1
def ant:=λb a h ha hl=>(ug b a h ha hl).2
noncomputable def afg:=mk XI Tryz.func160 (hc R7 hn)
def wN:=λl b c h=>afg.cs (alp ⟨aeC,aeD⟩ l b c h:)
def anu:=λl b c h=>(wN l b c h).1
def anv:=λl b c h=>(wN l b c h).2
noncomputable def afh:=mk XJ Tryz.func161 (hc aaY hn)
def wO:=λl q h h1 h2=>afh.cs (alE ⟨aeU,aeV⟩ l q h h1 h2:)
def anw:=λl q h h1 h2=>(wO l q h h1 h2).1
def anx:=λl q h h1 h2=>(wO l q h h1 h2).2
noncomputable def afi:=mk XK Tryz.func132 (hc afg (hc afh (hc Sg (hc aff hn))))
def qJ:=λe b a h hb ha hl=>afi.cs (ame ⟨anu,anv⟩ ⟨anw,anx⟩ ⟨aaU,aaV⟩ anr ant e b a h hb ha hl:)
def anz:=λe b a h hb ha hl=>(qJ e b a h hb ha hl).1
def anA:=λe b a h hb ha hl=>(qJ e b a h hb ha hl).2
noncomputable def afj:=mk XL Tryz.func97 (hc aa6 (hc KR (hc ZT (hc aa5 (hc aeY (hc afi hn))))))
def uh:=λe a h1 h2 h3 ha hl=>afj.cs (amg ⟨aeZ,ae0⟩ ⟨R5,R6⟩ ⟨aew,aex⟩ ⟨am2,am3⟩ ⟨am4,am5⟩ anz anA e a h1 h2 h3 ha hl:)
def anB:=λe a h1 h2 h3 ha hl=>(uh e a h1 h2 h3 ha hl).1
def anC:=λe a h1 h2 h3 ha hl=>(uh e a h1 h2 h3 ha hl).2
noncomputable def Ql:=mk Od Tryz.func98 (hc EB hn)
def ai8:=λm q left size hq h1 h2=>(Ql.cs (ZF ⟨IW,IX⟩ m q left size hq h1 h2:)).1
def ai9:=λm q left size hq h1 h2=>(Ql.cs (ZF ⟨IW,IX⟩ m q left size hq h1 h2:)).2
noncomputable def Qm:=mk Oe Tryz.func162 hn
def aja:=λm b n h h1 h2 h3=>(Qm.cs (ZA m b n h h1 h2 h3:)).1
def ajb:=λm b n h h1 h2 h3=>(Qm.cs (ZA m b n h h1 h2 h3:)).2
noncomputable def Qn:=mk Og Tryz.func163 hn
def ajc:=λb a n h2 h3 h4=>(Qn.cs (ZB b a n h2 h3 h4:)).1
def ajd:=λb a n h2 h3 h4=>(Qn.cs (ZB b a n h2 h3 h4:)).2
noncomputable def abg:=mk Oh Tryz.func133 (hc Qm (hc Qn hn))
def uj:=λm b o x y hm x0 hi ho h1 h2 h3 h4=>abg.cs (ahJ aja ajb ajc ajd m b o x y hm x0 hi ho h1 h2 h3 h4:)
def aje:=λm b o x y hm x0 hi ho h1 h2 h3 h4=>(uj m b o x y hm x0 hi ho h1 h2 h3 h4).1
def ajf:=λm b o x y hm x0 hi ho h1 h2 h3 h4=>(uj m b o x y hm x0 hi ho h1 h2 h3 h4).2
noncomputable def Qo:=mk Oi Tryz.func134 hn
def ajg:=λl k=>(Qo.cs (Zy l k:)).1
def ajh:=λl k=>(Qo.cs (Zy l k:)).2
noncomputable def abh:=mk Oj Tryz.func135 (hc KT hn)
def wP:=λm o x y h=>abh.cs (ahH ⟨Sb,Sc⟩ m o x y h:)
def aji:=λm o x y h=>(wP m o x y h).1
def ajj:=λm o x y h=>(wP m o x y h).2
set_option maxRecDepth 100000
set_option maxHeartbeats 4000000
noncomputable def Qp:=mk Ol Tryz.func136 hn
def ajk:=λb v h3 h4 hx hy=>(Qp.cs (ZE b v h3 h4 hx hy:)).1
def ajl:=λb v h3 h4 hx hy=>(Qp.cs (ZE b v h3 h4 hx hy:)).2
noncomputable def afk:=mk XM Tryz.func99 (hc sQ (hc F5 (hc AA (hc Qo (hc abg (hc Qp (hc abh hn)))))))
def zD:=λb m hs hb ho=>afk.cs (amj ⟨vR,vS⟩ ⟨KM,KN⟩ ⟨IC,IE⟩ ⟨ajg,ajh⟩ aje ajf ajk ajl aji ajj b m hs hb ho:)
def anD:=λb m hs hb ho=>(zD b m hs hb ho).1
def anE:=λb m hs hb ho=>(zD b m hs hb ho).2
noncomputable def afl:=mk XO Tryz.func67 (hc R4 (hc aeT (hc afk (hc aeW (hc afj (hc aa4 (hc Ql (hc EB hn))))))))
def um:=λe q left a h1 ho h2 h3 hq ha hl=>afl.cs (amk ⟨aac,aad⟩ ⟨amW,amX⟩ anD anE amY amZ anB anC ai6 ai7 ai8 ai9 ⟨IW,IX⟩ e q left a h1 ho h2 h3 hq ha hl:)
def anF:=λe q left a h1 ho h2 h3 hq ha hl=>(um e q left a h1 ho h2 h3 hq ha hl).1
def anG:=λe q left a h1 ho h2 h3 hq ha hl=>(um e q left a h1 ho h2 h3 hq ha hl).2
noncomputable def abj:=mk Hy Tryz.func55 (hc gX (hc sM hn))
def uo:=λc b p hc hb h1 h2=>abj.cs (ag8 ⟨iO,iP⟩ ⟨AB,AJ⟩ c b p hc hb h1 h2:)
def ajm:=λc b p hc hb h1 h2=>(uo c b p hc hb h1 h2).1
def ajn:=λc b p hc hb h1 h2=>(uo c b p hc hb h1 h2).2
noncomputable def abk:=mk Om Tryz.func28 (hc II (hc gX hn))
def uw:=λb p hb h1 h2=>abk.cs (ag3 ⟨Pw,Px⟩ ⟨iO,iP⟩ b p hb h1 h2:)
def ajo:=λb p hb h1 h2=>(uw b p hb h1 h2).1
def ajp:=λb p hb h1 h2=>(uw b p hb h1 h2).2
noncomputable def abl:=mk Oo Tryz.func56 (hc KR (hc Sl (hc aa7 (hc gX (hc abk hn)))))
def qK:=λb p hb h1 h2=>abl.cs (ag6 (λpc l h _=>R5 pc l h) (λpc l h _=>IB (R6 pc l h)) ⟨abd,abe⟩ ⟨ae3,ae4⟩ ⟨iO,iP⟩ ⟨ajo,ajp⟩ b p hb h1 h2:)
def ajq:=λb p hb h1 h2=>(qK b p hb h1 h2).1
def ajr:=λb p hb h1 h2=>(qK b p hb h1 h2).2
noncomputable def abm:=mk XP Tryz.func137 hn
def anH:=λn b h0 h1 hb=>(abm.cs (aeo n b h0 h1 hb:)).1
def anI:=λn b h0 h1 hb=>(abm.cs (aeo n b h0 h1 hb:)).2
noncomputable def afm:=mk XQ Tryz.func101 (hc sQ (hc abm hn))
def uz:=λb hb=>afm.cs (amh ⟨vR,vS⟩ anH anI b hb:)
def anJ:=λb hb=>(uz b hb).1
def anK:=λb hb=>(uz b hb).2
noncomputable def abn:=mk Oq Tryz.func102 (hc gX (hc sM hn))
def oM:=λc b p ok hc hb h1 h2=>abn.cs (ag7 ⟨iO,iP⟩ ⟨AB,AJ⟩ c b p ok hc hb h1 h2:)
def ajs:=λc b p ok hc hb h1 h2=>(oM c b p ok hc hb h1 h2).1
def ajt:=λc b p ok hc hb h1 h2=>(oM c b p ok hc hb h1 h2).2
noncomputable def abo:=mk Ou Tryz.func103 (hc gX hn)
def uD:=λl b p hl h hb h1 h2=>abo.cs (ahL ⟨iO,iP⟩ l b p hl h hb h1 h2:)
def aju:=λl b p hl h hb h1 h2=>(uD l b p hl h hb h1 h2).1
def ajv:=λl b p hl h hb h1 h2=>(uD l b p hl h hb h1 h2).2
noncomputable def abp:=mk Hz Tryz.func68 (hc aa6 (hc KR (hc afm (hc Sl (hc gX (hc abj (hc abl (hc abn (hc abo hn)))))))))
def wQ:=λm b p h hb h1 h2=>abp.cs (ahM ⟨aeZ,ae0⟩ ⟨R5,R6⟩ ⟨anJ,anK⟩ ⟨abd,abe⟩ ⟨iO,iP⟩ ⟨ajm,ajn⟩ ⟨ajq,ajr⟩ ⟨ajs,ajt⟩ aju ajv m b p h hb h1 h2:)
def ajw:=λm b p h hb h1 h2=>(wQ m b p h hb h1 h2).1
def ajx:=λm b p h hb h1 h2=>(wQ m b p h hb h1 h2).2
noncomputable def abq:=mk Ov Tryz.func45 (hc aer (hc afl (hc aes (hc Z5 (hc Z7 (hc gX (hc Z6 (hc abp hn))))))))
def wR:=λb p hb h1 h2=>abq.cs (ahO amt amu anF anG ⟨amv,amw⟩ ⟨ah0,ah1⟩ ⟨ah4,ah5⟩ ⟨iO,iP⟩ ⟨ah2,ah3⟩ ajw ajx b p hb h1 h2:)
def ajy:=λb p hb h1 h2=>(wR b p hb h1 h2).1
def ajz:=λb p hb h1 h2=>(wR b p hb h1 h2).2
noncomputable def abr:=mk Ow Tryz.func22 (hc abq hn)
def uE:=λb p hb h1 h2=>abr.cs (ahP ⟨ajy,ajz⟩ b p hb h1 h2:)
def ajA:=λb p hb h1 h2=>(uE b p hb h1 h2).1
def ajB:=λb p hb h1 h2=>(uE b p hb h1 h2).2
noncomputable def Sn:=mk XR Tryz.func46 hn
def afn:=λa b c=>(Sn.cs (adZ a b c:)).1
def afo:=λa b c=>(Sn.cs (adZ a b c:)).2
noncomputable def abt:=mk XU Tryz.func53 hn
def anL:=λa b ha=>(abt.cs (aep a b ha:)).1
def anM:=λa b ha=>(abt.cs (aep a b ha:)).2
noncomputable def anN:=mk agf Tryz.func39 (hc Sn (hc abt hn))
def jq:=λe mem hw hm hp=>anN.cs (apv ⟨afn,afo⟩ ⟨anL,anM⟩ e mem hw hm hp:)
def apC:=λe mem hw hm hp=>(jq e mem hw hm hp).1
def apD:=λe mem hw hm hp=>(jq e mem hw hm hp).2
noncomputable def ajC:=mk agh Tryz.func38 (hc anN hn)
def oN:=λe mem hw hm hp=>ajC.cs (apw apC apD e mem hw hm hp:)
def anO:=λe mem hw hm hp=>(oN e mem hw hm hp).1
def anP:=λe mem hw hm hp=>(oN e mem hw hm hp).2
noncomputable def afp:=mk XV Tryz.func24 (hc ajC hn)
def bY:=λl mem h hm=>afp.cs (amq ⟨anO,anP⟩ l mem h hm:)
def anQ:=λl mem h hm=>(bY l mem h hm).1
def anR:=λl mem h hm=>(bY l mem h hm).2
noncomputable def anS:=mk agi Tryz.func26 (hc Sn hn)
def zF:=λa=>anS.cs (aoQ ⟨afn,afo⟩ a:)
def apE:=λa=>(zF a).1
def apF:=λa=>(zF a).2
noncomputable def afq:=mk XW Tryz.func10 (hc anS hn)
def BD:=afq.cs (akU ⟨apE,apF⟩:)
def anT:=(BD).1
def anU:=(BD).2
set_option maxRecDepth 100000
set_option maxHeartbeats 4000000
noncomputable def afr:=mk XY Tryz.func31 (hc ajC (hc afp hn))
def bW:=λl mem h hm=>afr.cs (amr ⟨anO,anP⟩ anQ anR l mem h hm:)
def anV:=λl mem h hm=>(bW l mem h hm).1
def anW:=λl mem h hm=>(bW l mem h hm).2
noncomputable def abu:=mk XZ Tryz.func80 hn
def anX:=λa ha=>(abu.cs (ad1 a ha:)).1
def anY:=λa ha=>(abu.cs (ad1 a ha:)).2
noncomputable def ajD:=mk agj Tryz.func81 hn
def apG:=λb hb=>(ajD.cs (alo b hb:)).1
def apH:=λb hb=>(ajD.cs (alo b hb:)).2
noncomputable def anZ:=mk agk Tryz.func51 (hc ajD (hc abu hn))
def jM:=λe hw ho=>anZ.cs (aps ⟨apG,apH⟩ ⟨anX,anY⟩ e hw ho:)
def apI:=λe hw ho=>(jM e hw ho).1
def apJ:=λe hw ho=>(jM e hw ho).2
noncomputable def afs:=mk X3 Tryz.func32 (hc anZ hn)
def nu:=λl h=>afs.cs (amm ⟨apI,apJ⟩ l h:)
def an0:=λl h=>(nu l h).1
def an1:=λl h=>(nu l h).2
noncomputable def Sq:=mk X4 Tryz.func18 hn
def aft:=λa b ha=>(Sq.cs (ad3 a b ha:)).1
def afu:=λa b ha=>(Sq.cs (ad3 a b ha:)).2
noncomputable def abv:=mk X5 Tryz.func35 hn
def an2:=λa b ha=>(abv.cs (aei a b ha:)).1
def an3:=λa b ha=>(abv.cs (aei a b ha:)).2
noncomputable def afv:=mk X6 Tryz.func13 (hc abv (hc Sq hn))
def uF:=λa b ha=>afv.cs (amn ⟨an2,an3⟩ ⟨aft,afu⟩ a b ha:)
def an4:=λa b ha=>(uF a b ha).1
def an5:=λa b ha=>(uF a b ha).2
noncomputable def afw:=mk X7 Tryz.func15 (hc Ph (hc Pm (hc gX (hc IG (hc abr hn)))))
def l5:=λc hc hl=>afw.cs (aml ⟨ahR,ahS⟩ ⟨ZP,ZQ⟩ ⟨iO,iP⟩ ⟨Po,Pp⟩ ⟨ajA,ajB⟩ c hc hl:)
def an6:=λc hc hl=>(l5 c hc hl).1
def an7:=λc hc hl=>(l5 c hc hl).2
noncomputable def an8:=mk agl Tryz.func16 (hc afs (hc afr hn))
def uG:=λl mem h hm=>an8.cs (apx ⟨an0,an1⟩ anV anW l mem h hm:)
def apK:=λl mem h hm=>(uG l mem h hm).1
def apL:=λl mem h hm=>(uG l mem h hm).2
noncomputable def afx:=mk X8 Tryz.func5 (hc an8 (hc afv (hc Sq (hc afq (hc R4 (hc afw hn))))))
def oO:=λc hc=>afx.cs (ams ⟨apK,apL⟩ ⟨an4,an5⟩ ⟨aft,afu⟩ ⟨anT,anU⟩ ⟨aac,aad⟩ an6 an7 c hc:)
def an9:=λc hc=>(oO c hc).1
def aoa:=λc hc=>(oO c hc).2
end Go.TX.F
namespace Go.Proofs.YtpkmgiojecpceaaGreat
open Go.ChangeShapes Go.WideShapes Go.ChangeAt Go.RowKit
def apM:ownKnob Tryz.prog.godebug=Option.none:=by kernel_rfl
def aob:laidOutB Tryz.prog=true:=by kernel_rfl
def ajE:Tryz.prog.cellsOf 5=1:=by kernel_rfl
set_option maxRecDepth 100000 in
def lifted(os:Os)(started:os.Started)(H:Type)(enc:TypeId×Value->H):
  ReturnsInHanded {} Tryz.checked os 5 .any (Rows.fnCacDropSpec.pre6 enc Tryz.prog Tryz.f5 Rows.fnCacDropRow.domain false) (Rows.fnCacDropSpec.post enc Tryz.prog Tryz.f5 false true false false):=by
 refine returnsInHanded_of_change (C:=Tryz.checked) apM started (by kernel_rfl) Tryz.func5
  (ChangeSpec.witness6 (enc:=enc) (C:=Tryz.checked) false ⟨#[], #[.slice none 0 0],[]⟩ 8 (by kernel_rfl) (by kernel_rfl) (by kernel_rfl) (by kernel_rfl)) ?_
 intro W base args ds gs before hval0 hW _ _;have hval:∀(j:Nat) t v,Tryz.f5.params[j]? =some t->args[j]? =some v->Value.okWide Tryz.prog W .any base t v:=hval0;have hW':=hW;obtain⟨p,q,hA0,hV,rfl,_,_⟩:=hW;have hA:DataW.TrodAll enc Tryz.prog W 0 (λ_=>true) true Tryz.f5.params.toList args.toList ds p:=hA0;rw [Tryz.params5]at hA hval;obtain⟨v0,d0,rfl,rfl,h0⟩:=trodAll_one hA;obtain⟨rfl,rfl⟩:=trodVars_none hV
 clear hA0 hval0
 simp only [List.append_nil]at hW';have hlt:∀x∈p,x.block<W.heap.size:=λx hx=>by simpa using hW'.lt x hx
 obtain⟨xs,hr,hb⟩:=Go.TX.ZM Tryz.underlying22 Tryz.underlying5 ajE (hval 0 22 v0 rfl rfl) h0 hlt;have hp:=Go.TX.F.an9 xs hb;have hq:=Go.TX.F.aoa xs hb;refine(Go.TX.apz Go.TX.F.afx.ok hr (λg d h=>by cases h) hp).mono λe W' ⟨he,hw⟩=> ?_
 have he:e= .returned (.bool true):=he.trans (congrArg (λz:Bool×Unit=>Ending.returned (.bool z.1)) hq);refine⟨_,he,[d0],[],p,[],p,[],hW',trodAll_mk1 (shut_bool Tryz.underlying4 true),?_,rfl,hw.frame _,λh=>by cases h⟩;exact trodAll_mk1 (Below.trod aob (by kernel_rfl) (of_decide_eq_true (by kernel_rfl)) h0 hw hlt)
def y1:Tryz.pinned.checked.prog.funcNamed Rows.fnCacDropRow.func=some 5:=by kernel_rfl
def aS{a b:Bool}(h:a=true)(k:b=true):(a&&b)=true:=by rw [h,k];rfl
set_option maxHeartbeats 4000000 in
def y2:joinedFacts Tryz.pinned.checked.prog 5 Tryz.f5 Rows.fnCacDropSpec Rows.fnCacDropRow=true:=by
 unfold joinedFacts
 repeat' with_reducible apply aS
 all_goals (as_aux_lemma=>kernel_rfl)
def y3:Func.isWrapper Tryz.prog Tryz.f5 Rows.fnCacDropRow.wrapper Rows.fnCacDropRow.mainSum:=(by unfold Func.isWrapper;first | (rw [if_pos (by decide+kernel)];kernel_rfl) | (rw [if_neg (by decide+kernel)];exact⟨rfl,rfl⟩))
theorem x_holds:Rows.FnCacDropSaid:=
 OpenClaim.holds_of_wide 5 Tryz.f5 rfl rfl rfl rfl rfl rfl rfl ⟨rfl,rfl,rfl,rfl,rfl⟩ rfl rfl rfl rfl rfl y1 Tryz.func5 y2
  (of_decide_eq_true (by kernel_rfl)) y3
  (λos started H enc _=>lifted os started H enc)
end Go.Proofs.YtpkmgiojecpceaaGreat
