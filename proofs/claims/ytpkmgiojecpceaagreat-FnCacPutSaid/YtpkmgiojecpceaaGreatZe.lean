/- For every input the law returns true, and the input reads as it did. No condition. -/
import Derived.Test.YtpkmgiojecpceaaGreatZd
import Derived.ChangeSlices
import Derived.ChangeSame
import Derived.JoinedOf
import Derived.JoinedAt
import Derived.Handed
import Derived.Below
import Derived.Carry
import Derived.OpenShut
import Derived.ChangeKeysEq
import Derived.Test.YtpkmgiojecpceaaGreatRows
set_option maxHeartbeats 1000000
set_option linter.all false
set_option linter.unusedSectionVars false
set_option linter.unusedVariables false
set_option linter.unusedSimpArgs false
namespace Go.TX.F
open Go Go.AE Go.TX
def CAB:(∀e:Cac,ig .cac 0 .i64 e=e.words)/\(∀e:Cac,dA .cac 1 e=e.blk.pc)/\(∀e:Cac,dA .cac 2 e=e.blk.len)/\(∀e:Cac,ig .cac 3 .iop e=e.blk.ops)/\(∀e:Cac,dA .cac 4 e=e.blk.fin)/\(∀e:Cac,dA .cac 5 e=e.blk.x)/\(∀e:Cac,dA .cac 6 e=e.blk.y)/\(∀e:Cac,dA .cac 7 e=e.blk.k):=
 ⟨λ_=>rfl,λ_=>rfl,λ_=>rfl,λ_=>rfl,λ_=>rfl,λ_=>rfl,λ_=>rfl,λ_=>rfl⟩
def CAM:(∀e:Cac,Co.mk .cac (e.words,e.blk.pc,e.blk.len,e.blk.ops,e.blk.fin,e.blk.x,e.blk.y,e.blk.k,())=e)/\(∀x:Cac,([x].length:Int)=1):=⟨λ_=>rfl,λ_=>rfl⟩
def ShK(l:List Cac):Prop:=l.length<1000/\∀x∈l,x.words.length<1000/\x.blk.ops.length<1000000/\x.blk.pc<=1000000
def ShK.at{l:List Cac}(h:ShK l)(i:Nat):(l.getD i default).words.length<1000/\(l.getD i default).blk.ops.length<1000000/\(l.getD i default).blk.pc<=1000000:=by
 by_cases c:i<l.length
 .rw [getD_lt c];exact h.2 _ (List.getElem_mem _)
 .rw [List.getD_eq_getElem?_getD,List.getElem?_eq_none ah];exact⟨by decide,by decide,by decide⟩
def ShK.sub{l r:List Cac}(h:ShK l)(n:r.length<1000)(s:∀x∈r,x∈l):ShK r:=⟨n,λx hx=>h.2 x (s x hx)⟩
def FC(l:List Cac)(pc k:Int):Prop:=(k= -1/\∀j:Int,0<=j->j<l.length->(((l).getD (j).toNat default)).blk.pc≠pc)\/(0<=k/\k<l.length/\(((l).getD (k).toNat default)).blk.pc=pc/\∀j:Int,0<=j->j<k->(((l).getD (j).toNat default)).blk.pc≠pc)
def FC.one{l:List Cac}{pc k m:Int}(h:FC l pc k)(g:FC l pc m):k=m:=by
 rcases h with⟨a,b⟩ | ⟨a,b,c,d⟩<;>rcases g with⟨a',b'⟩ | ⟨a',b',c',d'⟩
 .omega
 .exact absurd c' (b _ a' b')
 .exact absurd c (b' _ a b)
 .rcases Int.lt_trichotomy k m with h | h | h
  .exact absurd c (d' _ a h)
  .exact h
  .exact absurd c' (d _ a' h)
def aew(l:List Cac)(pc:Int)(h:l.length<1000000000):Xq.F () (l,pc,()) (λy=>FC l pc y.1):=by
 dsimp only [Xq,gm];refine aB (λ(y:List Cac×Int×Int×Unit)=>y.1=l/\y.2.1=pc/\0<=y.2.2.1/\y.2.2.1<=l.length/\∀j:Int,0<=j->j<y.2.2.1->(((l).getD (j).toNat default)).blk.pc≠pc) (λy=>(l.length-y.2.2.1).toNat) ⟨rfl,rfl,by simp,by simp,λj h0 h1=>absurd h1 (by simp;omega)⟩ ?_;rintro⟨(l:List Cac),(pc:Int),(i:Int),⟨⟩⟩ hI;dsimp only at hI ⊢;obtain⟨rfl,rfl,h1,h2,h3⟩:=hI;simp (disch:=omega) only [RR,CAB];refine⟨λg=>⟨h1,g,λe=>Or.inr ⟨h1,g,e,h3⟩,λe=>⟨⟨ah,ah,λj j0 j1=> ?_⟩,ah⟩⟩,λg=>Or.inl ⟨rfl,λj j0 j1=>h3 j j0 ah⟩⟩;by_cases c:j<i
 .exact h3 j j0 c
 .rw [show j=i by omega];exact e
def There(w mem:List Int)(pc:Int):Prop:=∀k:Int,0<=k->k<w.length->pc+k<mem.length/\((mem).getD (pc+k).toNat default)=((w).getD (k).toNat default)
def aex(w mem:List Int)(pc:Int)(hw:w.length<1000)(hm:mem.length<1000000000)(p0:0<=pc)(p1:pc<=1000000):WG.F () (w,mem,pc,()) (λy=>y=(bp (There w mem pc),())):=by
 dsimp only [WG,gm];refine aB (λ(y:List Int×List Int×Int×Int×Unit)=>y.1=w/\y.2.1=mem/\y.2.2.1=pc/\0<=y.2.2.2.1/\y.2.2.2.1<=w.length/\∀k:Int,0<=k->k<y.2.2.2.1->pc+k<mem.length/\((mem).getD (pc+k).toNat default)=((w).getD (k).toNat default)) (λy=>(w.length-y.2.2.2.1).toNat) ⟨rfl,rfl,rfl,by simp,by simp,λj h0 h1=>absurd h1 (by simp;omega)⟩ ?_;rintro⟨(w:List Int),(mem:List Int),(pc:Int),(i:Int),⟨⟩⟩ hI;dsimp only at hI ⊢;obtain⟨rfl,rfl,rfl,h1,h2,h3⟩:=hI;simp (disch:=omega) only [RR];refine⟨λg=>⟨ah,ah,ah,ah,λe=> ?_,λe=>⟨⟨ah,ah,λj j0 j1=> ?_⟩,ah⟩⟩,λg=> ?_⟩
 .rw [bN];intro q;obtain⟨q1,q2⟩:=q i h1 g;rcases e with e | e
  .omega
  .exact e q2
 .by_cases c:j<i
  .exact h3 j j0 c
  .rw [show j=i by omega];exact⟨ah,e.2⟩
 .rw [aP];exact λj j0 j1=>h3 j j0 ah
abbrev cE(e : Cac) : Int × Int × Int × Int × Int × Int × List Int × List IOp × Unit := (e.blk.pc, e.blk.len, e.blk.fin, e.blk.x, e.blk.y, e.blk.k, e.words, e.blk.ops, ())
theorem al6{p1 f1}(U1:Y77 p1 f1)(e:Cac)(hw:e.words.length<1000)(ho:e.blk.ops.length<1000000):WE.F (p1,f1,()) (e,()) (λy=>y=cE e):=by
 have mE:∀c:Blk,Co.mk .blk (c.pc,c.len,c.ops,c.fin,c.x,c.y,c.k,())=c:=λ_=>rfl
 dsimp only [WE,gm,kK];simp (disch:=omega) only [RR,CAB,mE,U1.hp _ ho,U1.hf _ ho,List.nil_append,List.length_nil];omega
noncomputable def qp (mem:List Int) (x:Cac):Bool:=bp (0<=x.blk.pc/\There x.words mem x.blk.pc)
def jo{α:Type}{d:α}{P:α->Bool}{l:List α}{i:Int}(h0:0<=i)(h:i<l.length):(l.take (i+1).toNat).filter P=(l.take i.toNat).filter P++(if P (l.getD i.toNat d)=true then [l.getD i.toNat d]else []):=by
 rw [show(i+1).toNat=i.toNat+1 by omega,List.take_succ_eq_append_getElem ah,getD_lt ah,List.filter_append]
 congr 1
 rw [List.filter_cons,List.filter_nil]
def lY{α:Type}(P:α->Bool)(l:List α)(i:Nat):((l.take i).filter P).length<=i:=Nat.le_trans (List.length_filter_le _ _) (List.length_take_le _ _)
structure ac3(pp:Cac×Unit->Bool)(ff:Cac×Unit->Int×Int×Int×Int×Int×Int×List Int×List IOp×Unit):Prop where
 hp:∀e,e.words.length<1000->e.blk.ops.length<1000000->pp (e,())=true
 hf:∀e,e.words.length<1000->e.blk.ops.length<1000000->ff (e,())=cE e
structure al7(pp:List Int×List Int×Int×Unit->Bool)(ff:List Int×List Int×Int×Unit->Bool×Unit):Prop where
 hp:∀w mem pc,w.length<1000->mem.length<1000000000->0<=pc->pc<=1000000->pp (w,mem,pc,())=true
 hf:∀w mem pc,w.length<1000->mem.length<1000000000->0<=pc->pc<=1000000->ff (w,mem,pc,())=(bp (There w mem pc),())
def al8{p1 f1 p2 f2}(U1:ac3 p1 f1)(U2:al7 p2 f2)(l:List Cac)(mem:List Int)(h:ShK l)(hm:mem.length<1000000000):WH.F (p1,f1,p2,f2,()) (l,mem,()) (λy=>y=(l.filter (qp mem),())):=by
 obtain⟨hp1,hf1⟩:=U1;obtain⟨hp2,hf2⟩:=U2;have hl:=h.1;have mC:=CAM;dsimp only [WH,gm,kK,List.map_cons,List.map_nil]at*;refine aB (λ(y:List Cac×List Int×Int×List Cac×Unit)=>y.1=l/\y.2.1=mem/\0<=y.2.2.1/\y.2.2.1<=l.length/\y.2.2.2.1=(l.take y.2.2.1.toNat).filter (qp mem)) (λy=>(l.length-y.2.2.1).toNat) ⟨rfl,rfl,by simp,by simp,by simp⟩ ?_;rintro⟨(l:List Cac),(mem:List Int),(i:Int),(o:List Cac),⟨⟩⟩ hI;dsimp only at hI ⊢;obtain⟨rfl,rfl,h1,h2,rfl⟩:=hI;obtain⟨a1,a2,a3⟩:=h.at i.toNat;have fl:=lY (qp mem) l i.toNat;by_cases c:i<l.length
 .have fs:=jo (d:=default) (P:=qp mem) h1 c;by_cases d:0<=(((l).getD (i).toNat default)).blk.pc
  .have P2:=hp2 _ mem _ a1 hm d a3;have H2:=hf2 _ mem _ a1 hm d a3;have P1:=hp1 _ a1 a2;have H1:=hf1 _ a1 a2;simp (disch:=omega) only [RR,CAB,c,d,P1,P2,H1,H2,mC];refine⟨h1,h1,h1,λe=>⟨h1,ah,⟨ah,ah,?_⟩,ah⟩,λe=>⟨⟨ah,ah,?_⟩,ah⟩⟩
   .rw [fs,if_pos (show qp mem _=true from aP ⟨d,aV.1 e⟩)]
   .rw [fs,if_neg (by rw [qp,bN (λg=>by rw [aP g.2]at e;simp at e)];decide),List.append_nil]
  .simp (disch:=omega) only [RR,CAB,c,d,mC];refine⟨h1,λe=>e.1.elim,λ_=>⟨⟨ah,ah,?_⟩,ah⟩⟩;rw [fs,if_neg (by rw [qp,bN (λg=>d g.1)];decide),List.append_nil]
 .simp (disch:=omega) only [RR,CAB,c];rw [List.take_of_length_le ah]
noncomputable def lg:List Int->List Ins
 | []=> []
 | w::r=>if bp (Wo w/\bW (gN w))=true then gN w::lg r else []
def RS:∀w:List Int,(lg w).length<=w.length
 | []=>Nat.le_refl _
 | w::r=>by
  have:=RS r;unfold lg;split<;>simp only [List.length_cons,List.length_nil]<;>omega
def Ej:∀(a b:List Int),(∀w∈a,Wo w/\bW (gN w))->lg (a++b)=a.map gN++lg b
 | [],b,_=>rfl
 | w::a,b,h=>by
  rw [List.cons_append,lg,if_pos (aP (h w (by simp))),Ej a b (λx hx=>h x (by simp [hx]))];rfl
theorem al9{p1 f1}(U1:ahG p1 f1)(w:List Int)(h:w.length<1000):Xh.F (p1,f1,()) (w,()) (λy=>y=(lg w,())):=by
 have e:∀x y z u:Int,Co.mk .ins (x,y,z,u,())=⟨x,y,z,u⟩:=λ_ _ _ _=>rfl
 dsimp only [Xh,gm];refine aB (λ(y:List Int×Int×List Ins×Unit)=>y.1=w/\0<=y.2.1/\y.2.1<=w.length/\y.2.2.1=(w.take y.2.1.toNat).map gN/\∀x∈w.take y.2.1.toNat,Wo x/\bW (gN x)) (λy=>(w.length-y.2.1).toNat) ⟨rfl,by simp,by simp,by simp,by simp⟩ ?_;rintro⟨(w:List Int),(i:Int),(o:List Ins),⟨⟩⟩ hI;dsimp only at hI ⊢;obtain⟨rfl,h1,h2,rfl,h3⟩:=hI;simp (disch:=omega) only [RR,U1.hp,U1.hf];have tl:=List.length_take_le' i.toNat w;refine⟨λg=>⟨h1,g,?_⟩,λg=> ?_⟩
 .have dr:w=w.take i.toNat++(w.getD i.toNat default::w.drop (i.toNat+1)):=by
   rw [getD_lt ah,<-List.drop_eq_getElem_cons ah,List.take_append_drop]
  unfold tkI;by_cases c:Wo (w.getD i.toNat default)/\bW (gN (w.getD i.toNat default))
  .rw [if_pos (aP c)];simp (disch:=omega) only [RR,e];have ts:=cO (d:=default) h1 g (l:=w) rfl;have ml:((w.take i.toNat).map gN).length=i.toNat:=by rw [List.length_map,List.length_take];omega
   refine⟨by rw [ml];simp only [List.length_cons,List.length_nil];omega,⟨ah,ah,by rw [<-ts,List.map_append];rfl,λx hx=> ?_⟩,ah⟩;rw [<-ts,List.mem_append,List.mem_singleton]at hx;exact hx.elim (h3 x) (λq=>q▸c)
  .rw [if_neg (by rw [bN c];decide)];simp (disch:=omega) only [RR]
   conv=>rhs;rw [dr]
   rw [Ej _ _ h3,lg,if_neg (by rw [bN c];decide),List.append_nil]
   done
 .rw [List.take_of_length_le ah]at h3 ⊢;have:=Ej w [] h3;rw [List.append_nil]at this;rw [this];simp [lg]
def neP(pc:Int)(x:Cac):Bool:= !decide (x.blk.pc=pc)
def jJ(l:List Cac)(e:Cac):List Cac:=(l.filter (neP e.blk.pc)++ [e]).drop ((l.filter (neP e.blk.pc)).length+1-4)
def ama{p1 f1}(U1:ac3 p1 f1)(l:List Cac)(e:Cac)(h:ShK l)(h1:e.words.length<1000)(h2:e.blk.ops.length<1000000):Xr.F (p1,f1,()) (l,e,()) (λy=>y=(jJ l e,())):=by
 obtain⟨hp1,hf1⟩:=U1;have hl:=h.1;have mC:=CAM;dsimp only [Xr,gm,kK,List.map_cons,List.map_nil]at*;refine aB (λ(y:List Cac×Int×Cac×List Cac×Unit)=>y.1=l/\0<=y.2.1/\y.2.1<=l.length/\y.2.2.1=e/\y.2.2.2.1=(l.take y.2.1.toNat).filter (neP e.blk.pc)) (λy=>(l.length-y.2.1).toNat) ⟨rfl,by simp,by simp,rfl,by simp⟩ ?_;rintro⟨(l:List Cac),(i:Int),(e:Cac),(o:List Cac),⟨⟩⟩ hI;dsimp only at hI ⊢;obtain⟨rfl,i1,i2,rfl,rfl⟩:=hI;obtain⟨a1,a2,a3⟩:=h.at i.toNat;have fl:=lY (neP e.blk.pc) l i.toNat;have P0:=hp1 _ h1 h2;have H0:=hf1 _ h1 h2;by_cases c:i<l.length
 .have fs:=jo (d:=default) (P:=neP e.blk.pc) i1 c;by_cases d:(((l).getD (i).toNat default)).blk.pc=e.blk.pc
  .rw [if_neg (by simp [neP,d, -List.getD_eq_getElem?_getD])]at fs;simp (disch:=omega) only [RR,CAB,c,d,mC];exact⟨i1,⟨ah,ah,by rw [fs,List.append_nil]⟩,ah⟩
  .rw [if_pos (by simp [neP,d, -List.getD_eq_getElem?_getD])]at fs;have P1:=hp1 _ a1 a2;have H1:=hf1 _ a1 a2;simp (disch:=omega) only [RR,CAB,c,d,P1,H1,mC];exact⟨i1,i1,ah,⟨ah,ah,fs.symm⟩,ah⟩
 .simp (disch:=omega) only [RR,CAB,c,P0,H0,mC];rw [List.take_of_length_le ah]at fl ⊢;have el:((l.filter (neP e.blk.pc)++ [e]).length:Int)=(l.filter (neP e.blk.pc)).length+1:=by rw [List.length_append,List.length_singleton];omega
  have el':(l.filter (neP e.blk.pc)++ [e]).length=(l.filter (neP e.blk.pc)).length+1:=by rw [List.length_append,List.length_singleton]
  rw [el];generalize hn:(l.filter (neP e.blk.pc)).length=n at*;have w:IntKind.i64.wrap ((n:Int)+1-4)=n+1-4:=w64 ah ah;rw [w];unfold jJ;rw [hn];refine⟨ah,λg3=>⟨ah,ah,ah,ah,ah,ah,?_⟩,λg3=>by rw [show n+1-4=0 by omega];rfl⟩;rw [List.take_of_length_le ah,show((n:Int)+1-4).toNat=n+1-4 by omega]
def Aw(x:Cac):Prop:=(lg x.words).length=x.words.length/\nu x.blk.pc (lg x.words)/\chk (lower x.blk.pc (lg x.words)) x.blk=true
theorem amb{p1 f1 p2 f2 p4 f4}(U1:ac1 p1 f1)(U2:al4 p2 f2){p3:List Int×Unit->Bool}{f3:List Int×Unit->List Ins×Unit}(hp3:∀w,w.length<1000->p3 (w,())=true)(hf3:∀w,w.length<1000->f3 (w,())=(lg w,()))(U4:Y96 p4 f4)(e:Cac)(hw:e.words.length<1000)(ho:e.blk.ops.length<1000000):Xi.F (p1,f1,p2,f2,p3,f3,p4,f4,()) (e,()) (λy=>y=(bp (Aw e),())):=by
 have mE:∀c:Blk,Co.mk .blk (c.pc,c.len,c.ops,c.fin,c.x,c.y,c.k,())=c:=λ_=>rfl
 have tl:=RS e.words;have P1:=U1.hp e.blk.pc (lg e.words) ah;have H1:=U1.hf e.blk.pc (lg e.words) ah;have P2:=U2.hp e.blk.pc (lg e.words) ah;have H2:=U2.hf e.blk.pc (lg e.words) ah;have lw:=Iy H1;rw [H1]at lw;have P4:=U4.hp (lower e.blk.pc (lg e.words)) e.blk (by have:((lower e.blk.pc (lg e.words)).ops.length:Int)<=5000:=lw;omega) ah;have H4:=U4.hf (lower e.blk.pc (lg e.words)) e.blk (by have:((lower e.blk.pc (lg e.words)).ops.length:Int)<=5000:=lw;omega) ah;dsimp only [Xi,gm,kK];simp (disch:=omega) only [RR,CAB,mE,hp3 _ hw,hf3 _ hw,P1,H1,P2,H2,P4,H4];have eq:bp (Aw e)=(decide (((lg e.words).length:Int)=e.words.length)&&bp (nu e.blk.pc (lg e.words))&&chk (lower e.blk.pc (lg e.words)) e.blk):=by
  rw [Bool.eq_iff_iff,aV,Bool.and_eq_true,Bool.and_eq_true,aV,decide_eq_true_eq];exact⟨λ⟨a,b,c⟩=>⟨⟨ah,b⟩,c⟩,λ⟨⟨a,b⟩,c⟩=>⟨ah,b,c⟩⟩
 exact⟨λ_=>by rw [eq],λg=>⟨g,by rw [eq,g];rfl⟩⟩
def Pb(l:List Cac)(mem:List Int):Prop:=l.length<=4/\(∀j:Int,0<=j->j<l.length->Aw ((l).getD (j).toNat default)/\There (((l).getD (j).toNat default)).words mem (((l).getD (j).toNat default)).blk.pc)/\∀i j:Int,0<=i->i<j->j<l.length->(((l).getD (i).toNat default)).blk.pc≠(((l).getD (j).toNat default)).blk.pc
def amc{p2 f2}{p1:Cac×Unit->Bool}{f1:Cac×Unit->Bool×Unit}(hp1:∀e,e.words.length<1000->e.blk.ops.length<1000000->p1 (e,())=true)(hf1:∀e,e.words.length<1000->e.blk.ops.length<1000000->f1 (e,())=(bp (Aw e),()))(U2:al7 p2 f2)(l:List Cac)(mem:List Int)(h:ShK l)(hm:mem.length<1000000000):Xj.F (p1,f1,p2,f2,()) (l,mem,()) (λy=>y=(bp (Pb l mem),())):=by
 have hl:=h.1;dsimp only [Xj,gm,kK];simp (disch:=omega) only [RR,CAB];refine⟨λg=>by rw [bN (λe=>by have:=e.1;omega)],λg=> ?_⟩;refine aB (λ(y:List Cac×List Int×Int×Unit)=>y.1=l/\y.2.1=mem/\0<=y.2.2.1/\y.2.2.1<=l.length/\(∀j:Int,0<=j->j<y.2.2.1->Aw ((l).getD (j).toNat default)/\There (((l).getD (j).toNat default)).words mem (((l).getD (j).toNat default)).blk.pc)/\∀i j:Int,0<=i->i<j->j<y.2.2.1->(((l).getD (i).toNat default)).blk.pc≠(((l).getD (j).toNat default)).blk.pc) (λy=>(l.length-y.2.2.1).toNat) ⟨rfl,rfl,by simp,by simp,λj h0 h1=>absurd h1 (by simp;omega),λi j h0 h1 h2=>absurd h2 (by simp;omega)⟩ ?_;rintro⟨(l':List Cac),(mem':List Int),(i:Int),⟨⟩⟩ hI;dsimp only at hI ⊢;obtain⟨rfl,rfl,i1,i2,i3,i4⟩:=hI;obtain⟨a1,a2,a3⟩:=h.at i.toNat;by_cases c:i<l'.length
 .by_cases d:Aw ((l').getD (i).toNat default)
  .have pc:=d.2.1.pc;have P2:=U2.hp _ mem' _ a1 hm pc.1 a3;have H2:=U2.hf _ mem' _ a1 hm pc.1 a3;simp (disch:=omega) only [RR,CAB,c,hp1 _ a1 a2,hf1 _ a1 a2,aP d,P2,H2];refine⟨i1,i1,i1,λe=> ?_,λe=> ?_⟩
   .rw [bN];intro q;rw [aP (q.2.1 i i1 c).2]at e;cases e
   have th:=aV.1 e;refine aB (λ(y:List Cac×List Int×Int×Int×Unit)=>y.1=l'/\y.2.1=mem'/\y.2.2.1=i/\0<=y.2.2.2.1/\y.2.2.2.1<=i/\∀j:Int,0<=j->j<y.2.2.2.1->(((l').getD (j).toNat default)).blk.pc≠(((l').getD (i).toNat default)).blk.pc) (λy=>(i-y.2.2.2.1).toNat) ⟨rfl,rfl,rfl,by simp,i1,λj h0 h1=>absurd h1 (by simp;omega)⟩ ?_;rintro⟨(u:List Cac),(v:List Int),(w:Int),(k:Int),⟨⟩⟩ hJ;dsimp only at hJ ⊢;obtain⟨rfl,rfl,rfl,k1,k2,k3⟩:=hJ;simp (disch:=omega) only [RR];refine⟨λg1=>⟨k1,ah,i1,c,λq=> ?_,λq=>⟨⟨ah,ah,λj j0 j1=> ?_⟩,ah⟩⟩,λg1=>⟨⟨ah,ah,λj j0 j1=> ?_,λa b b0 b1 b2=> ?_⟩,ah⟩⟩
   .rw [bN];exact λz=>z.2.2 k w k1 g1 c q
   .by_cases y:j<k
    .exact k3 j j0 y
    .rw [show j=k by omega];exact q
   .by_cases y:j<w
    .exact i3 j j0 y
    .rw [show j=w by omega];exact⟨d,th⟩
   .by_cases y:b<w
    .exact i4 a b b0 b1 y
    .rw [show b=w by omega];exact k3 a b0 ah
  .simp (disch:=omega) only [RR,CAB,c,hp1 _ a1 a2,hf1 _ a1 a2,bN d];refine⟨i1,?_,λe=>e.1.elim⟩;rw [bN];exact λz=>d (z.2.1 i i1 c).1
 .simp (disch:=omega) only [RR,CAB,c];rw [aP];exact⟨ah,λj j0 j1=>i3 j j0 ah,λa b a0 a1 a2=>i4 a b a0 a1 ah⟩
def EGB:(∀e:Eng,ig .eng 0 .i64 e=e.au.regs)/\(∀e:Eng,dA .eng 1 e=e.au.pc)/\(∀e:Eng,ig .eng 2 .i64 e=e.au.mem)/\(∀e:Eng,dA .eng 3 e=e.au.save)/\(∀e:Eng,LW .eng 4 e=e.au.bH)/\(∀e:Eng,LW .eng 5 e=e.au.waits)/\(∀e:Eng,dA .eng 6 e=e.au.halt)/\(∀e:Eng,ig .eng 7 .i64 e=e.au.ins)/\(∀e:Eng,ig .eng 8 .i64 e=e.au.outs)/\(∀e:Eng,dA .eng 9 e=e.au.count)/\(∀e:Eng,ig .eng 10 .cac e=e.cache)/\(∀e:Eng,ig .eng 11 .cer e=e.aZ):=
 ⟨λ_=>rfl,λ_=>rfl,λ_=>rfl,λ_=>rfl,λ_=>rfl,λ_=>rfl,λ_=>rfl,λ_=>rfl,λ_=>rfl,λ_=>rfl,λ_=>rfl,λ_=>rfl⟩
theorem MKM:∀m:aG,Co.mk .au (m.regs,m.pc,m.mem,m.save,m.bH,m.waits,m.halt,m.ins,m.outs,m.count,())=m:=λ_=>rfl
def Pf(e:Eng):Prop:=MOK e.au/\Pb e.cache e.au.mem/\Km e.aZ
def amd{p2 f2 p3 f3}{p1:List Cac×List Int×Unit->Bool}{f1:List Cac×List Int×Unit->Bool×Unit}(hp1:∀l mem,ShK l->mem.length<1000000000->p1 (l,mem,())=true)(hf1:∀l mem,ShK l->mem.length<1000000000->f1 (l,mem,())=(bp (Pb l mem),()))(U2:ao8 p2 f2)(U3:Zi p3 f3)(e:Eng)(h1:MSh e.au)(h2:ShK e.cache)(h3:ShD e.aZ):Xl.F (p1,f1,p2,f2,p3,f3,()) (e,()) (λy=>y=(bp (Pf e),())):=by
 obtain⟨hp2,hf2⟩:=U2;obtain⟨hp3,hf3⟩:=U3;have mM:=MKM;have P1:=hp1 _ e.au.mem h2 h1.2.1;have H1:=hf1 _ e.au.mem h2 h1.2.1;dsimp only [Xl,gm,ou]at*;simp (disch:=omega) only [RR,EGB,mM,hp3 _ h1,hf3 _ h1,P1,H1,hp2 _ h3,hf2 _ h3];unfold Pf;rw [rV,rV,Bool.and_assoc]
abbrev e12(e : Eng) : List Int × Int × Int × Bool × Bool × Int × List Int × List Int × Int × List Cer × List Int × List Cac × Unit := (e.au.regs, e.au.pc, e.au.save, e.au.bH, e.au.waits, e.au.halt, e.au.ins, e.au.outs, e.au.count, e.aZ, e.au.mem, e.cache, ())
noncomputable def newE (m:aG):Eng:=if bp (MOK m)=true then⟨m,[],[]⟩else⟨KC,[],[]⟩
def ame{p1 f1 p2 f2}(U1:Zi p1 f1)(U2:acU p2 f2)(m:aG)(h:MSh m):Ww.F (p1,f1,p2,f2,()) (m,()) (λy=>y=e12 (newE m)):=by
 dsimp only [Ww,gm];simp (disch:=omega) only [RR,U1.hp _ h,U1.hf _ h,U2.hp _ h,U2.hf _ h];unfold newE;exact⟨λg=>by rw [g];rfl,λg=>by rw [g];rfl⟩
def ZA{m:aG}(h:MSh m)(ho:m.outs.length<900000000)(b:Bool):MSh (stS m b)/\(stS m b).outs.length<=m.outs.length+1/\(stS m b).ins.length<=m.ins.length:=by
 obtain⟨a1,a2,a3,a4⟩:=h;unfold stS;split
 .rename_i g;have ok:=aV.1 g;split
  .exact⟨⟨a1,a2,a3,a4⟩,Nat.le_succ _,Nat.le_refl _⟩
  .have k:=Zv ok (by have:=ok.ct;omega) b;have l:=Zw m b;exact⟨⟨by rw [k.r4];omega,by have:=k.m64;omega,ah,ah⟩,l.2,l.1⟩
 .exact⟨⟨by decide,by decide,by decide,by decide⟩,Nat.zero_le _,Nat.zero_le _⟩
noncomputable def su (e:Eng) (q:List Int):Eng:=⟨stS e.au (bp (e.au.count∈q)),e.cache.filter (qp (stS e.au (bp (e.au.count∈q))).mem),e.aZ⟩
structure amf(pp:List Cac×List Int×Unit->Bool)(ff:List Cac×List Int×Unit->List Cac×Unit):Prop where
 hp:∀l mem,ShK l->mem.length<1000000000->pp (l,mem,())=true
 hf:∀l mem,ShK l->mem.length<1000000000->ff (l,mem,())=(l.filter (qp mem),())
def ahO{p1 f1 p2 f2 p3 f3}(U1:amf p1 f1)(U2:aps p2 f2)(U3:ahH p3 f3)(e:Eng)(q:List Int)(h1:MSh e.au)(ho:e.au.outs.length<900000000)(h2:ShK e.cache)(hq:q.length<1000000000):Od.F (p1,f1,p2,f2,p3,f3,()) (e.au.regs,e.au.pc,e.au.mem,e.au.save,e.au.bH,e.au.waits,e.au.halt,e.au.ins,e.au.outs,e.au.count,e.cache,q,e.aZ,()) (λy=>y=e12 (su e q)):=by
 obtain⟨hp1,hf1⟩:=U1;obtain⟨hp2,hf2⟩:=U2;obtain⟨hp3,hf3⟩:=U3;have mM:=MKM;dsimp only [Od,gm,ou]at*;have P3:=hp3 _ e.au.count hq;have H3:=hf3 _ e.au.count hq;have P2:=hp2 e.au (bp (e.au.count∈q)) h1 ho;have H2:=hf2 e.au (bp (e.au.count∈q)) h1 ho;have sh:=(ZA h1 ho (bp (e.au.count∈q))).1;have P1:=hp1 _ (stS e.au (bp (e.au.count∈q))).mem h2 sh.2.1;have H1:=hf1 _ (stS e.au (bp (e.au.count∈q))).mem h2 sh.2.1;simp (disch:=omega) only [RR,mM,P3,H3,P2,H2,P1,H1];rfl
theorem amg{p1 f1 p2 f2 p3 f3}(U1:ac3 p1 f1)(U2:alK p2 f2)(U3:acU p3 f3)(e:Eng)(h1:MSh e.au)(h2:ShK e.cache)(h3:ShC e.aZ):Xo.F (p1,f1,p2,f2,p3,f3,()) (e,()) (λy=>y=e12 e):=by
 obtain⟨hp1,hf1⟩:=U1;obtain⟨hp2,hf2⟩:=U2;obtain⟨hp3,hf3⟩:=U3;have mM:=MKM;have mC:=CAM;have mQ:∀q:Cer,Co.mk .cer (q.base.pc,q.base.len,q.base.ops,q.base.fin,q.base.x,q.base.y,q.base.k,q.made.pc,q.made.len,q.made.ops,q.made.fin,q.made.x,q.made.y,q.made.k,())=q:=λ_=>rfl
 unfold acQ at hf2;dsimp only [Xo,gm,ou,kK,List.cons_append,List.nil_append,List.map_cons,List.map_nil]at*;simp (disch:=omega) only [RR,EGB,mM,hp3 _ h1,hf3 _ h1];have l2:=h2.1;have l3:=h3.1;have cq:∀x:Cer,([x].length:Int)=1:=λ_=>rfl
 refine aB (λy=>∃i:Nat,i<=e.cache.length/\y=((i:Int),e,(0:Int),(0:Int),false,false,(0:Int),(0:Int),e.au.pc,e.au.save,e.au.bH,e.au.waits,e.au.halt,e.au.count,e.au.regs,e.au.mem,e.au.ins,e.au.outs,e.cache.take i,())) (λy=>(e.cache.length-y.1).toNat) ⟨0,Nat.zero_le _,rfl⟩ ?_;rintro y ⟨i,hi,rfl⟩;dsimp only;obtain⟨a1,a2,a3⟩:=h2.at i;have ei:((i:Int)).toNat=i:=rfl;by_cases c:(i:Int)<e.cache.length
 .have tl:=List.length_take_le' i e.cache;simp (disch:=omega) only [RR,c,ei,hp1 _ a1 a2,hf1 _ a1 a2,mC];refine⟨ah,ah,⟨i+1,ah,?_⟩,ah⟩;rw [List.take_succ_eq_append_getElem ah,getD_lt ah];rfl
 .simp (disch:=omega) only [RR,c];rw [List.take_of_length_le ah];refine aB (λy=>∃i:Nat,i<=e.aZ.length/\y=((i:Int),e,(0:Int),(0:Int),false,false,(0:Int),(0:Int),e.au.pc,e.au.save,e.au.bH,e.au.waits,e.au.halt,e.au.count,e.au.regs,e.au.mem,e.au.ins,e.au.outs,e.cache,e.aZ.take i,())) (λy=>(e.aZ.length-y.1).toNat) ⟨0,Nat.zero_le _,rfl⟩ ?_;rintro y ⟨j,hj,rfl⟩;dsimp only;have b:=h3.at j;have ej:((j:Int)).toNat=j:=rfl;by_cases c:(j:Int)<e.aZ.length
  .have tl:=List.length_take_le' j e.aZ;simp (disch:=omega) only [RR,c,ej,hp2 _ b.1 b.2,hf2 _ b.1 b.2,mQ,cq];refine⟨ah,ah,⟨j+1,ah,?_⟩,ah⟩;rw [List.take_succ_eq_append_getElem ah,getD_lt ah];rfl
  .simp (disch:=omega) only [RR,c];rw [List.take_of_length_le ah]
def amh(e:Cac)(pc:Int):agn.F () (e,pc,()) (λy=>y=(decide (e.blk.pc=pc),pc,())):=by
 dsimp only [agn,gm];simp (disch:=omega) only [RR,CAB]
def ami{p1:Cac×Int×Unit->Bool}{f1:Cac×Int×Unit->Bool×Int×Unit}(hp1:∀e pc,p1 (e,pc,())=true)(hf1:∀e pc,f1 (e,pc,())=(decide (e.blk.pc=pc),pc,()))(l:List Cac)(pc:Int)(h:l.length<1000000000):XV.F (p1,f1,()) (l,pc,()) (λy=>y.2.1=pc/\FC l pc y.1):=by
 dsimp only [XV,gm];refine aB (λ(y:List Cac×Int×Int×Int×Unit)=>y.1=l/\y.2.1=l.length/\0<=y.2.2.1/\y.2.2.1<=l.length/\y.2.2.2.1=pc/\∀j:Int,0<=j->j<y.2.2.1->(((l).getD (j).toNat default)).blk.pc≠pc) (λy=>(l.length-y.2.2.1).toNat) ⟨rfl,rfl,by simp,by simp,rfl,λj h0 h1=>absurd h1 (by simp;omega)⟩ ?_;rintro⟨(l:List Cac),(n:Int),(i:Int),(pc:Int),⟨⟩⟩ hI;dsimp only at hI ⊢;obtain⟨rfl,rfl,h1,h2,rfl,h3⟩:=hI;simp (disch:=omega) only [RR,CAB,hp1,hf1];refine⟨λg=>⟨h1,g,λe=>Or.inr ⟨h1,g,e,h3⟩,λe=>⟨⟨ah,ah,λj j0 j1=> ?_⟩,ah⟩⟩,λg=>Or.inl ⟨rfl,λj j0 j1=>h3 j j0 ah⟩⟩;by_cases c:j<i
 .exact h3 j j0 c
 .rw [show j=i by omega];exact e
def apA{p1:List Cac×Int×Unit->Bool}{f1:List Cac×Int×Unit->Int×Int×Unit}(hp1:∀l pc,l.length<1000000000->p1 (l,pc,())=true)(hf1:∀l pc,l.length<1000000000->(f1 (l,pc,())).2.1=pc/\FC l pc (f1 (l,pc,())).1)(l:List Cac)(pc:Int)(h:l.length<1000000000):agq.F (p1,f1,()) (l,pc,()) (λy=>FC l pc y.1):=by
 dsimp only [agq,gm];simp (disch:=omega) only [RR,hp1 _ pc h];exact(hf1 _ pc h).2
structure amj(pp:List Cac×Int×Unit->Bool)(ff:List Cac×Int×Unit->Int×Unit):Prop where
 hp:∀l pc,l.length<1000000000->pp (l,pc,())=true
 hf:∀l pc,l.length<1000000000->FC l pc (ff (l,pc,())).1
def lvS(m:aG)(b:Blk)(n h:Int):aG:={m with pc:=b.pc+n,count:=m.count+n,halt:=h}
def ZB(m:aG)(b:Blk)(n h:Int)(h1:0<=m.count/\m.count<=2000000)(h2:0<=n/\n<=1000)(h3: -1000<=b.pc/\b.pc<=1000000):Og.F () (m.pc,m.save,m.bH,m.waits,m.halt,m.ins,m.count,b,n,h,m.regs,m.mem,m.outs,()) (λy=>y=mB (lvS m b n h)):=by
 dsimp only [Og,gm];simp (disch:=omega) only [RR,RB];rfl
def ZE(b:Blk)(a n:Int)(h2:0<=n/\n<=1000)(h3: -1000<=b.pc/\b.pc<=1000000)(h4: -1000<=b.len/\b.len<=1000000):Oh.F () (b,a,n,()) (λy=>y=(decide (b.pc+n<a)&&decide (a<b.pc+b.len),())):=by
 dsimp only [Oh,gm];simp (disch:=omega) only [RR,RB]
def ahP{p1 f1}(U1:Y24 p1 f1)(m:aG)(o:IOp)(x y:Int)(h:o.kind=2->0<=o.k/\o.k<m.regs.length):Ol.F (p1,f1,()) (m,o,x,y,()) (λz=>z=(if o.kind=1 then o.k else if o.kind=2 then((m.regs).getD (o.k).toNat default)else if o.kind=3 then wdo o.k x y else 0,())):=by
 dsimp only [Ol,gm];simp (disch:=omega) only [RR,RB,MRB,U1.hp,U1.hf];refine⟨λe=>by rw [if_pos e],λe=>⟨λg=>⟨(h g).1,(h g).2,by rw [if_neg e,if_pos g]⟩,λg=>⟨λk=>by rw [if_neg e,if_neg g,if_pos k],λk=>by rw [if_neg e,if_neg g,if_neg k]⟩⟩⟩
def goS(b:Blk)(v:List Int):Int:=if b.fin=1 then b.k else if b.fin=2 then((v).getD (b.x).toNat default)else if b.fin=3/\((v).getD (b.x).toNat default)=((v).getD (b.y).toNat default)then b.k else if b.fin=4/\((v).getD (b.x).toNat default)< ((v).getD (b.y).toNat default)then b.k else b.pc+b.len
def ZF(b:Blk)(v:List Int)(h3: -1000<=b.pc/\b.pc<=1000000)(h4: -1000<=b.len/\b.len<=1000000)(hx:b.fin≠1->0<=b.x/\b.x<v.length)(hy:3<=b.fin->0<=b.y/\b.y<v.length):Om.F () (b,v,()) (λz=>z=(goS b v,())):=by
 dsimp only [Om,gm];simp (disch:=omega) only [RR,RB];unfold goS;refine⟨λe=>by rw [if_pos e],λe=>⟨λg=>⟨(hx e).1,(hx e).2,by rw [if_neg e,if_pos g]⟩,λg=>⟨λk=> ?_,λk=>⟨λj=> ?_,λj=>by rw [if_neg e,if_neg g,if_neg (λz=>k z.1),if_neg (λz=>j z.1)]⟩⟩⟩⟩
 .have Y:=hy ah;exact⟨(hx e).1,(hx e).2,Y.1,Y.2,λz=>by rw [if_neg e,if_neg g,if_pos ⟨k,z⟩],λz=>by rw [if_neg e,if_neg g,if_neg (λw=>z w.2),if_neg (λw=>by omega)]⟩
 .have Y:=hy ah;exact⟨(hx e).1,(hx e).2,Y.1,Y.2,λz=>by rw [if_neg e,if_neg g,if_neg (λw=>k w.1),if_pos ⟨j,z⟩],λz=>by rw [if_neg e,if_neg g,if_neg (λw=>k w.1),if_neg (λw=>z w.2)]⟩
noncomputable def El (m:aG) (q:List Int) (left size:Int):Bool:=bp (size<=left/\m.count<=1000000-size/\∀k:Int,1<=k->k<size->m.count+k∉q)
def ZG{p1 f1}(U1:ahH p1 f1)(m:aG)(q:List Int)(left size:Int)(hq:q.length<1000000000)(h1:0<=m.count/\m.count<=2000000)(h2: -1000<=size/\size<=1000000):Oe.F (p1,f1,()) (m,q,left,size,()) (λy=>y=(El m q left size,())):=by
 dsimp only [Oe,gm];simp (disch:=omega) only [RR,MRB];refine⟨λg=>by unfold El;rw [bN (λz=>by omega)],λg=> ?_⟩;refine aB (λ(y:List Int×Int×Int×aG×Unit)=>y.1=q/\y.2.1=size/\1<=y.2.2.1/\(y.2.2.1<=size\/y.2.2.1=1)/\y.2.2.2.1=m/\∀k:Int,1<=k->k<y.2.2.1->m.count+k∉q) (λy=>(size-y.2.2.1).toNat) ⟨rfl,rfl,by simp,Or.inr rfl,rfl,λk h0 h1=>absurd h1 (by simp;omega)⟩ ?_;rintro⟨(q:List Int),(s:Int),(k:Int),(m:aG),⟨⟩⟩ hI;dsimp only at hI ⊢;obtain⟨rfl,rfl,k1,k2,rfl,k3⟩:=hI;simp (disch:=omega) only [RR,U1.hp _ _ hq,U1.hf _ _ hq];refine⟨λc=>⟨λe=> ?_,λe=> ?_⟩,λc=>by unfold El;rw [aP ⟨ah,ah,λj j0 j1=>k3 j j0 ah⟩]⟩
 .unfold El;rw [bN (λz=>z.2.2 k k1 c (aV.1 e))]
 .refine⟨⟨ah,ah,λj j0 j1=> ?_⟩,ah⟩;by_cases z:j<k
  .exact k3 j j0 z
  .rw [show j=k by omega];exact kQ.1 e
def aey(b:List Int)(k:Int)(hb:By b)(h0:0<=k)(h1:k+1<b.length)(hl:b.length<1000000000):XG.F () (b,k,()) (λy=>y=(((b).getD (k).toNat default)*256+((b).getD (k+1).toNat default),())):=by
 have B:=λk:Nat=>hb.at k
 have c:∀k:Nat,IntKind.i64.wrap (b.getD k default)=b.getD k default:=λk=>by have:=B k;exact w64 ah ah
 have B0:=B k.toNat;have B1:=B (k+1).toNat;dsimp only [XG,gm];simp (disch:=omega) only [RR,c];exact⟨h0,ah,ah,h1⟩
def evR(m:aG)(b:Blk)(o:IOp)(x y:Int):aG×Int×Bool:=
 if o.kind=7 then({m with outs:=m.outs++ [x]},0,false)
 else if o.kind=6 then({m with ins:=m.ins.drop 1},m.ins.getD 0 0,false)
 else if 64<=x then(lvS m b o.at_ 3,0,true)
 else if o.kind=4 then(m,((m.mem).getD (x).toNat default),false)
 else if b.pc+o.at_<x/\x<b.pc+b.len then(lvS {m with mem:=m.mem.set x.toNat y} b (o.at_+1) 0,0,true)
 else({m with mem:=m.mem.set x.toNat y},0,false)
abbrev ahQ(z : aG × Int × Bool) : Int × Int × Bool × Bool × Int × List Int × Int × Int × Bool × List Int × List Int × List Int × Unit := (z.1.pc, z.1.save, z.1.bH, z.1.waits, z.1.halt, z.1.ins, z.1.count, z.2.1, z.2.2, z.1.regs, z.1.mem, z.1.outs, ())
theorem ahR{p1:Int×Int×Bool×Bool×Int×List Int×Int×Blk×Int×Int×List Int×List Int×List Int×Unit->Bool}{f1:Int×Int×Bool×Bool×Int×List Int×Int×Blk×Int×Int×List Int×List Int×List Int×Unit->Int×Int×Bool×Bool×Int×List Int×Int×List Int×List Int×List Int×Unit}(hp1:∀(m:aG) (b:Blk) (n h:Int),0<=m.count/\m.count<=2000000->0<=n/\n<=1000-> -1000<=b.pc/\b.pc<=1000000->p1 (m.pc,m.save,m.bH,m.waits,m.halt,m.ins,m.count,b,n,h,m.regs,m.mem,m.outs,())=true)(hf1:∀(m:aG) (b:Blk) (n h:Int),0<=m.count/\m.count<=2000000->0<=n/\n<=1000-> -1000<=b.pc/\b.pc<=1000000->f1 (m.pc,m.save,m.bH,m.waits,m.halt,m.ins,m.count,b,n,h,m.regs,m.mem,m.outs,())=mB (lvS m b n h)){p2:Blk×Int×Int×Unit->Bool}{f2:Blk×Int×Int×Unit->Bool×Unit}(hp2:∀(b:Blk) (a n:Int),0<=n/\n<=1000-> -1000<=b.pc/\b.pc<=1000000-> -1000<=b.len/\b.len<=1000000->p2 (b,a,n,())=true)(hf2:∀(b:Blk) (a n:Int),0<=n/\n<=1000-> -1000<=b.pc/\b.pc<=1000000-> -1000<=b.len/\b.len<=1000000->f2 (b,a,n,())=(decide (b.pc+n<a)&&decide (a<b.pc+b.len),()))(m:aG)(b:Blk)(o:IOp)(x y:Int)(hm:m.mem.length=64)(x0:0<=x)(hi:m.ins.length<1000000000)(ho:m.outs.length<900000000)(h1:0<=m.count/\m.count<=1000000)(h2:0<=o.at_/\o.at_<=100)(h3: -1000<=b.pc/\b.pc<=1000000)(h4: -1000<=b.len/\b.len<=1000000):Oi.F (p1,f1,p2,f2,()) (m.pc,m.save,m.bH,m.waits,m.halt,m.ins,m.count,b,o,x,y,m.regs,m.mem,m.outs,()) (λz=>z=ahQ (evR m b o x y)):=by
 unfold mB at hf1;have P1:=hp1 m b o.at_ 3 ah ah h3;have H1:=hf1 m b o.at_ 3 ah ah h3;have P2:=hp2 b x o.at_ ah h3 h4;have H2:=hf2 b x o.at_ ah h3 h4;have P3:=hp1 {m with mem:=m.mem.set x.toNat y} b (o.at_+1) 0 (show 0<=m.count/\m.count<=2000000 by omega) ah h3;have H3:=hf1 {m with mem:=m.mem.set x.toNat y} b (o.at_+1) 0 (show 0<=m.count/\m.count<=2000000 by omega) ah h3;dsimp only at P3 H3;dsimp only [Oi,gm];simp (disch:=omega) only [RR,RB,P1,H1,P2,H2,P3,H3,hm,nP];unfold evR;have d0:(default:Int)=0:=rfl;refine⟨λe=>⟨by simp only [List.length_cons,List.length_nil];omega,by rw [if_pos e]⟩,λe7=>⟨λe=>⟨λg=>⟨ah,g,ah,ah,ah,?_⟩,λg=> ?_⟩,λe6=>⟨λg=>by rw [if_neg e7,if_neg e6,if_pos g],λg=>⟨λe=>⟨x0,ah,x0,ah,by rw [if_neg e7,if_neg e6,if_neg g,if_pos e]⟩,λe4=>⟨x0,ah,x0,ah,λe=>by rw [if_neg e7,if_neg e6,if_neg g,if_neg e4,if_pos e],λe=> ?_⟩⟩⟩⟩⟩
 .rw [if_neg e7,if_pos e,List.take_of_length_le ah];rfl
 .have n:m.ins=[]:=List.eq_nil_of_length_eq_zero ah;rw [if_neg e7,if_pos e,n];rfl
 .rw [if_neg e7,if_neg e6,if_neg g,if_neg e4,if_neg (λz=>by rw [decide_eq_true z.1,decide_eq_true z.2]at e;cases e)]
noncomputable def eU (mem:List Int):Nat->Int->List Ins
 | 0,_=> []
 | n+1,p=>if bp (p<64/\(Wo ((mem).getD (p).toNat default)/\bW (gN ((mem).getD (p).toNat default)))/\(gN ((mem).getD (p).toNat default)).op≠0)=true then(if bp (11<=(gN ((mem).getD (p).toNat default)).op/\(gN ((mem).getD (p).toNat default)).op<=13)=true then [gN ((mem).getD (p).toNat default)]else gN ((mem).getD (p).toNat default)::eU mem n (p+1))else []
noncomputable def findF (m:aG):List Ins:=if bp (MOK m)=true then eU m.mem 8 m.pc else []
def rT(mem:List Int):∀(n:Nat) (p:Int),(eU mem n p).length<=n/\(0< (eU mem n p).length->p+(eU mem n p).length<=64)/\
  ∀i:Nat,i< (eU mem n p).length->bW ((eU mem n p).getD i default)/\((eU mem n p).getD i default).op≠0/\(11<=((eU mem n p).getD i default).op/\((eU mem n p).getD i default).op<=13->i+1=(eU mem n p).length)
 | 0,_=>⟨Nat.le_refl _,λh=>absurd h (by simp [eU]),λi hi=>absurd hi (by simp [eU])⟩
 | n+1,p=>by
  obtain⟨r1,r2,r3⟩:=rT mem n (p+1);unfold eU;split
  .rename_i g;obtain⟨g1,⟨g2,g3⟩,g4⟩:=aV.1 g;split
   .refine⟨by simp,λ_=>by simp;omega,λi hi=> ?_⟩;have:i=0:=by simp at hi;omega
    subst this;exact⟨g3,g4,λ_=>by simp⟩
   .rename_i e;have e':=kQ.1 (by simpa using e);refine⟨by simp;omega,λ_=> ?_,λi hi=> ?_⟩
    .by_cases z:0< (eU mem n (p+1)).length
     .have:=r2 z;simp;omega
     .simp;omega
    .cases i with
     | zero=>exact⟨g3,g4,λq=>absurd q e'⟩
     | succ i=>
      have:=r3 i (by simpa using hi);exact⟨this.1,this.2.1,λq=>by have:=this.2.2 q;simp;omega⟩
  .exact⟨by simp,λh=>absurd h (by simp),λi hi=>absurd hi (by simp)⟩
def Em(m:aG):(findF m).length<=8/\(0< (findF m).length->MOK m/\nu m.pc (findF m)):=by
 unfold findF;split
 .rename_i g;have ok:=aV.1 g;have pw:0<=m.pc/\m.pc<=65535:=ok.pc;obtain⟨r1,r2,r3⟩:=rT m.mem 8 m.pc;exact⟨r1,λh=>⟨ok,⟨ah,ah⟩,⟨ah,by have:=r2 h;omega⟩,r3⟩⟩
 .exact⟨by simp,λh=>absurd h (by simp)⟩
def amk{w:Int}(h:Wo w/\bW (gN w)):tkI w=((gN w).op,(gN w).d,(gN w).a,(gN w).k,true,()):=by unfold tkI;rw [if_pos (aP h)]
theorem aml{p1 f1 p2 f2 p3 f3}(U1:ahs p1 f1)(U2:ahG p2 f2)(U3:Zi p3 f3)(m:aG)(h:MSh m):Xt.F (p1,f1,p2,f2,p3,f3,()) (m,()) (λy=>y=(findF m,())):=by
 obtain⟨hp1,hf1⟩:=U1;obtain⟨hp2,hf2⟩:=U2;obtain⟨hp3,hf3⟩:=U3
 replace hf1:∀i:Int,f1 (i,())=(bp (11<=i/\i<=13),()):=λi=>by rw [hf1 i,Prod.ext_iff];exact⟨by rw [Bool.eq_iff_iff,dI,aV],rfl⟩
 have e4:∀x y z u:Int,Co.mk .ins (x,y,z,u,())=⟨x,y,z,u⟩:=λ_ _ _ _=>rfl
 dsimp only [Xt,gm,ou];simp (disch:=omega) only [RR,MRB,hp3 _ h,hf3 _ h];refine⟨λg=>by unfold findF;rw [g];rfl,λg=> ?_⟩;have ok:=aV.1 g;have pw:0<=m.pc/\m.pc<=65535:=ok.pc;have m6:=ok.m64;have fE:findF m=eU m.mem 8 m.pc:=by unfold findF;rw [g,if_pos rfl]
 rw [fE];generalize hG:eU m.mem 8 m.pc=G;refine aB (λ(y:Int×aG×List Ins×Unit)=>0<=y.1/\y.1<=8/\y.2.1=m/\y.2.2.1.length<=y.1/\y.2.2.1++eU m.mem (8-y.1).toNat (m.pc+y.1)=G) (λy=>(8-y.1).toNat) ⟨by simp,by simp,rfl,by simp,by simpa using hG⟩ ?_;rintro⟨(i:Int),(m:aG),(o:List Ins),⟨⟩⟩ hI;dsimp only at hI ⊢;obtain⟨i1,i2,rfl,i3,i4⟩:=hI;simp (disch:=omega) only [RR,hp1,hf1,hp2,hf2,MRB,m6,List.length_cons,List.length_nil,List.length_append,e4];have w:IntKind.i64.wrap (m.pc+i)=m.pc+i:=w64 ah ah;refine⟨λc=> ?_,λc=> ?_⟩
 .obtain⟨n,hn⟩:∃n,(8-i).toNat=n+1:=⟨(8-i).toNat-1,ah⟩;rw [hn]at i4;unfold eU at i4;by_cases z:Wo ((m.mem).getD ((m.pc+i)).toNat default)/\bW (gN ((m.mem).getD ((m.pc+i)).toNat default))
  .rw [amk z];generalize hd:gN ((m.mem).getD ((m.pc+i)).toNat default)=d at*;have md:(⟨d.op,d.d,d.a,d.k⟩:Ins)=d:=rfl;dsimp only;rw [md];refine⟨ah,ah,λe=> ?_,λe=>⟨ah,λq=> ?_,λq=>⟨⟨ah,ah,ah,?_⟩,ah⟩⟩⟩
   .rw [if_neg (by rw [bN (λy=>y.2.2 (by simpa using e))];decide)]at i4;rw [<-i4,List.append_nil]
   .rw [if_pos (aP ⟨ah,z,by simpa using e⟩),if_pos q]at i4;rw [<-i4]
   .rw [if_pos (aP ⟨ah,z,by simpa using e⟩),if_neg (by rw [q];decide)]at i4;rw [show(8- (i+1)).toNat=n by omega,<-i4,List.append_assoc,show m.pc+(i+1)=m.pc+i+1 by omega];rfl
  .have tf:(tkI ((m.mem).getD ((m.pc+i)).toNat default)).2.2.2.2.1=false:=by unfold tkI;rw [if_neg (by rw [bN z];decide)]
   rw [if_neg (by rw [bN (λy=>z y.2.1)];decide),List.append_nil]at i4;rw [tf];refine⟨ah,ah,λ_=>by rw [<-i4],λe=>by simp at e⟩
 .have:o=G:=by
   rw [<-i4];by_cases z:i<8
   .obtain⟨n,hn⟩:∃n,(8-i).toNat=n+1:=⟨(8-i).toNat-1,ah⟩;rw [hn];unfold eU;have c:=Bool.and_eq_false_iff.1 c;rw [decide_eq_false_iff_not,decide_eq_false_iff_not]at c;rw [if_neg (by rw [bN (λy=>by have:=y.1;omega)];decide),List.append_nil]
   .rw [show(8-i).toNat=0 by omega];unfold eU;rw [List.append_nil]
  rw [this]
def ac4{l:List Int}{n i:Nat}(h:i<n):(vo l n).getD i default=rdO l (7+6*i):=by
 rw [getD_lt (by unfold vo;rw [List.length_map,List.length_range];exact h)];simp [vo]
def ahS{l:List Int}(hl:By l)(h7:7<=l.length)(h6:(l.length-7)%6=0):Iq (rdB l)=l:=by
 have B:=λk:Nat=>hl.at k
 have ol:(rdB l).ops.length=(l.length-7)/6:=by show(vo l _).length=_;unfold vo;rw [List.length_map,List.length_range]
 have key:∀n,n<l.length->(Iq (rdB l)).getD n default=l.getD n default:=λn hn=>by
  by_cases c:n<7
  .have b0:=B 0;have b1:=B 1;have b2:=B 2;have b3:=B 3;have b4:=B 4;have b5:=B 5;have b6:=B 6;have e:n=0\/n=1\/n=2\/n=3\/n=4\/n=5\/n=6:=by omega
   rcases e with rfl | rfl | rfl | rfl | rfl | rfl | rfl
   .show l.getD 0 default%256=_;omega
   .show l.getD 1 default%256=_;omega
   .show l.getD 2 default%256=_;omega
   .show l.getD 3 default%256=_;omega
   .show l.getD 4 default%256=_;omega
   .show(l.getD 5 default*256+l.getD 6 default)/256%256=_;omega
   .show(l.getD 5 default*256+l.getD 6 default)%256=_;omega
  .obtain⟨i,j,hj,rfl⟩:∃i j,j<6/\n=7+6*i+j:=⟨(n-7)/6,(n-7)%6,ah,ah⟩;have hi:i< (l.length-7)/6:=by omega
   rw [ahr _ i j (by rw [ol];exact hi) hj];have er:(rdB l).ops.getD i default=rdO l (7+6*i):=ac4 hi;rw [er];have b0:=B (7+6*i);have b1:=B (7+6*i+1);have b2:=B (7+6*i+2);have b3:=B (7+6*i+3);have b4:=B (7+6*i+4);have b5:=B (7+6*i+5);have e:j=0\/j=1\/j=2\/j=3\/j=4\/j=5:=by omega
   rcases e with rfl | rfl | rfl | rfl | rfl | rfl
   .show l.getD (7+6*i) default%256=l.getD (7+6*i) default;omega
   .show l.getD (7+6*i+1) default%256=_;omega
   .show l.getD (7+6*i+2) default%256=_;omega
   .show(l.getD (7+6*i+3) default*256+l.getD (7+6*i+4) default)/256%256=_;omega
   .show(l.getD (7+6*i+3) default*256+l.getD (7+6*i+4) default)%256=_;omega
   .show l.getD (7+6*i+5) default%256=_;omega
 refine List.ext_getElem (by rw [Zc,ol];omega) λn h1 h2=> ?_
 have:=key n h2
 rwa [getD_lt h1,getD_lt h2]at this
def KF{l:List Int}(hl:By l):acR l↔(7<=l.length/\(l.length-7)%6=0/\l.length<=295)/\bY (rdB l):=by
 refine⟨λ⟨a,b⟩=>⟨a,?_⟩,λ⟨a,b⟩=>⟨a,?_⟩⟩
 .by_cases c:bY (rdB l)
  .exact c
  .unfold irB at b;rw [if_neg (by rw [bN c];decide)]at b;have:=a.1;rw [<-b]at this;simp at this
 .unfold irB;rw [if_pos (aP b)];exact ahS hl a.1 a.2.1
theorem amm{p1 f1}(U1:Y60 p1 f1){p2:List Int×Int×Unit->Bool}{f2:List Int×Int×Unit->Int×Unit}(hp2:∀b k,By b->0<=k->k+1< (b.length:Int)->b.length<1000000000->p2 (b,k,())=true)(hf2:∀b k,By b->0<=k->k+1< (b.length:Int)->b.length<1000000000->f2 (b,k,())=(((b).getD (k).toNat default)*256+((b).getD (k+1).toNat default),()))(l:List Int)(hl:By l)(hlen:l.length<1000000000):XH.F (p1,f1,p2,f2,()) (l,()) (λy=>y=rdF l):=by
 have B:=λk:Nat=>hl.at k
 have c:∀k:Nat,IntKind.i64.wrap (l.getD k default)=l.getD k default:=λk=>by have:=B k;exact w64 ah ah
 have no:¬acR l->rdF l=(0,0,0,0,0,0,false,[],()):=λh=>by unfold rdF;rw [if_neg (by rw [bN h];decide)]
 have tm:7<=l.length->((l.length:Int)-7).tmod 6=((l.length-7)%6:Nat):=λh=>by
  rw [Int.tmod_eq_emod_of_nonneg ah];omega
 dsimp only [XH,gm,kK];simp (disch:=omega) only [RR,c];refine⟨Or.inr (by decide),λh=> ?_,λg=> ?_⟩
 .rw [no];rintro⟨⟨g1,g2,g3⟩,_⟩;rw [tm g1]at h;omega
 obtain⟨⟨g1,g2⟩,g3⟩:=g;have l7:7<=l.length:=by omega
 rw [tm l7]at g2;have l6:(l.length-7)%6=0:=by omega
 have apB:l.length<=295:=by omega
 refine⟨ah,ah,ah,ah,ah,ah,ah,ah,ah,ah,hp2 l 5 hl ah ah hlen,?_⟩;rw [hf2 l 5 hl ah ah hlen];refine aB (λ(y:List Int×Int×Int×Int×Int×Int×Int×Int×Int×Int×Int×Int×Int×Int×List IOp×Unit)=>y.1=l/\(∃j:Nat,y.2.1=7+6*j/\7+6*j<=l.length/\y.2.2.2.2.2.2.2.2.2.2.2.2.2.2.1=vo l j)/\y.2.2.2.2.2.2.2.2.1=l.getD 0 default/\y.2.2.2.2.2.2.2.2.2.1=l.getD 1 default/\y.2.2.2.2.2.2.2.2.2.2.1=l.getD 2 default/\y.2.2.2.2.2.2.2.2.2.2.2.1=l.getD 3 default/\y.2.2.2.2.2.2.2.2.2.2.2.2.1=l.getD 4 default/\y.2.2.2.2.2.2.2.2.2.2.2.2.2.1=l.getD 5 default*256+l.getD 6 default) (λy=>(l.length-y.2.1).toNat) ⟨rfl,⟨0,rfl,ah,rfl⟩,rfl,rfl,rfl,rfl,rfl,rfl⟩ ?_;rintro⟨(l:List Int),(at_:Int),(z1:Int),(z2:Int),(z3:Int),(z4:Int),(z5:Int),(z6:Int),(pc:Int),(len:Int),(fin:Int),(x:Int),(y:Int),(k:Int),(ops:List IOp),⟨⟩⟩ hI;dsimp only at hI ⊢;obtain⟨rfl,⟨j,rfl,j1,rfl⟩,rfl,rfl,rfl,rfl,rfl,rfl⟩:=hI;have ol:(vo l j).length=j:=by unfold vo;rw [List.length_map,List.length_range]
 by_cases h:7+6*(j:Int)<l.length
 .have w:IntKind.i64.wrap (7+6*(j:Int)+3)=7+6*(j:Int)+3:=w64 ah ah;have P2:=hp2 l (7+6*(j:Int)+3) hl ah ah hlen;have H2:=hf2 l (7+6*(j:Int)+3) hl ah ah hlen;have lo:∀x:IOp,([x].length:Int)=1:=λ_=>rfl
  simp (disch:=omega) only [RR,h,c,P2,H2,lo];have es:vo l (j+1)=vo l j++ [rdO l (7+6*j)]:=by unfold vo;rw [List.range_succ,List.map_append];rfl
  repeat' apply And.intro
  all_goals first | omega | exact⟨j+1,ah,ah,by rw [es];rfl⟩
 .have e:7+6*j=l.length:=by omega
  have er:(⟨l.getD 0 default,l.getD 1 default,vo l j,l.getD 2 default,l.getD 3 default,l.getD 4 default,l.getD 5 default*256+l.getD 6 default⟩:Blk)=rdB l:=by
   unfold rdB;rw [show(l.length-7)/6=j by omega]
  have mE:∀(a1 a2:Int) (a3:List IOp) (a4 a5 a6 a7:Int),Co.mk .blk (a1,a2,a3,a4,a5,a6,a7,())=⟨a1,a2,a3,a4,a5,a6,a7⟩:=λ_ _ _ _ _ _ _=>rfl
  have ob:(rdB l).ops.length<1000000000:=by
   rw [<-er];show(vo l j).length<_;omega
  simp (disch:=omega) only [RR,h,mE,er,U1.hp _ ob,U1.hf _ ob];refine⟨λg=> ?_,λg=> ?_⟩
  .rw [no];intro z;rw [aP ((KF hl).1 z).2]at g;cases g
  .unfold rdF;rw [if_pos (aP ((KF hl).2 ⟨⟨l7,l6,apB⟩,aV.1 g⟩)),<-er]
noncomputable def mdF (b:Blk) (a:Ask):Blk×Bool:=if a.own=true then(xJ b,true)else if bp (acR a.bytes)=true then(rdB a.bytes,true)else(OH,false)
theorem amn{p1 f1 p2 f2}(U1:apm p1 f1)(U2:Y81 p2 f2)(b:Blk)(a:Ask)(h:b.ops.length<1000000)(ha:By a.bytes)(hl:a.bytes.length<1000000000):XI.F (p1,f1,p2,f2,()) (b,a,()) (λy=>y=((mdF b a).1,(mdF b a).2,())):=by
 have mE:∀c:Blk,Co.mk .blk (c.pc,c.len,c.ops,c.fin,c.x,c.y,c.k,())=c:=λ_=>rfl
 have ak:∀a:Ask,LW .ask 0 a=a.own/\ig .ask 1 .u8 a=a.bytes:=λ_=>⟨rfl,rfl⟩
 have H1:=U1.hf a.bytes ha hl;dsimp only [XI,gm,kK];simp (disch:=omega) only [RR,ak,mE,U1.hp _ ha hl,U2.hp _ h,U2.hf _ h];unfold mdF;refine⟨λg=>by rw [g];rfl,λg=> ?_⟩;rw [g,if_neg (by decide),H1];unfold rdF;split<;>rfl
def ZH{b:Blk}{a:Ask}(h:b.ops.length<1000000)(hl:a.bytes.length<1000000000):(mdF b a).1.ops.length<1000000:=by
 have L:=FW b;unfold mdF;split
 .dsimp only;omega
 split
 .rename_i g;have:=(aV.1 g).1;show(vo _ _).length<_;unfold vo;rw [List.length_map,List.length_range];omega
 .decide
noncomputable def nS (cs:List Cer) (b:Blk) (a:Ask):Blk×List Cer:=
 if(mdF b a).2=false then(b,cs)else if bp (YM cs b (mdF b a).1)=true then((mdF b a).1,cs)else if chk b (mdF b a).1=true then((mdF b a).1,KA cs ⟨b,(mdF b a).1⟩)else(b,cs)
def ac5{l:List Cer}{q:Cer}(h:ShC l)(h1:q.base.ops.length<1000000)(h2:q.made.ops.length<1000000):ShC (KA l q):=by
 unfold KA;have:=h.1;refine⟨by rw [List.length_drop,List.length_append,List.length_singleton];omega,λc hc=> ?_⟩;have:=List.mem_of_mem_drop hc;rw [List.mem_append,List.mem_singleton]at this;rcases this with g | rfl
 .exact h.2 c g
 .exact⟨h1,h2⟩
def amo{p1 f1 p2 f2 p3 f3}(U1:ao7 p1 f1)(U2:apk p2 f2)(U3:Y96 p3 f3){p4:Blk×Ask×Unit->Bool}{f4:Blk×Ask×Unit->Blk×Bool×Unit}(hp4:∀b a,b.ops.length<1000000->By a.bytes->a.bytes.length<1000000000->p4 (b,a,())=true)(hf4:∀b a,b.ops.length<1000000->By a.bytes->a.bytes.length<1000000000->f4 (b,a,())=((mdF b a).1,(mdF b a).2,()))(e:Eng)(b:Blk)(a:Ask)(h:ShC e.aZ)(hb:b.ops.length<1000000)(ha:By a.bytes)(hl:a.bytes.length<1000000000):XL.F (p1,f1,p2,f2,p3,f3,p4,f4,()) (e.au.regs,e.au.pc,e.au.mem,e.au.save,e.au.bH,e.au.waits,e.au.halt,e.au.ins,e.au.outs,e.au.count,e.cache,b,a,e.aZ,()) (λy=>y=(e.au.regs,e.au.pc,e.au.mem,e.au.save,e.au.bH,e.au.waits,e.au.halt,e.au.ins,e.au.outs,e.au.count,e.cache,(nS e.aZ b a).1,(nS e.aZ b a).2,())):=by
 obtain⟨hp1,hf1⟩:=U1;obtain⟨hp2,hf2⟩:=U2;obtain⟨hp3,hf3⟩:=U3;have M:=ZH (a:=a) hb hl;have H4:=hf4 b a hb ha hl;unfold nS;generalize hm:mdF b a=d at*;have P3:=hp3 b d.1 ah ah;have H3:=hf3 b d.1 ah ah;have P1:=hp1 _ b d.1 h;have H1:=hf1 _ b d.1 h;have P2:=hp2 e.aZ ⟨b,d.1⟩ h hb M;have H2:=hf2 e.aZ ⟨b,d.1⟩ h hb M;have H2:(f2 (e.aZ,⟨b,d.1⟩,())).1=KA e.aZ ⟨b,d.1⟩:=by rw [H2]
 dsimp only [XL,gm,kK,ou];simp (disch:=omega) only [RR,RB,hp4 b a hb ha hl,H4,P1,H1,P3,H3];refine⟨λg=>by rw [if_pos g],λg=>⟨λk=>by rw [if_neg (by rw [g];decide),if_pos k],λk=>⟨λz=>by rw [if_neg (by rw [g];decide),if_neg (by rw [k];decide),if_neg (by rw [z];decide)],λz=>⟨P2,by
  rw [if_neg (by rw [g];decide),if_neg (by rw [k];decide),if_pos z];show(_,_,_,_,_,_,_,_,_,_,_,_,(f2 (e.aZ,⟨b,d.1⟩,())).1,())=_;rw [H2]⟩⟩⟩⟩
def RU{cs:List Cer}{b:Blk}{a:Ask}(h:ShC cs)(hb:b.ops.length<1000000)(hl:a.bytes.length<1000000000):(nS cs b a).1.ops.length<1000000/\ShC (nS cs b a).2:=by
 have M:=ZH (a:=a) hb hl;unfold nS;split
 .exact⟨hb,h⟩
 split
 .exact⟨M,h⟩
 split
 .exact⟨M,ac5 h hb M⟩
 .exact⟨hb,h⟩
def ZI(pc:Int)(l:List Ins):(lower pc l).pc<=1000000:=by
 by_cases h:nu pc l
 .have:=(lX h).pc;have:=(lX h).ln;omega
 .unfold lower;rw [if_neg (by rw [bN h];decide)];decide
def ac6{cs:List Cer}{b:Blk}{a:Ask}(h:Km cs):(nS cs b a).1=b\/chk b (nS cs b a).1=true:=by
 unfold nS;split
 .exact Or.inl rfl
 split
 .rename_i g;obtain⟨q,hq,q1,q2⟩:=aV.1 g;refine Or.inr ?_;have:=h.2 q hq;rw [q1,q2]at this;exact this
 split
 .rename_i g;exact Or.inr g
 .exact Or.inl rfl
def Iz{l:List Cac}{e:Cac}(h:ShK l)(h1:e.words.length<1000)(h2:e.blk.ops.length<1000000)(h3:e.blk.pc<=1000000):ShK (jJ l e)/\0< (jJ l e).length:=by
 unfold jJ;have fl:=List.length_filter_le (neP e.blk.pc) l;refine⟨⟨by rw [List.length_drop,List.length_append,List.length_singleton];omega,λc hc=> ?_⟩,by rw [List.length_drop,List.length_append,List.length_singleton];omega⟩;have:=List.mem_of_mem_drop hc;rw [List.mem_append,List.mem_singleton]at this;rcases this with g | rfl
 .exact h.2 c (List.mem_filter.1 g).1
 .exact⟨h1,h2,h3⟩
def fcI(l:List Cac)(pc:Int):Int:=match l.findIdx? (λx=>decide (x.blk.pc=pc))with | some i=>i | none=> -1
def ZJ(l:List Cac)(pc:Int):FC l pc (fcI l pc):=by
 unfold fcI;split
 .rename_i i h;obtain⟨h1,h2,h3⟩:=List.findIdx?_eq_some_iff_getElem.1 h;refine Or.inr ⟨ah,ah,?_,λj j0 j1=> ?_⟩
  .rw [Int.toNat_natCast,getD_lt h1];simpa using h2
  .rw [getD_lt ah];simpa using h3 j.toNat ah
 .rename_i h;rw [List.findIdx?_eq_none_iff]at h;refine Or.inl ⟨rfl,λj j0 j1=> ?_⟩;rw [getD_lt ah];simpa using h _ (List.getElem_mem ah)
noncomputable def eD (e:Eng) (a:Ask):Eng×Int×Bool:=
 if 0<=fcI e.cache e.au.pc then(e,fcI e.cache e.au.pc,false)else if(findF e.au).length=0 then(e, -1,false)else
  (⟨e.au,jJ e.cache ⟨(findF e.au).map kg,(nS e.aZ (lower e.au.pc (findF e.au)) a).1⟩,(nS e.aZ (lower e.au.pc (findF e.au)) a).2⟩,((jJ e.cache ⟨(findF e.au).map kg,(nS e.aZ (lower e.au.pc (findF e.au)) a).1⟩).length:Int)-1,true)
structure amq(pp:aG×Unit->Bool)(ff:aG×Unit->List Ins×Unit):Prop where
 hp:∀m,MSh m->pp (m,())=true
 hf:∀m,MSh m->ff (m,())=(findF m,())
structure amr(pp:List Cac×Cac×Unit->Bool)(ff:List Cac×Cac×Unit->List Cac×Unit):Prop where
 hp:∀l e,ShK l->e.words.length<1000->e.blk.ops.length<1000000->pp (l,e,())=true
 hf:∀l e,ShK l->e.words.length<1000->e.blk.ops.length<1000000->ff (l,e,())=(jJ l e,())
theorem ams{p1 f1 p2 f2 p3 f3 p4 f4 p5 f5}(U1:amq p1 f1)(U2:ac1 p2 f2)(U3:ahL p3 f3)(U4:amj p4 f4)(U5:amr p5 f5){p6:List Int×Int×List Int×Int×Bool×Bool×Int×List Int×List Int×Int×List Cac×Blk×Ask×List Cer×Unit->Bool}{f6:List Int×Int×List Int×Int×Bool×Bool×Int×List Int×List Int×Int×List Cac×Blk×Ask×List Cer×Unit->List Int×Int×List Int×Int×Bool×Bool×Int×List Int×List Int×Int×List Cac×Blk×List Cer×Unit}(hp6:∀(e:Eng) (b:Blk) (a:Ask),ShC e.aZ->b.ops.length<1000000->By a.bytes->a.bytes.length<1000000000->p6 (e.au.regs,e.au.pc,e.au.mem,e.au.save,e.au.bH,e.au.waits,e.au.halt,e.au.ins,e.au.outs,e.au.count,e.cache,b,a,e.aZ,())=true)(hf6:∀(e:Eng) (b:Blk) (a:Ask),ShC e.aZ->b.ops.length<1000000->By a.bytes->a.bytes.length<1000000000->f6 (e.au.regs,e.au.pc,e.au.mem,e.au.save,e.au.bH,e.au.waits,e.au.halt,e.au.ins,e.au.outs,e.au.count,e.cache,b,a,e.aZ,())=(e.au.regs,e.au.pc,e.au.mem,e.au.save,e.au.bH,e.au.waits,e.au.halt,e.au.ins,e.au.outs,e.au.count,e.cache,(nS e.aZ b a).1,(nS e.aZ b a).2,()))(e:Eng)(a:Ask)(h1:MSh e.au)(h2:ShK e.cache)(h3:ShC e.aZ)(ha:By a.bytes)(hl:a.bytes.length<1000000000):XM.F (p1,f1,p2,f2,p3,f3,p4,f4,p5,f5,p6,f6,()) (e.au.regs,e.au.pc,e.au.mem,e.au.save,e.au.bH,e.au.waits,e.au.halt,e.au.ins,e.au.outs,e.au.count,e.cache,a,e.aZ,()) (λy=>y=((eD e a).1.au.regs,(eD e a).1.au.pc,(eD e a).1.au.mem,(eD e a).1.au.save,(eD e a).1.au.bH,(eD e a).1.au.waits,(eD e a).1.au.halt,(eD e a).1.au.ins,(eD e a).1.au.outs,(eD e a).1.au.count,(eD e a).1.cache,(eD e a).2.1,(eD e a).2.2,(eD e a).1.aZ,())):=by
 obtain⟨hp1,hf1⟩:=U1;obtain⟨hp2,hf2⟩:=U2;obtain⟨hp3,hf3⟩:=U3;obtain⟨hp4,hf4⟩:=U4;obtain⟨hp5,hf5⟩:=U5;have mM:=MKM;have mE:∀c:Blk,Co.mk .blk (c.pc,c.len,c.ops,c.fin,c.x,c.y,c.k,())=c:=λ_=>rfl
 have l2:=h2.1;have P4:=hp4 e.cache e.au.pc ah;have H4:(f4 (e.cache,e.au.pc,())).1=fcI e.cache e.au.pc:=FC.one (hf4 e.cache e.au.pc ah) (ZJ _ _);have B:=Em e.au;have P1:=hp1 _ h1;have H1:=hf1 _ h1;unfold eD;generalize fcI e.cache e.au.pc=k at*;generalize findF e.au=l at*;have P2:=hp2 e.au.pc l ah;have H2:=hf2 e.au.pc l ah;have lw:((lower e.au.pc l).ops.length:Int)<=5000:=by have:=Iy H2;rw [H2]at this;exact this
 generalize lower e.au.pc l=b at*;have P6:=hp6 e b a h3 ah ha hl;have H6:=hf6 e b a h3 ah ha hl;have A:=RU (a:=a) h3 (show b.ops.length<1000000 by omega) hl;generalize nS e.aZ b a=z at*;have P3:=hp3 l ah;have H3:=hf3 l ah;have wl:(l.map kg).length<1000:=by rw [List.length_map];omega
 have P5:=hp5 e.cache ⟨l.map kg,z.1⟩ h2 wl A.1;have H5:=hf5 e.cache ⟨l.map kg,z.1⟩ h2 wl A.1;have kl:(jJ e.cache ⟨l.map kg,z.1⟩).length<=e.cache.length+1:=by
  unfold jJ;have fl:=List.length_filter_le (neP z.1.pc) e.cache;rw [List.length_drop,List.length_append,List.length_singleton];dsimp only;omega
 have mK:Co.mk .cac (l.map kg,z.1.pc,z.1.len,z.1.ops,z.1.fin,z.1.x,z.1.y,z.1.k,())=(⟨l.map kg,z.1⟩:Cac):=rfl;dsimp only [XM,gm,kK,ou]at*;simp (disch:=omega) only [RR,RB,mM,P4,H4,P1,H1,P2,H2,mE,P6,H6,P3,H3,mK,P5,H5];refine⟨λn=>by rw [if_pos n],λn=>⟨λg=>by rw [if_neg ah,if_pos ah],λg=> ?_⟩⟩;rw [if_neg ah,if_neg ah]
theorem aez(n:Int)(b:List Int)(h0:0<=n)(h1:n<=1000000)(hb:b.length<1000000000):XQ.F () (n,b,()) (λy=>y=(b++ [n/256%256,n%256],())):=by
 have m8:∀x:Int,Co.mk .u8 (x,())=x:=λ_=>rfl
 dsimp only [XQ,gm];simp (disch:=omega) only [RR,m8,u8w];rw [Int.tmod_eq_emod_of_nonneg h0,Int.tdiv_eq_ediv_of_nonneg h0,w64 ah ah,Int.emod_emod];exact⟨by decide,by decide,by simp only [List.length_cons,List.length_nil];omega,rfl⟩
def apC{b:Blk}(h:bY b):0<=b.k/\b.k<=1000000:=by
 have:=h.en.k1;have:=h.en.k0;omega
def opk{ops:List IOp}{n i:Int}{o:IOp}(h:kY ops n i o):0<=o.k/\o.k<=1000000:=by
 have:=h.kd;have:=h.k1;have:=h.k2;have:=h.k3;have:=h.k0;omega
theorem amt{p1 f1}(U1:Y60 p1 f1){p2:Int×List Int×Unit->Bool}{f2:Int×List Int×Unit->List Int×Unit}(hp2:∀n b,0<=n->n<=1000000->b.length<1000000000->p2 (n,b,())=true)(hf2:∀n b,0<=n->n<=1000000->b.length<1000000000->f2 (n,b,())=(b++ [n/256%256,n%256],()))(b:Blk)(hb:b.ops.length<1000000000):XR.F (p1,f1,p2,f2,()) (b,()) (λy=>y=(irB b,())):=by
 have m8:∀x:Int,Co.mk .u8 (x,())=x:=λ_=>rfl
 dsimp only [XR,gm];simp (disch:=omega) only [RR,RB,U1.hp b hb,U1.hf b hb,m8,u8w];refine⟨λh=>by unfold irB;rw [h];rfl,λh=> ?_⟩;have ok:=aV.1 h;have sz:=ok.sz;have kk:=apC ok;rw [hp2 _ _ kk.1 kk.2 (by simp only [List.length_cons,List.length_nil];omega),hf2 _ _ kk.1 kk.2 (by simp only [List.length_cons,List.length_nil];omega)];refine⟨rfl,?_⟩;refine aB (λ(y:Int×Blk×List Int×Unit)=>y.2.1=b/\0<=y.1/\y.1<=b.ops.length/\y.2.2.1=[b.pc%256,b.len%256,b.fin%256,b.x%256,b.y%256,b.k/256%256,b.k%256]++(b.ops.take y.1.toNat).flatMap opB) (λy=>(b.ops.length-y.1).toNat) ⟨rfl,by simp,by simp,by simp⟩ ?_;rintro⟨(i:Int),(c:Blk),(acc:List Int),⟨⟩⟩ hI;dsimp only at hI ⊢;obtain⟨rfl,h1,h2,h3⟩:=hI;have al:acc.length<=1000:=by
  rw [h3,List.length_append,yY];have:=List.length_take_le' i.toNat c.ops;simp only [List.length_cons,List.length_nil];omega
 refine⟨λg=> ?_,λg=> ?_⟩
 .have ko:=opk (ok.op i h1 g);rw [hp2 _ _ ko.1 ko.2 (by simp only [List.length_append,List.length_cons,List.length_nil];omega),hf2 _ _ ko.1 ko.2 (by simp only [List.length_append,List.length_cons,List.length_nil];omega)];simp (disch:=omega) only [RR,List.length_append,List.length_cons,List.length_nil];refine⟨h1,g,ah,ah,⟨ah,ah,?_⟩,ah⟩;rw [h3,show(i+1).toNat=i.toNat+1 by omega,List.take_succ_eq_append_getElem ah,List.flatMap_append,getD_lt (show i.toNat<c.ops.length by omega)];simp only [List.append_assoc];rfl
 .rw [h3,List.take_of_length_le ah];unfold irB;rw [h];rfl
structure TuD(b l:List Int)(p:Int)(y:List Int×Int×List Int×Unit):Prop where
 b:y.1=b
 p:p<=y.2.1/\y.2.1<=p+20
 l:By y.2.2.1/\y.2.2.1.length<=l.length+1
theorem ahT{p1 f1}(U1:Y38 p1 f1)(l:List Int)(b:List Int)(p:Int)(hl:By l)(h:l.length<100000000)(hb:Bt b)(h1:0<=p)(h2:p<900000000):Ov.F (p1,f1,()) (l,b,p,()) (λy=>TuD b l p y):=by
 obtain⟨hp1,hf1⟩:=U1;have m8:∀x:Int,Co.mk .u8 (x,())=x:=λ_=>rfl
 dsimp only [Ov,gm];have R:=pkR hb hf1;have P:=λn p h1 h2=>hp1 n b p hb h1 h2
 have f0:=hf1 256 b p hb h1 ah;have f1':=hf1 256 b (p+1) hb ah ah;simp (disch:=omega) only [RR,m8,u8w,R,P];have g0:=f0.2.2;have g1:=f1'.2.2;generalize (f1 (256,b,p,())).1=u at*;generalize (f1 (256,b,p+1,())).1=v at*;have w1:IntKind.i64.wrap (u*256)=u*256:=w64 ah ah;have w2:IntKind.i64.wrap (u*256+v)=u*256+v:=w64 ah ah;rw [w1,w2];refine⟨λ_=>⟨rfl,⟨by dsimp only;omega,by dsimp only;omega⟩,λx hx=> ?_,by simp⟩,λn=>⟨n,?_⟩⟩
 .dsimp only at hx;rw [List.mem_singleton]at hx;omega
 have k0:0<=(u*256+v).tmod l.length:=Int.tmod_nonneg _ ah;have k1:(u*256+v).tmod l.length<l.length:=Int.tmod_lt_of_pos _ ah;generalize (u*256+v).tmod l.length=k at*;have tk:∀x∈l.take k.toNat,0<=x/\x<=255:=λx hx=>hl x (List.mem_of_mem_take hx)
 have w3:IntKind.i64.wrap (k+1)=k+1:=w64 ah ah;rw [w3];simp only [List.length_append,List.length_drop,List.length_take,List.length_nil,List.length_cons,Int.toNat_zero,List.drop_zero,List.nil_append,Int.toNat_natCast,List.take_length];have dk:∀j,∀x∈l.drop j,0<=x/\x<=255:=λj x hx=>hl x (List.mem_of_mem_drop hx)
 have g2:=(hf1 2 b (p+1+1+1+1+1) hb ah ah).2.2;refine⟨λ_=>⟨ah,ah,ah,ah,ah,ah,ah,ah,ah,⟨rfl,⟨by dsimp only;omega,by dsimp only;omega⟩,λx hx=> ?_,?_⟩⟩,λ_=>⟨λ_=>⟨ah,ah,ah,ah,ah,ah,ah,ah,ah,ah,⟨rfl,⟨by dsimp only;omega,by dsimp only;omega⟩,λx hx=> ?_,?_⟩⟩,λ_=>⟨ah,ah,ah,ah,ah,ah,ah,⟨rfl,⟨by dsimp only;omega,by dsimp only;omega⟩,λx hx=> ?_,?_⟩⟩⟩⟩
 .rcases List.mem_append.1 hx with g | g
  .exact tk x g
  .exact dk _ x g
 .dsimp only;rw [List.length_append,List.length_take,List.length_drop];omega
 .rcases List.mem_append.1 hx with g | g
  .rcases List.mem_append.1 g with g | g
   .exact tk x g
   .rw [List.mem_singleton]at g;omega
  .exact dk _ x g
 .dsimp only;rw [List.length_append,List.length_append,List.length_take,List.length_drop,List.length_singleton];omega
 .rcases List.mem_or_eq_of_mem_set hx with g | g
  .exact hl x g
  .omega
 .dsimp only;rw [List.length_set];omega
structure AsD(b:List Int)(p:Int)(y:Bool×List Int×Int×List Int×Unit):Prop where
 b:y.2.1=b
 p:p<=y.2.2.1/\y.2.2.1<=p+2000000
 l:By y.2.2.2.1/\y.2.2.2.1.length<200000000
def BX{b:Blk}(h:b.ops.length<=1000000):(irB b).length<100000000:=by
 unfold irB;split
 .unfold Iq;rw [List.length_append,yY];simp only [List.length_cons,List.length_nil];omega
 .simp
theorem ahU{p1 f1 p2 f2 p3 f3 p4 f4 p5 f5 p6 f6 p7 f7 p8 f8}(U1:amq p1 f1)(U2:ac1 p2 f2)(U3:apl p3 f3)(U4:Y81 p4 f4)(U5:Y38 p5 f5)(U6:Y83 p6 f6)(U7:Y84 p7 f7)(U8:Y86 p8 f8){p9:List Int×List Int×Int×Unit->Bool}{f9:List Int×List Int×Int×Unit->List Int×Int×List Int×Unit}(hp9:∀l b p,By l->l.length<100000000->Bt b->0<=p->p<900000000->p9 (l,b,p,())=true)(hf9:∀l b p,By l->l.length<100000000->Bt b->0<=p->p<900000000->TuD b l p (f9 (l,b,p,())))(m:aG)(b:List Int)(p:Int)(h:MSh m)(hb:Bt b)(h1:0<=p)(h2:p<500000000):Hw.F (p1,f1,p2,f2,p3,f3,p4,f4,p5,f5,p6,f6,p7,f7,p8,f8,p9,f9,()) (m,b,p,()) (λ(y:Bool×List Int×Int×List Int×Unit)=>AsD b p y):=by
 obtain⟨hp1,hf1⟩:=U1;obtain⟨hp2,hf2⟩:=U2;obtain⟨hp3,hf3⟩:=U3;obtain⟨hp4,hf4⟩:=U4;obtain⟨hp5,hf5⟩:=U5;obtain⟨hp6,hf6⟩:=U6;obtain⟨hp7,hf7⟩:=U7;obtain⟨hp8,hf8⟩:=U8;have m8:∀x:Int,Co.mk .u8 (x,())=x:=λ_=>rfl
 have mE:∀c:Blk,Co.mk .blk (c.pc,c.len,c.ops,c.fin,c.x,c.y,c.k,())=c:=λ_=>rfl
 have R:=pkR hb hf5;have P:=λn p h1 h2=>hp5 n b p hb h1 h2
 have P1:=hp1 m h;have hL:=hf1 m h;have B:=Em m;have no:AsD b p (true,b,p+1,[],()):=⟨rfl,⟨by dsimp only;omega,by dsimp only;omega⟩,λx hx=>(by cases hx),by simp⟩;generalize findF m=l at*;by_cases n:0<l.length
 .have ir:=lX (B.2 n).2;have sz:=ir.sz;have P2:=hp2 m.pc l ah;have H2:=hf2 m.pc l ah;generalize lower m.pc l=c at*;have P4:=hp4 c ah;have H4:=hf4 c ah;have lk:=(TP ir).oc;have sz2:=lk.sz;generalize xJ c=d at*;dsimp only [Hw,gm,ou,kK];simp (disch:=omega) only [RR,m8,u8w,MRB,R,P,P1,hL,P2,H2,mE,P4,H4];have W:∀(z:Int×Int×Int×Int×Int×Int×List Int×Int×List IOp×Unit) (M:Int) (N:Nat) (q:Int),BkD M N b q z->N<=1000000->M<=1000000->p<=q->q<=p+2->p3 (Co.mk .blk (z.1,z.2.1,z.2.2.2.2.2.2.2.2.1,z.2.2.1,z.2.2.2.1,z.2.2.2.2.1,z.2.2.2.2.2.1,()),())=true/\AsD b p (false,z.2.2.2.2.2.2.1,z.2.2.2.2.2.2.2.1,(f3 (Co.mk .blk (z.1,z.2.1,z.2.2.2.2.2.2.2.2.1,z.2.2.1,z.2.2.2.1,z.2.2.2.2.1,z.2.2.2.2.2.1,()),())).1,()):=by
   intro z M N q D a1 a2 a3 a4;have d1:=D.len;have d2:=D.lo;have d3:=D.hi;have K:z.2.2.2.2.2.2.2.2.1.length<1000000000:=by omega
   have e:=hf3 (Co.mk .blk (z.1,z.2.1,z.2.2.2.2.2.2.2.2.1,z.2.2.1,z.2.2.2.1,z.2.2.2.2.1,z.2.2.2.2.2.1,())) K;refine⟨hp3 _ K,D.b,⟨by dsimp only;omega,by dsimp only;omega⟩,?_⟩;dsimp only;rw [e];exact⟨Ir _,Nat.lt_of_lt_of_le (BX (show z.2.2.2.2.2.2.2.2.1.length<=1000000 by omega)) (by decide)⟩
  have c3:=hp3 c ah;have k3:=hf3 c ah;have d3:=hp3 d ah;have j3:=hf3 d ah;have T:=hf9 (irB c) b (p+1+1) (Ir c) (BX ah) hb ah ah;rw [k3,j3];have tl:=BX (b:=c) ah;have T1:=T.p;have T2:=T.l;refine⟨λ_=>no,λ_=>⟨λ_=>⟨hp8 d b _ lk ah hb ah ah,W _ _ _ _ (hf8 d b (p+1+1) lk ah hb ah ah) ah ah ah ah⟩,λ_=>⟨λ_=>⟨hp6 c b _ ah hb ah ah,W _ _ _ _ (hf6 c b (p+1+1) ah hb ah ah).1 ah ah ah ah⟩,λ_=>⟨λ_=>⟨hp6 d b _ ah hb ah ah,W _ _ _ _ (hf6 d b (p+1+1) ah hb ah ah).1 ah ah ah ah⟩,λ_=>⟨λ_=>⟨c3,hp9 _ b _ (Ir c) tl hb ah ah,T.b,⟨by dsimp only;omega,by dsimp only;omega⟩,T2.1,by dsimp only;omega⟩,λ_=>⟨λ_=>⟨hp7 b _ hb ah ah,W _ _ _ _ (hf7 b (p+1+1) hb ah ah) ah ah ah ah⟩,λ_=>⟨λ_=>⟨rfl,⟨by dsimp only;omega,by dsimp only;omega⟩,λx hx=> ?_,by simp⟩,λ_=>⟨d3,rfl,⟨by dsimp only;omega,by dsimp only;omega⟩,Ir d,Nat.lt_of_lt_of_le (BX ah) (by decide)⟩⟩⟩⟩⟩⟩⟩⟩;dsimp only at hx;rw [List.mem_singleton]at hx;omega
 .dsimp only [Hw,gm,ou,kK];simp (disch:=omega) only [RR,m8,u8w,MRB,R,P,P1,hL];exact⟨λ_=>no,λg=>absurd (Int.natCast_eq_zero.2 ah) g.2⟩
structure SJ(b:Blk)(m0:aG)(i:Nat)(S:MS):Prop where
 r:RJ b m0 i S
 p:S.m.pc=m0.pc
 h:S.m.halt=m0.halt
 c:S.m.count=m0.count
abbrev yS(b : Blk)(i : Int)(S : MS) : Int × Blk × Int × Int × Bool × Bool × Int × Int × Int × Int × Bool × Bool × Int × List Int × Int × List Int × List Int × List Int × List Int × Unit := (i, b, 0, 0, false, false, 0, 0, S.m.pc, S.m.save, S.m.bH, S.m.waits, S.m.halt, S.m.ins, S.m.count, S.vals, S.m.regs, S.m.mem, S.m.outs, ())
abbrev amu(z : aG × Bool) : Int × Int × Bool × Bool × Int × List Int × Int × Bool × List Int × List Int × List Int × Unit := (z.1.pc, z.1.save, z.1.bH, z.1.waits, z.1.halt, z.1.ins, z.1.count, z.2, z.1.regs, z.1.mem, z.1.outs, ())
def SIv(b:Blk)(m0:aG)(y:Int×Blk×Int×Int×Bool×Bool×Int×Int×Int×Int×Bool×Bool×Int×List Int×Int×List Int×List Int×List Int×List Int×Unit):Prop:=∃(i:Nat) (S:MS),i<=b.ops.length/\SJ b m0 i S/\y=yS b i S
def SIv.next{b:Blk}{m0:aG}{i:Nat}{S:MS}{o:IOp}{y:Int×Blk×Int×Int×Bool×Bool×Int×Int×Int×Int×Bool×Bool×Int×List Int×Int×List Int×List Int×List Int×List Int×Unit}(h:SJ b m0 i S)(hi:i<b.ops.length)(ho:b.ops.getD i default=o)(k1:o.kind=1->0<=o.k/\o.k<=65535)
  (c1:¬((o.kind=4\/o.kind=5)/\64<=vx S o)) (c2:¬(o.kind=5/\b.pc+o.at_+1<=vx S o/\vx S o<=b.pc+b.len-1))
  (e:y=yS b ((i:Int)+1) ⟨mM S o,S.vals++ [mV S o],false⟩):SIv b m0 y/\(b.ops.length-y.1).toNat< (b.ops.length- (i:Int)).toNat:=by
 subst e;have k:=ac2 (s:=S) o;exact⟨⟨i+1,_,hi,⟨h.r.next hi ho k1 c1 c2,k.1.trans h.p,k.2.1.trans h.h,k.2.2.trans h.c⟩,rfl⟩,by dsimp only;omega⟩
def ZK{b:Blk}{m:aG}(h1:bY b)(h2:MOK m)(h:¬(m.halt≠0\/m.pc≠b.pc\/1000000-b.len<m.count)):oL b m=(O7 b (b.ops.foldl (fK b) ⟨m,[],false⟩),true):=by
 unfold oL;rw [if_pos (aP ⟨h1,h2⟩),if_neg h]
set_option maxHeartbeats 4000000 in
theorem amv{p1 f1 p2 f2 p3 f3 p4 f4}(U1:Y60 p1 f1)(U2:Zi p2 f2)(U3:acU p3 f3)(U4:apy p4 f4){p5:Int×Int×Bool×Bool×Int×List Int×Int×Blk×IOp×Int×Int×List Int×List Int×List Int×Unit->Bool}{f5:Int×Int×Bool×Bool×Int×List Int×Int×Blk×IOp×Int×Int×List Int×List Int×List Int×Unit->Int×Int×Bool×Bool×Int×List Int×Int×Int×Bool×List Int×List Int×List Int×Unit}(hp5:∀(m:aG) (b:Blk) (o:IOp) (x y:Int),m.mem.length=64->0<=x->m.ins.length<1000000000->m.outs.length<900000000->0<=m.count/\m.count<=1000000->0<=o.at_/\o.at_<=100-> -1000<=b.pc/\b.pc<=1000000-> -1000<=b.len/\b.len<=1000000->p5 (m.pc,m.save,m.bH,m.waits,m.halt,m.ins,m.count,b,o,x,y,m.regs,m.mem,m.outs,())=true)(hf5:∀(m:aG) (b:Blk) (o:IOp) (x y:Int),m.mem.length=64->0<=x->m.ins.length<1000000000->m.outs.length<900000000->0<=m.count/\m.count<=1000000->0<=o.at_/\o.at_<=100-> -1000<=b.pc/\b.pc<=1000000-> -1000<=b.len/\b.len<=1000000->f5 (m.pc,m.save,m.bH,m.waits,m.halt,m.ins,m.count,b,o,x,y,m.regs,m.mem,m.outs,())=ahQ (evR m b o x y)){p6:Blk×List Int×Unit->Bool}{f6:Blk×List Int×Unit->Int×Unit}(hp6:∀(b:Blk) (v:List Int), -1000<=b.pc/\b.pc<=1000000-> -1000<=b.len/\b.len<=1000000->(b.fin≠1->0<=b.x/\b.x<v.length)->(3<=b.fin->0<=b.y/\b.y<v.length)->p6 (b,v,())=true)(hf6:∀(b:Blk) (v:List Int), -1000<=b.pc/\b.pc<=1000000-> -1000<=b.len/\b.len<=1000000->(b.fin≠1->0<=b.x/\b.x<v.length)->(3<=b.fin->0<=b.y/\b.y<v.length)->f6 (b,v,())=(goS b v,())){p7:aG×IOp×Int×Int×Unit->Bool}{f7:aG×IOp×Int×Int×Unit->Int×Unit}(hp7:∀(m:aG) (o:IOp) (x y:Int),(o.kind=2->0<=o.k/\o.k<m.regs.length)->p7 (m,o,x,y,())=true)(hf7:∀(m:aG) (o:IOp) (x y:Int),(o.kind=2->0<=o.k/\o.k<m.regs.length)->f7 (m,o,x,y,())=(if o.kind=1 then o.k else if o.kind=2 then((m.regs).getD (o.k).toNat default)else if o.kind=3 then wdo o.k x y else 0,()))(b:Blk)(m:aG)(hs:MSh m)(hb:b.ops.length<1000000000)(ho:m.outs.length<800000000):XO.F (p1,f1,p2,f2,p3,f3,p4,f4,p5,f5,p6,f6,p7,f7,()) (b,m,()) (λy=>y=amu (oL b m)):=by
 obtain⟨hp1,hf1⟩:=U1;obtain⟨hp2,hf2⟩:=U2;obtain⟨hp3,hf3⟩:=U3;obtain⟨hp4,hf4⟩:=U4;unfold m10 at hf3;unfold ahQ at hf5;have mM':=MKM;dsimp only [XO,gm,ou,kK];simp (disch:=omega) only [RR,RB,MRB,hp1 b hb,hf1 b hb,hp2 m hs,hf2 m hs,hp3 m hs,hf3 m hs];refine⟨λg=> ?_,λg=> ?_⟩
 .unfold oL;rw [if_neg]
  .rfl
  .intro z;have z:=aV.1 z;rw [aP z.1,aP z.2]at g;rcases g with g | g<;>cases g
 have c1:=aV.1 g.1;have c2:=aV.1 g.2;have bl:=c1.ln;have cw:=c2.ct;have sz:=c1.sz;have bp':=c1.pc;have en:=c1.en;have w0:IntKind.i64.wrap (1000000-b.len)=1000000-b.len:=w64 ah ah;rw [w0];refine⟨λh=> ?_,λh=> ?_⟩
 .unfold oL;rw [if_pos (aP ⟨c1,c2⟩),if_pos (show m.halt≠0\/m.pc≠b.pc\/1000000-b.len<m.count by omega)]
 have st:¬(m.halt≠0\/m.pc≠b.pc\/1000000-b.len<m.count):=by omega
 rw [ZK c1 c2 st];refine aB (SIv b m) (λy=>(b.ops.length-y.1).toNat) ⟨0,⟨m,[],false⟩,Nat.zero_le _,⟨⟨rfl,rfl,rfl,(by intro n hn;cases hn),c2,hs.2.2.1,Nat.le_add_right _ _⟩,rfl,rfl,rfl⟩,rfl⟩ ?_;rintro y ⟨i,S,hi,J,rfl⟩;dsimp only;have R:=J.r;have ok:=R.ok;have ln:=R.ln;have Jp:=J.p;have Jh:=J.h;have Jc:=J.c;by_cases h7:(i:Int)<b.ops.length
 case neg=>
  have ei:i=b.ops.length:=by omega
  have eS:b.ops.foldl (fK b) ⟨m,[],false⟩=S:=by rw [R.e,ei];unfold SM;rw [List.take_of_length_le (Nat.le_refl _)]
  have x1:=en.x1;have y1:=en.y1;unfold Vl at x1 y1;have hf:=en.f;have hx:b.fin≠1->0<=b.x/\b.x<S.vals.length:=λz=>by have:=x1 ah;omega
  have hy:3<=b.fin->0<=b.y/\b.y<S.vals.length:=λz=>by have:=y1 ah;omega
  have P6:=hp6 b S.vals ah ah hx hy;have H6:=hf6 b S.vals ah ah hx hy;simp (disch:=omega) only [RR,h7,RB,P6,H6];rw [eS];unfold O7;rw [R.lf,if_neg (by decide)];have wx:=R.wv.at b.x;have wy:=R.wv.at b.y;unfold Wo at wx wy;have eg:goS b S.vals=if b.fin=1 then b.k else if b.fin=2 then((S.vals).getD (b.x).toNat default)else if Iu (b.fin-2) ((S.vals).getD (b.x).toNat default) ((S.vals).getD (b.y).toNat default)=true then b.k else b.pc+b.len:=by
   unfold goS;have ix:=dI.2 wx;have iy:=dI.2 wy;rcases(by omega:b.fin=1\/b.fin=2\/b.fin=3\/b.fin=4)with f | f | f | f
   all_goals simp only [f,Int.reduceEq,if_false,if_true,true_and,false_and,Int.reduceSub,Zg,Zh,ix,iy,Bool.true_and,decide_eq_true_eq]
  rw [eg]
 have hop:=c1.op i ah ah;have eT:((i:Int)).toNat=i:=rfl;generalize hq:((b.ops).getD ((i:Int)).toNat default)=o at*;rw [eT]at hq;have kd:=hop.kd;have x1:=hop.x1;have y1:=hop.y1;unfold Vl at x1 y1;have k1:=hop.k1;have k2:=hop.k2;have k3:=hop.k3;have a1:=hop.a1;have a0:=hop.a0;have m64:=ok.m64;have r4:=ok.r4;have lo:=R.lo;have li:=R.li;have nx:=λ{y} c1 c2 e=>SIv.next (y:=y) J ah hq k1 c1 c2 e
 have lv:∀mm:aG,fK b S o=⟨mm,S.vals,true⟩->b.ops.foldl (fK b) ⟨m,[],false⟩=⟨mm,S.vals,true⟩:=λmm h=>acT (i:=i+1) (by rw [RH ah,<-R.e,hq];exact h)
 have X0:0<=o.x:=by
  by_cases h:hX o
  .have:=x1 h;omega
  .have:=hop.x0 h;omega
 have Y0:0<=o.y:=by
  by_cases h:hY o
  .have:=y1 h;omega
  .have:=hop.y0 h;omega
 have A4:∀k:Int,0<=k->f4 (S.vals,k,())=(vk S.vals k,()):=λk h=>by rw [hf4,if_neg ah]
 have wV:∀k:Int,Wo (vk S.vals k):=λk=>by
  unfold vk;split
  .exact R.wv.at _
  .exact wo0
 have ex:hX o->vk S.vals o.x=vx S o:=λh=>by
  have:=x1 h;unfold vx vk;rw [if_pos ah,if_pos h]
 have ey:hY o->vk S.vals o.y=vy S o:=λh=>by
  have:=y1 h;unfold vy vk;rw [if_pos ah,if_pos h]
 have wx:=wV o.x;have wy:=wV o.y;have F4x:=A4 o.x X0;have F4y:=A4 o.y Y0;generalize vk S.vals o.x=X at*;generalize vk S.vals o.y=Y at*;have ln':S.vals.length<1000:=by omega
 have cl:∀v:Int,(([v]:List Int).length:Int)=1:=λ_=>rfl
 have EV:evO o->p5 (S.m.pc,S.m.save,S.m.bH,S.m.waits,S.m.halt,S.m.ins,S.m.count,b,o,X,Y,S.m.regs,S.m.mem,S.m.outs,())=true:=λz=>by
  have:=a1 z;exact hp5 S.m b o X Y m64 wx.1 li ah ok.ct ah ah ah
 have EW:=λz:evO o=>hf5 S.m b o X Y m64 wx.1 li ah ok.ct (by have:=a1 z;omega) ah ah
 have EL:∀(mm:aG) (n h:Int),mm.pc=b.pc->lvS mm b n h=leave mm n h:=λmm n h e=>by unfold lvS leave;rw [e]
 have Sp:S.m.pc=b.pc:=by omega
 have Sh:S.m.halt=0:=by omega
 rcases(by omega:o.kind=1\/o.kind=2\/o.kind=3\/o.kind=4\/o.kind=5\/o.kind=6\/o.kind=7\/o.kind=8)with k | k | k | k | k | k | k | k
 .have P7:=hp7 S.m o X Y (λz=>by omega);have H7:=hf7 S.m o X Y (λz=>by omega);rw [if_pos k]at H7;simp (disch:=omega) only [RR,h7,RB,hq,eT,k,Int.reduceEq,hp4,F4x,F4y,mM',P7,H7,cl];exact⟨ah,ah,nx (λh=>by omega) (λh=>by omega) (by simp [mM,mV,k])⟩
 .have g:=k2 (Or.inl k);have P7:=hp7 S.m o X Y (λz=>by omega);have H7:=hf7 S.m o X Y (λz=>by omega);rw [if_neg ah,if_pos k]at H7;simp (disch:=omega) only [RR,h7,RB,hq,eT,k,Int.reduceEq,hp4,F4x,F4y,mM',P7,H7,cl];exact⟨ah,ah,nx (λh=>by omega) (λh=>by omega) (by simp [mM,mV,k])⟩
 .have P7:=hp7 S.m o X Y (λz=>by omega);have H7:=hf7 S.m o X Y (λz=>by omega);rw [if_neg ah,if_neg ah,if_pos k]at H7;have e1:=ex (by unfold hX;omega);have e2:=ey (Or.inl k);simp (disch:=omega) only [RR,h7,RB,hq,eT,k,Int.reduceEq,hp4,F4x,F4y,mM',P7,H7,cl];exact⟨ah,ah,nx (λh=>by omega) (λh=>by omega) (by simp [mM,mV,k,e1,e2])⟩
 .have e1:=ex (by unfold hX;omega);have Q:=EV (by unfold evO;omega);have V:=EW (by unfold evO;omega);by_cases z:64<=X
  .have ev:evR S.m b o X Y=(lvS S.m b o.at_ 3,0,true):=by unfold evR;rw [if_neg ah,if_neg ah,if_pos z]
   rw [ev]at V;simp (disch:=omega) only [RR,h7,RB,hq,eT,k,Int.reduceEq,hp4,F4x,F4y,mM',Q,V,cl];rw [lv (leave S.m o.at_ 3) (by unfold fK;rw [if_neg (by rw [R.lf];decide),if_pos ⟨Or.inl k,ah⟩]),EL _ _ _ Sp];exact⟨ah,rfl⟩
  .have ev:evR S.m b o X Y=(S.m,((S.m.mem).getD (X).toNat default),false):=by unfold evR;rw [if_neg ah,if_neg ah,if_neg z,if_pos k]
   rw [ev]at V;simp (disch:=omega) only [RR,h7,RB,hq,eT,k,Int.reduceEq,hp4,F4x,F4y,mM',Q,V,cl];exact⟨ah,ah,nx (λh=>by omega) (λh=>by omega) (by simp [mM,mV,k,e1])⟩
 .have e1:=ex (by unfold hX;omega);have e2:=ey (Or.inr k);have Q:=EV (by unfold evO;omega);have V:=EW (by unfold evO;omega);by_cases z:64<=X
  .have ev:evR S.m b o X Y=(lvS S.m b o.at_ 3,0,true):=by unfold evR;rw [if_neg ah,if_neg ah,if_pos z]
   rw [ev]at V;simp (disch:=omega) only [RR,h7,RB,hq,eT,k,Int.reduceEq,hp4,F4x,F4y,mM',Q,V,cl];rw [lv (leave S.m o.at_ 3) (by unfold fK;rw [if_neg (by rw [R.lf];decide),if_pos ⟨Or.inr k,ah⟩]),EL _ _ _ Sp];exact⟨ah,rfl⟩
  .have mm:mM S o={S.m with mem:=S.m.mem.set X.toNat Y}:=by unfold mM;rw [if_pos k,e1,e2]
   by_cases y:b.pc+o.at_<X/\X<b.pc+b.len
   .have ev:evR S.m b o X Y=(lvS {S.m with mem:=S.m.mem.set X.toNat Y} b (o.at_+1) 0,0,true):=by unfold evR;rw [if_neg ah,if_neg ah,if_neg z,if_neg ah,if_pos y]
    rw [ev]at V;simp (disch:=omega) only [RR,h7,RB,hq,eT,k,Int.reduceEq,hp4,F4x,F4y,mM',Q,V,cl];rw [lv (leave (mM S o) (o.at_+1) (mM S o).halt) (by unfold fK;rw [if_neg (by rw [R.lf];decide),if_neg ah,if_pos ⟨k,ah⟩]),mm,EL {S.m with mem:=S.m.mem.set X.toNat Y} _ _ Sp];dsimp only;rw [Sh];exact⟨ah,rfl⟩
   .have ev:evR S.m b o X Y=({S.m with mem:=S.m.mem.set X.toNat Y},0,false):=by unfold evR;rw [if_neg ah,if_neg ah,if_neg z,if_neg ah,if_neg y]
    rw [ev]at V;simp (disch:=omega) only [RR,h7,RB,hq,eT,k,Int.reduceEq,hp4,F4x,F4y,mM',Q,V,cl];exact⟨ah,ah,nx (λh=>by omega) (λh=>by omega) (by rw [mm];simp [mV,k])⟩
 .have Q:=EV (by unfold evO;omega);have V:=EW (by unfold evO;omega);have ev:evR S.m b o X Y=({S.m with ins:=S.m.ins.drop 1},S.m.ins.getD 0 0,false):=by unfold evR;rw [if_neg ah,if_pos k]
  rw [ev]at V;simp (disch:=omega) only [RR,h7,RB,hq,eT,k,Int.reduceEq,hp4,F4x,F4y,mM',Q,V,cl];exact⟨ah,ah,nx (λh=>by omega) (λh=>by omega) (by simp [mM,mV,k])⟩
 .have e1:=ex (by unfold hX;omega);have Q:=EV (by unfold evO;omega);have V:=EW (by unfold evO;omega);have ev:evR S.m b o X Y=({S.m with outs:=S.m.outs++ [X]},0,false):=by unfold evR;rw [if_pos k]
  rw [ev]at V;simp (disch:=omega) only [RR,h7,RB,hq,eT,k,Int.reduceEq,hp4,F4x,F4y,mM',Q,V,cl];exact⟨ah,ah,nx (λh=>by omega) (λh=>by omega) (by simp [mM,mV,k,e1])⟩
 .have e1:=ex (by unfold hX;omega);have xv:=x1 (by unfold hX;omega);have g:=k2 (Or.inr k);have eX:((S.vals).getD (o.x).toNat default)=vx S o:=by unfold vx;rw [if_pos (by unfold hX;omega)]
  simp (disch:=omega) only [RR,h7,RB,hq,eT,k,Int.reduceEq,hp4,F4x,F4y,mM',cl,eX];exact⟨ah,ah,ah,ah,ah,ah,ah,ah,ah,ah,nx (λh=>by omega) (λh=>by omega) (by simp [mM,mV,k])⟩
theorem EGM:∀e:Eng,Co.mk .eng (e.au.regs,e.au.pc,e.au.mem,e.au.save,e.au.bH,e.au.waits,e.au.halt,e.au.ins,e.au.outs,e.au.count,e.cache,e.aZ,())=e:=λ_=>rfl
def apD:Eng:=⟨KC,[],[]⟩
noncomputable def goE (e:Eng) (q:List Int) (left:Int) (a:Ask):Eng×Bool:=
 if(e.au.waits=true\/e.au.count∈q)/\e.au.bH=true then(su e q,false)
 else if(eD e a).2.1<0 then(su (eD e a).1 q,(eD e a).2.2)
 else if El e.au q left ((((eD e a).1.cache).getD ((eD e a).2.1).toNat default)).blk.len=false then(su (eD e a).1 q,(eD e a).2.2)
 else(⟨(oL ((((eD e a).1.cache).getD ((eD e a).2.1).toNat default)).blk {e.au with waits:=e.au.waits || bp (e.au.count∈q)}).1,(eD e a).1.cache.filter (qp (oL ((((eD e a).1.cache).getD ((eD e a).2.1).toNat default)).blk {e.au with waits:=e.au.waits || bp (e.au.count∈q)}).1.mem),(eD e a).1.aZ⟩,(eD e a).2.2)
noncomputable def FY (e:Eng) (q:List Int) (left:Int) (a:Ask):Eng×Bool:=
 if bp (Pf e)=false then(apD,false)else if e.au.halt≠0\/left<1\/e.au.count=1000000 then(e,false)else goE e q left a
def RV:∀(r:List Ins) (n:Int) (b:Blk),(lW n b r).pc=b.pc/\(lW n b r).len=b.len
 | [],_,_=>⟨rfl,rfl⟩
 | i::r,n,b=>by
  have e:(gy n b i).pc=b.pc/\(gy n b i).len=b.len:=by
   unfold gy;split
   .exact⟨rfl,rfl⟩
   split<;>exact⟨rfl,rfl⟩
  have h:=RV r (n+1) (gy n b i);exact⟨h.1.trans e.1,h.2.trans e.2⟩
def Ua{pc:Int}{l:List Ins}(h:nu pc l):(lower pc l).pc=pc:=by
 unfold lower;rw [if_pos (aP h)];exact(RV l 0 (xL pc l)).1
def ZL{b c:Blk}(h:chk b c=true):bY b/\bY c/\b.pc=c.pc/\b.len=c.len:=by
 have:=aV.1 h;exact⟨this.1,this.2.1,this.2.2.1,this.2.2.2.1⟩
def Ub(l:List Cac)(e:Cac):((jJ l e).getD (((jJ l e).length:Int)-1).toNat default)=e:=by
 have n:(jJ l e).length=(l.filter (neP e.blk.pc)).length+1- ((l.filter (neP e.blk.pc)).length+1-4):=by unfold jJ;rw [List.length_drop,List.length_append,List.length_singleton]
 rw [n,getD_lt (by rw [n];omega)];unfold jJ;rw [List.getElem_drop,List.getElem_append_right ah];simp
def FZ(e:Eng)(a:Ask):(eD e a).1.au=e.au:=by
 unfold eD;split
 .rfl
 split<;>rfl
def ac7{cs:List Cer}{b:Blk}{a:Ask}(h:cs.length<=3):(nS cs b a).2.length<=3:=by
 unfold nS;split
 .exact h
 split
 .exact h
 split
 .unfold KA;rw [List.length_drop,List.length_append,List.length_singleton];omega
 .exact h
structure FnS(e:Eng)(y:Eng×Int×Bool):Prop where
 l:y.1.cache.length<=e.cache.length+4/\(e.cache.length<=4->y.1.cache.length<=4)/\(e.aZ.length<=3->y.1.aZ.length<=3)
 w:(∀x∈e.cache,0<x.words.length)->∀x∈y.1.cache,0<x.words.length
 k:ShK y.1.cache
 c:ShC y.1.aZ
 r:y.2.1<y.1.cache.length
 b:0<=y.2.1->bY (((y.1.cache).getD (y.2.1).toNat default)).blk/\(((y.1.cache).getD (y.2.1).toNat default)).blk.pc=e.au.pc
def ZM{e:Eng}{a:Ask}(h2:ShK e.cache)(h3:ShC e.aZ)(ok:Pf e)(hl:a.bytes.length<1000000000):FnS e (eD e a):=by
 have B:=Em e.au;have fc:=ZJ e.cache e.au.pc;unfold eD;split
 .rename_i g;rcases fc with f | ⟨f1,f2,f3,_⟩
  .omega
  .exact⟨⟨Nat.le_add_right _ _,id,id⟩,id,h2,h3,f2,λ_=>⟨(ZL (ok.2.1.2.1 _ f1 f2).1.2.2).2.1,f3⟩⟩
 split
 .exact⟨⟨Nat.le_add_right _ _,id,id⟩,id,h2,h3,by dsimp only;omega,λg=>absurd (show(0:Int)<= -1 from g) (by decide)⟩
 .rename_i g;have bk:=(B.2 ah).2;have ir:=lX bk;have sz:=ir.sz;have A:=RU (a:=a) h3 (show(lower e.au.pc (findF e.au)).ops.length<1000000 by omega) hl;have Q:=ac6 (a:=a) (b:=lower e.au.pc (findF e.au)) ok.2.2;have lpc:(lower e.au.pc (findF e.au)).pc=e.au.pc:=Ua bk;have Z:bY (nS e.aZ (lower e.au.pc (findF e.au)) a).1/\(nS e.aZ (lower e.au.pc (findF e.au)) a).1.pc=e.au.pc:=by
   rcases Q with q | q
   .rw [q];exact⟨ir,lpc⟩
   .have k:=ZL q;exact⟨k.2.1,by rw [<-k.2.2.1,lpc]⟩
  have wl:((findF e.au).map kg).length<1000:=by rw [List.length_map];omega
  have zp:=Z.1.pc;have zl:=Z.1.ln;have S:=Iz h2 (e:=⟨(findF e.au).map kg,(nS e.aZ (lower e.au.pc (findF e.au)) a).1⟩) wl A.1 (by dsimp only;omega);have kl:(jJ e.cache ⟨(findF e.au).map kg,(nS e.aZ (lower e.au.pc (findF e.au)) a).1⟩).length<=4:=by
   unfold jJ;rw [List.length_drop,List.length_append,List.length_singleton];omega
  exact⟨⟨by dsimp only;omega,λ_=>kl,λz=>ac7 z⟩,λhw x hx=>by
   unfold jJ at hx;have hx:=List.mem_of_mem_drop hx;rw [List.mem_append,List.mem_singleton]at hx;rcases hx with hx | rfl
   .exact hw x (List.mem_filter.1 hx).1
   .show 0< ((findF e.au).map kg).length;rw [List.length_map];omega,S.1,A.2,Int.sub_lt_self _ (by decide),λ_=>by rw [Ub];exact Z⟩
def IB{l:List Cac}(h:ShK l)(P:Cac->Bool):ShK (l.filter P):=h.sub (Nat.lt_of_le_of_lt (List.length_filter_le _ _) h.1) λx hx=>(List.mem_filter.1 hx).1
abbrev e13(y : Eng × Bool) : List Int × Int × Int × Bool × Bool × Int × List Int × List Int × Int × Bool × List Cer × List Int × List Cac × Unit := (y.1.au.regs, y.1.au.pc, y.1.au.save, y.1.au.bH, y.1.au.waits, y.1.au.halt, y.1.au.ins, y.1.au.outs, y.1.au.count, y.2, y.1.aZ, y.1.au.mem, y.1.cache, ())
def KG{b:Blk}{m:aG}(hs:MSh m)(ho:m.outs.length<900000000):MSh (oL b m).1/\(oL b m).1.outs.length<=m.outs.length+48/\(oL b m).1.ins.length<=m.ins.length:=by
 unfold oL;split
 .rename_i g;have g:=aV.1 g;split
  .exact⟨hs,Nat.le_add_right _ _,Nat.le_refl _⟩
  .have l:=Iw b b.ops ⟨m,[],false⟩;have sz:=g.1.sz;refine⟨acS g.1 hs ho,?_,?_⟩
   .unfold O7;split<;>(dsimp only;have:=l.2.1;dsimp only at this;omega)
   .unfold O7;split<;>exact l.1
 .exact⟨⟨by decide,by decide,by decide,by decide⟩,Nat.zero_le _,Nat.zero_le _⟩
structure apE(pp:Eng×Unit->Bool)(ff:Eng×Unit->Bool×Unit):Prop where
 hp:∀e,MSh e.au->ShK e.cache->ShD e.aZ->pp (e,())=true
 hf:∀e,MSh e.au->ShK e.cache->ShD e.aZ->ff (e,())=(bp (Pf e),())
theorem amw{p1 f1 p2 f2 p8 f8}(U1:amf p1 f1)(U2:apE p2 f2){p3:Blk×aG×Unit->Bool}{f3:Blk×aG×Unit->Int×Int×Bool×Bool×Int×List Int×Int×Bool×List Int×List Int×List Int×Unit}(hp3:∀(b:Blk) (m:aG),MSh m->b.ops.length<1000000000->m.outs.length<800000000->p3 (b,m,())=true)(hf3:∀(b:Blk) (m:aG),MSh m->b.ops.length<1000000000->m.outs.length<800000000->f3 (b,m,())=amu (oL b m)){p4:Eng×Unit->Bool}{f4:Eng×Unit->List Int×Int×Int×Bool×Bool×Int×List Int×List Int×Int×List Cer×List Int×List Cac×Unit}(hp4:∀e,MSh e.au->ShK e.cache->ShC e.aZ->p4 (e,())=true)(hf4:∀e,MSh e.au->ShK e.cache->ShC e.aZ->f4 (e,())=e12 e){p5:List Int×Int×List Int×Int×Bool×Bool×Int×List Int×List Int×Int×List Cac×Ask×List Cer×Unit->Bool}{f5:List Int×Int×List Int×Int×Bool×Bool×Int×List Int×List Int×Int×List Cac×Ask×List Cer×Unit->List Int×Int×List Int×Int×Bool×Bool×Int×List Int×List Int×Int×List Cac×Int×Bool×List Cer×Unit}(hp5:∀(e:Eng) (a:Ask),MSh e.au->ShK e.cache->ShC e.aZ->By a.bytes->a.bytes.length<1000000000->p5 (e.au.regs,e.au.pc,e.au.mem,e.au.save,e.au.bH,e.au.waits,e.au.halt,e.au.ins,e.au.outs,e.au.count,e.cache,a,e.aZ,())=true)(hf5:∀(e:Eng) (a:Ask),MSh e.au->ShK e.cache->ShC e.aZ->By a.bytes->a.bytes.length<1000000000->f5 (e.au.regs,e.au.pc,e.au.mem,e.au.save,e.au.bH,e.au.waits,e.au.halt,e.au.ins,e.au.outs,e.au.count,e.cache,a,e.aZ,())=((eD e a).1.au.regs,(eD e a).1.au.pc,(eD e a).1.au.mem,(eD e a).1.au.save,(eD e a).1.au.bH,(eD e a).1.au.waits,(eD e a).1.au.halt,(eD e a).1.au.ins,(eD e a).1.au.outs,(eD e a).1.au.count,(eD e a).1.cache,(eD e a).2.1,(eD e a).2.2,(eD e a).1.aZ,())){p6:List Int×Int×List Int×Int×Bool×Bool×Int×List Int×List Int×Int×List Cac×List Int×List Cer×Unit->Bool}{f6:List Int×Int×List Int×Int×Bool×Bool×Int×List Int×List Int×Int×List Cac×List Int×List Cer×Unit->List Int×Int×Int×Bool×Bool×Int×List Int×List Int×Int×List Cer×List Int×List Cac×Unit}(hp6:∀(e:Eng) (q:List Int),MSh e.au->e.au.outs.length<900000000->ShK e.cache->q.length<1000000000->p6 (e.au.regs,e.au.pc,e.au.mem,e.au.save,e.au.bH,e.au.waits,e.au.halt,e.au.ins,e.au.outs,e.au.count,e.cache,q,e.aZ,())=true)(hf6:∀(e:Eng) (q:List Int),MSh e.au->e.au.outs.length<900000000->ShK e.cache->q.length<1000000000->f6 (e.au.regs,e.au.pc,e.au.mem,e.au.save,e.au.bH,e.au.waits,e.au.halt,e.au.ins,e.au.outs,e.au.count,e.cache,q,e.aZ,())=e12 (su e q)){p7:aG×List Int×Int×Int×Unit->Bool}{f7:aG×List Int×Int×Int×Unit->Bool×Unit}(hp7:∀m q l s,q.length<1000000000->0<=m.count/\m.count<=2000000-> -1000<=s/\s<=1000000->p7 (m,q,l,s,())=true)(hf7:∀m q l s,q.length<1000000000->0<=m.count/\m.count<=2000000-> -1000<=s/\s<=1000000->f7 (m,q,l,s,())=(El m q l s,()))(U8:ahH p8 f8)(e:Eng)(q:List Int)(left:Int)(a:Ask)(h1:MSh e.au)(ho:e.au.outs.length<700000000)(h2:ShK e.cache)(h3:ShC e.aZ)(hq:q.length<1000000000)(ha:By a.bytes)(hl:a.bytes.length<1000000000):XP.F (p1,f1,p2,f2,p3,f3,p4,f4,p5,f5,p6,f6,p7,f7,p8,f8,()) (e,q,left,a,()) (λy=>y=e13 (FY e q left a)):=by
 obtain⟨hp1,hf1⟩:=U1;obtain⟨hp2,hf2⟩:=U2;obtain⟨hp8,hf8⟩:=U8;have mM:=MKM;have mE:∀c:Blk,Co.mk .blk (c.pc,c.len,c.ops,c.fin,c.x,c.y,c.k,())=c:=λ_=>rfl
 dsimp only [XP,gm,ou,kK]at*;have P6:=hp6 e q h1 ah h2 hq;have H6:=hf6 e q h1 ah h2 hq;have P5:=hp5 e a h1 h2 h3 ha hl;have H5:=hf5 e a h1 h2 h3 ha hl;have P8:=hp8 q e.au.count hq;have H8:=hf8 q e.au.count hq;have fm:=FZ e a;have S:Pf e->FnS e (eD e a):=λk=>ZM h2 h3 k hl
 unfold FY goE;generalize eD e a=Y at*;simp (disch:=omega) only [RR,mM,hp2 e h1 h2 h3.d,hf2 e h1 h2 h3.d,hp4 e h1 h2 h3,hf4 e h1 h2 h3,P6,H6,P5,H5,P8,H8,CAB,mE];refine⟨λg=>by rw [if_pos g];rfl,λg=>⟨λh=>by rw [if_neg (by rw [g];decide),if_pos (show e.au.halt≠0\/left<1\/e.au.count=1000000 by omega)],λh=> ?_⟩⟩;have ok:=aV.1 g;have S:=S ok;have cw:=ok.1.ct;rw [if_neg (by rw [g];decide),if_neg (show¬(e.au.halt≠0\/left<1\/e.au.count=1000000) by omega)];have PY:=hp6 Y.1 q (by rw [fm];exact h1) (by rw [fm];omega) S.k hq;have HY:=hf6 Y.1 q (by rw [fm];exact h1) (by rw [fm];omega) S.k hq;rw [HY];have ec:((e.au.waits=true\/bp (e.au.count∈q)=true)/\e.au.bH=true)↔((e.au.waits=true\/e.au.count∈q)/\e.au.bH=true):=by rw [aV]
 refine⟨λw=>by rw [if_pos (ec.1 w)],λw=> ?_⟩;rw [if_neg (λz=>by
  have:((e.au.waits || bp (e.au.count∈q))&&e.au.bH)=true:=by rw [Bool.and_eq_true,Bool.or_eq_true];exact ec.2 z
  rw [this]at w;cases w)]
 refine⟨λn=>⟨PY,by rw [if_pos n]⟩,λn=> ?_⟩;rw [if_neg ah];have k0:0<=Y.2.1:=by omega
 have Sr:=S.r;obtain⟨B1,B2⟩:=S.b k0;have s1:=(S.k.at Y.2.1.toNat).2.1;generalize hb:(((Y.1.cache).getD (Y.2.1).toNat default)).blk=b at*;have bl:=B1.ln;have P7:=hp7 e.au q left b.len hq ah ah;have H7:=hf7 e.au q left b.len hq ah ah;refine⟨k0,Sr,P7,?_⟩;rw [H7];refine⟨λr=>⟨PY,by rw [if_pos r]⟩,λr=> ?_⟩;have r:El e.au q left b.len=true:=r;rw [if_neg (by rw [r];decide)];obtain⟨M,hM⟩:∃M:aG,M={e.au with waits:=e.au.waits || bp (e.au.count∈q)}:=⟨_,rfl⟩;have eM:Co.mk .au (e.au.regs,e.au.pc,e.au.mem,e.au.save,e.au.bH,e.au.waits || bp (e.au.count∈q),e.au.halt,e.au.ins,e.au.outs,e.au.count,())=M:=hM.symm;have Ms:MSh M:=by rw [hM];exact h1
 have Mo:M.outs.length<700000000:=by rw [hM];exact ho
 rw [<-hM];have R:=KG (b:=b) Ms ah;simp only [eM,hp3 b M Ms ah ah,hf3 b M Ms ah ah,hp1 _ _ S.k R.1.2.1,hf1 _ _ S.k R.1.2.1];exact⟨trivial,trivial,trivial⟩
structure EgS(e:Eng)(n:Nat):Prop where
 m:MSh e.au
 o:e.au.outs.length<=n
 k:ShK e.cache
 c:ShC e.aZ
 kl:e.cache.length<=4
 cl:e.aZ.length<=3
 w:∀x∈e.cache,0<x.words.length
 v:∀x∈e.cache,0<=x.blk.pc/\x.blk.pc<e.au.mem.length
def ZN{l:List Cac}{mem:List Int}(w:∀x∈l,0<x.words.length):∀x∈l.filter (qp mem),0<=x.blk.pc/\x.blk.pc<mem.length:=λx hx=>by
 have h:=List.mem_filter.1 hx;have d:=aV.1 (show bp _=true from h.2);have t:=d.2 0 (by decide) (by have:=w x h.1;omega);exact⟨d.1,ah⟩
def ac8{e:Eng}{n:Nat}(h:EgS e n)(hn:n<700000000)(q:List Int)(left:Int){a:Ask}(hl:a.bytes.length<1000000000):EgS (FY e q left a).1 (n+50):=by
 have ho:=h.o;unfold FY;split
 .exact⟨⟨by decide,by decide,by decide,by decide⟩,Nat.zero_le _,⟨by decide,λx hx=>by cases hx⟩,⟨by decide,λx hx=>by cases hx⟩,by decide,by decide,(λx hx=>by cases hx),λx hx=>by cases hx⟩
 rename_i g;have ok:Pf e:=aV.1 (by simpa using g);split
 .exact⟨h.m,by have:=h.o;dsimp only;omega,h.k,h.c,h.kl,h.cl,h.w,h.v⟩
 have pl:∀y:Eng,y.au=e.au->ShK y.cache->ShC y.aZ->y.cache.length<=4->y.aZ.length<=3->(∀x∈y.cache,0<x.words.length)->EgS (su y q) (n+50):=λy ym yk yc yl ym' yw=>by
  have s:=ZA (m:=y.au) (by rw [ym];exact h.m) (by rw [ym];omega) (bp (y.au.count∈q));rw [ym]at s;exact⟨by unfold su;rw [ym];exact s.1,by have:=s.2.1;unfold su;rw [ym];dsimp only;omega,IB yk _,yc,Nat.le_trans (List.length_filter_le _ _) yl,ym',λx hx=>yw x (List.mem_filter.1 hx).1,ZN yw⟩
 have S:=ZM h.k h.c ok hl;have fm:=FZ e a;unfold goE;split
 .exact pl e rfl h.k h.c h.kl h.cl h.w
 split
 .exact pl _ fm S.k S.c (S.l.2.1 h.kl) (S.l.2.2 h.cl) (S.w h.w)
 split
 .exact pl _ fm S.k S.c (S.l.2.1 h.kl) (S.l.2.2 h.cl) (S.w h.w)
 .have R:=KG (b:=((((eD e a).1.cache).getD ((eD e a).2.1).toNat default)).blk) (m:={e.au with waits:=e.au.waits || bp (e.au.count∈q)}) h.m (by dsimp only;omega);exact⟨R.1,by have:=R.2.1;dsimp only at this ⊢;omega,IB S.k _,S.c,Nat.le_trans (List.length_filter_le _ _) (S.l.2.1 h.kl),S.l.2.2 h.cl,λx hx=>S.w h.w x (List.mem_filter.1 hx).1,ZN (S.w h.w)⟩
def EnD(b:List Int)(p:Int)(y:List Int×Int×Int×Bool×Bool×Int×List Int×List Int×Int×List Int×Int×List Cer×List Int×List Cac×Unit):Prop:=
 ∃(e:Eng) (p':Int),EgS e 1000/\p<=p'/\p'<=p+30000000/\y=(e.au.regs,e.au.pc,e.au.save,e.au.bH,e.au.waits,e.au.halt,e.au.ins,e.au.outs,e.au.count,b,p',e.aZ,e.au.mem,e.cache,())
def ShK.nil:ShK []:=⟨by decide,λx hx=>by cases hx⟩
def ShC.nil:ShC []:=⟨by decide,λx hx=>by cases hx⟩
def ahV{m:aG}(h:MSh m)(ho:m.outs.length<=0):EgS (newE m) 0:=by
 unfold newE;split
 .exact⟨h,ho,ShK.nil,ShC.nil,Nat.zero_le _,Nat.zero_le _,(λx hx=>by cases hx),λx hx=>by cases hx⟩
 .exact⟨⟨by decide,by decide,by decide,by decide⟩,Nat.le_refl _,ShK.nil,ShC.nil,by decide,by decide,(λx hx=>by cases hx),λx hx=>by cases hx⟩
theorem ahW{p3 f3 p4 f4 p5 f5 p6 f6 p7 f7}{p1:aG×Unit->Bool}{f1:aG×Unit->List Int×Int×Int×Bool×Bool×Int×List Int×List Int×Int×List Cer×List Int×List Cac×Unit}(hp1:∀m,MSh m->p1 (m,())=true)(hf1:∀m,MSh m->f1 (m,())=e12 (newE m)){p2:Eng×List Int×Int×Ask×Unit->Bool}{f2:Eng×List Int×Int×Ask×Unit->List Int×Int×Int×Bool×Bool×Int×List Int×List Int×Int×Bool×List Cer×List Int×List Cac×Unit}(hp2:∀(e:Eng) (q:List Int) (l:Int) (a:Ask),MSh e.au->e.au.outs.length<700000000->ShK e.cache->ShC e.aZ->q.length<1000000000->By a.bytes->a.bytes.length<1000000000->p2 (e,q,l,a,())=true)(hf2:∀(e:Eng) (q:List Int) (l:Int) (a:Ask),MSh e.au->e.au.outs.length<700000000->ShK e.cache->ShC e.aZ->q.length<1000000000->By a.bytes->a.bytes.length<1000000000->f2 (e,q,l,a,())=e13 (FY e q l a))(U3:apt p3 f3)(U4:apu p4 f4)(U5:apv p5 f5)(U6:Y38 p6 f6)(U7:apw p7 f7){p8:aG×List Int×Int×Unit->Bool}{f8:aG×List Int×Int×Unit->Bool×List Int×Int×List Int×Unit}(hp8:∀m b p,MSh m->Bt b->0<=p->p<500000000->p8 (m,b,p,())=true)(hf8:∀m b p,MSh m->Bt b->0<=p->p<500000000->AsD b p (f8 (m,b,p,())))(b:List Int)(p:Int)(hb:Bt b)(h1:0<=p)(h2:p<300000000):Ow.F (p1,f1,p2,f2,p3,f3,p4,f4,p5,f5,p6,f6,p7,f7,p8,f8,()) (b,p,()) (λy=>EnD b p y):=by
 obtain⟨hp3,hf3⟩:=U3;obtain⟨hp4,hf4⟩:=U4;obtain⟨hp5,hf5⟩:=U5;obtain⟨hp6,hf6⟩:=U6;obtain⟨hp7,hf7⟩:=U7;have R:=pkR hb hf6;have P:=λn p h1 h2=>hp6 n b p hb h1 h2
 obtain⟨i1,i2,i3,i4,i5⟩:=hf4 b p hb h1 ah;have P4:=hp4 b p hb h1 ah;generalize hy:f4 (b,p,())=y at i1 i2 i3 i4 i5;obtain⟨b',q0,w,⟨⟩⟩:=y;dsimp only at i1 i2 i3 i4 i5;subst i1;obtain⟨a1,a2,a3,a4⟩:=hf6 4 b' q0 hb ah ah;have P6:=hp6 4 b' q0 hb ah ah;generalize hk:f6 (4,b',q0,())=k at a1 a2 a3 a4;obtain⟨n,b'',q1,⟨⟩⟩:=k;dsimp only at a1 a2 a3 a4;subst a1;subst a2;obtain⟨w1,w2,w3,w4,w5⟩:=hf7 n b'' (q0+1) hb ah ah ah;have P7:=hp7 n b'' (q0+1) hb ah ah ah;generalize hw:f7 (n,b'',q0+1,())=v at w1 w2 w3 w4 w5;obtain⟨c,q2,ins,⟨⟩⟩:=v;dsimp only at w1 w2 w3 w4 w5;subst w1;have ok:=acX i4 i5 w5;have P3:=hp3 w ins ah ah;have H3:=hf3 w ins ah ah;have Nm:(jG w ins).outs=[]/\(jG w ins).ins.length<=ins.length:=by
  unfold jG;split<;>exact⟨rfl,by simp [KC]⟩
 have Ns:MSh (jG w ins):=⟨by rw [ok.r4];decide,by have:=ok.m64;omega,ah,by rw [Nm.1];decide⟩;have P1:=hp1 _ Ns;have H1:=hf1 _ Ns;have E0:=ahV Ns (by rw [Nm.1];exact Nat.le_refl _);obtain⟨s1,s2,s3,s4⟩:=hf5 c q2 hb ah ah;have P5:=hp5 c q2 hb ah ah;generalize hs:f5 (c,q2,())=z at s1 s2 s3 s4;obtain⟨d,q3,irq,⟨⟩⟩:=z;dsimp only at s1 s2 s3 s4;subst s1;have mM:=MKM;generalize jG w ins=M at*;have mK:Co.mk .au (M.regs,M.pc,M.mem,M.save,M.bH,M.waits,M.halt,M.ins,[],M.count,())=M:=by
  have:=Nm.1;cases M;dsimp only at this;subst this;rfl
 generalize newE M=N at*;dsimp only [Ow,gm,ou];simp (disch:=omega) only [RR,P4,hy,P6,hk,P7,hw,P3,H3,P5,hs,R,P,mK,P1,H1];obtain⟨t1,t2,t3,t4⟩:=hf6 12 d q3 hb ah ah;refine aB (λy=>∃(k q:Int) (e:Eng),0<=k/\k<=11/\p<=q/\q<=p+20000+2000100*(11-k)/\EgS e (50*(11-k).toNat)/\y=(k,d,q,0,0,false,false,0,0,e.au.regs,e.au.pc,e.au.save,e.au.bH,e.au.waits,e.au.halt,e.au.ins,e.au.outs,e.au.count,irq,e.au.mem,e.cache,e.aZ,())) (λy=>y.1.toNat) ⟨(f6 (12,d,q3,())).1,q3+1,N,t3,ah,ah,ah,⟨E0.m,by have:=E0.o;omega,E0.k,E0.c,E0.kl,E0.cl,E0.w,E0.v⟩,rfl⟩ ?_;rintro y ⟨k,q,e,k0,k1,k2,k3,E,rfl⟩;dsimp only;have eo:=E.o;by_cases c:0<k
 .obtain⟨u1,u2,u3,u4⟩:=hf6 30 d q hb ah ah;have P8:=hp8 e.au d (q+1) E.m hb ah ah;have A:=hf8 e.au d (q+1) E.m hb ah ah;have Ap:=A.p;have Ab:=A.b;obtain⟨Al,An⟩:=A.l;generalize hA8:f8 (e.au,d,q+1,())=a at*;have w1:IntKind.i64.wrap (1+(f6 (30,d,q,())).1)=1+(f6 (30,d,q,())).1:=w64 ah ah;have P2:=hp2 e irq (1+(f6 (30,d,q,())).1) ⟨a.1,a.2.2.2.1⟩ E.m ah E.k E.c ah Al (by dsimp only;omega);have H2:=hf2 e irq (1+(f6 (30,d,q,())).1) ⟨a.1,a.2.2.2.1⟩ E.m ah E.k E.c ah Al (by dsimp only;omega);have T:=ac8 E ah irq (1+(f6 (30,d,q,())).1) (a:=⟨a.1,a.2.2.2.1⟩) (by dsimp only;omega);have mA:∀(x:Bool) (y:List Int),Co.mk .ask (x,y,())=(⟨x,y⟩:Ask):=λ_ _=>rfl
  have mG:=EGM;generalize FY e irq (1+(f6 (30,d,q,())).1) ⟨a.1,a.2.2.2.1⟩=X at*;simp (disch:=omega) only [RR,c,R,P,mM,P8,hA8,mA,mG,w1,P2,H2];exact⟨⟨k-1,a.2.2.1,X.1,ah,ah,ah,ah,⟨T.m,by have:=T.o;omega,T.k,T.c,T.kl,T.cl,T.w,T.v⟩,by rw [Ab]⟩,ah⟩
 .simp (disch:=omega) only [RR,c];exact⟨e,q,⟨E.m,ah,E.k,E.c,E.kl,E.cl,E.w,E.v⟩,k2,ah,rfl⟩
def KpD(b:List Int)(p:Int)(y:List Int×List Int×Int×List Cac×Unit):Prop:=
 ∃(e:Eng) (p':Int),EgS e 1000/\p<=p'/\p'<=p+30000000/\y=(e.au.mem,b,p',e.cache,())
structure apF(pp:List Int×Int×Unit->Bool)(ff:List Int×Int×Unit->List Int×Int×Int×Bool×Bool×Int×List Int×List Int×Int×List Int×Int×List Cer×List Int×List Cac×Unit):Prop where
 hp:∀b p,Bt b->0<=p->p<300000000->pp (b,p,())=true
 hf:∀b p,Bt b->0<=p->p<300000000->EnD b p (ff (b,p,()))
def ahX{p1 f1}(U1:apF p1 f1)(b:List Int)(p:Int)(hb:Bt b)(h1:0<=p)(h2:p<100000000):Ox.F (p1,f1,()) (b,p,()) (λy=>KpD b p y):=by
 obtain⟨e,p',E,e1,e2,H⟩:=U1.hf b p hb h1 ah;have P1:=U1.hp b p hb h1 ah;dsimp only [Ox,gm];simp (disch:=omega) only [RR,P1,H];exact⟨e,p',E,e1,e2,rfl⟩
structure apG(pp:List Int×Int×Unit->Bool)(ff:List Int×Int×Unit->List Int×List Int×Int×List Cac×Unit):Prop where
 hp:∀b p,Bt b->0<=p->p<100000000->pp (b,p,())=true
 hf:∀b p,Bt b->0<=p->p<100000000->KpD b p (ff (b,p,()))
def PuD(y:List Cac×Cac×Unit):Prop:=ShK y.1/\y.2.1.words.length<1000/\y.2.1.blk.ops.length<1000000/\y.2.1.blk.pc<=1000000
def ShK.add{l:List Cac}(h:ShK l)(n:l.length<999){x:Cac}(h1:x.words.length<1000)(h2:x.blk.ops.length<1000000)(h3:x.blk.pc<=1000000):ShK (l++ [x]):=by
 refine⟨by rw [List.length_append,List.length_singleton];omega,λc hc=> ?_⟩;rw [List.mem_append,List.mem_singleton]at hc;rcases hc with g | rfl
 .exact h.2 c g
 .exact⟨h1,h2,h3⟩
theorem amx{p1 f1 p2 f2 p3 f3 p4 f4 p5 f5 p6 f6 p7 f7}(U1:ac1 p1 f1)(U2:ahL p2 f2)(U3:Y41 p3 f3)(U4:Y39 p4 f4)(U5:Y38 p5 f5)(U6:apG p6 f6)(U7:Y82 p7 f7)(c:List Int)(hc:By c)(hl:c.length<1000000000):XZ.F (p1,f1,p2,f2,p3,f3,p4,f4,p5,f5,p6,f6,p7,f7,()) (c,()) (λy=>PuD y):=by
 obtain⟨hp1,hf1⟩:=U1;obtain⟨hp2,hf2⟩:=U2;obtain⟨hp3,hf3⟩:=U3;obtain⟨hp4,hf4⟩:=U4;obtain⟨hp5,hf5⟩:=U5;obtain⟨hp6,hf6⟩:=U6;obtain⟨hp7,hf7⟩:=U7;have mC:=CAM;obtain⟨hb,e0⟩:=hf3 c hc hl;generalize hbe:(f3 (c,())).1=b at hb;obtain⟨e,q,E,e1,e2,H⟩:=hf6 b 0 hb ah ah;have P6:=hp6 b 0 hb ah ah;have R:=pkR hb hf5;have P:=λn p h1 h2=>hp5 n b p hb h1 h2
 have l:=E.kl;obtain⟨o1,o2⟩:=hf4 5 b q hb ah ah;have OP:=hp4 5 b q hb ah ah;have li:∀x:Int,(([x]:List Int).length:Int)=1:=λ_=>rfl
 have lc:∀x:Cac,(([x]:List Cac).length:Int)=1:=λ_=>rfl
 have mK:∀(w:List Int) (x:Blk),Co.mk .cac (w,x.pc,x.len,x.ops,x.fin,x.x,x.y,x.k,())=(⟨w,x⟩:Cac):=λ_ _=>rfl
 have D:=hf7 b (q+1) hb ah ah;have P7:=hp7 b (q+1) hb ah ah;generalize hz:f7 (b,q+1,())=z at*;obtain⟨b',q3,ins,⟨⟩⟩:=z;have Db:b'=b:=D.b;have D1:q+1<=q3:=D.lo;have D2:q3<=q+1+1000:=D.hi;have D3:(ins.length:Int)<=20:=D.len;subst Db;have P2:=hp2 ins ah;have H2:=hf2 ins ah;have P1:=λn:Int=>hp1 n ins ah
 have H1:=λn:Int=>hf1 n ins ah
 have nw:∀pc:Int,(⟨ins.map kg,lower pc ins⟩:Cac).words.length<1000/\(⟨ins.map kg,lower pc ins⟩:Cac).blk.ops.length<1000000/\(⟨ins.map kg,lower pc ins⟩:Cac).blk.pc<=1000000:=λpc=>by
  have lw:((lower pc ins).ops.length:Int)<=5000:=KE pc ins;exact⟨by dsimp only;rw [List.length_map];omega,by dsimp only;omega,ZI pc ins⟩
 have fin:∀(L:List Cac) (x:Int),ShK L->PuD (L,Co.mk .cac (ins.map kg,(lower x ins).pc,(lower x ins).len,(lower x ins).ops,(lower x ins).fin,(lower x ins).x,(lower x ins).y,(lower x ins).k,()),()):=λL x h=>⟨h,nw x⟩
 have bd:∀L:List Cac,ShK L->0< (L.length:Int)->(f5 ((L.length:Int),b',q3+1+1,())).1<L.length:=λL _ g=>by
  have:=(hf5 (L.length:Int) b' (q3+1+1) hb ah ah).2.2.2;omega
 dsimp only [XZ,gm,kK];simp (disch:=omega) only [RR,hp3 c hc hl,hbe,e0,P6,H,OP,o1,o2];refine⟨λg=> ?_,λg=> ?_⟩
 .refine aB (λy=>∃(k:Int) (L:List Cac),0<=k/\k<=4/\ShK L/\(L.length:Int)<=4+k/\y=(k,0,0,0,0,0,0,b',q+1,L,())) (λy=>(4-y.1).toNat) ⟨0,e.cache,ah,ah,E.k,ah,rfl⟩ ?_;rintro y ⟨k,L,k0,k1,hL,hl',rfl⟩;dsimp only;by_cases c4:k<4
  .simp (disch:=omega) only [RR,c4];refine⟨by simp only [List.length_cons,List.length_nil];omega,⟨k+1,_,ah,ah,hL.add ah (x:=⟨[k],⟨70+k,0,[],0,0,0,0⟩⟩) (show 1<1000 by decide) (show 0<1000000 by decide) (by dsimp only;omega),by rw [List.length_append];simp only [List.length_cons,List.length_nil];omega,rfl⟩,ah⟩
  .simp (disch:=omega) only [RR,c4,P7,hz,P2,H2,P1,H1,R,P,mK];exact⟨λg=>⟨λh=>⟨bd L hL g,bd L hL g,hL,hL.at _⟩,λh=>fin L _ hL⟩,λg=>⟨g,fin L _ hL⟩⟩
 .have hL:=E.k;generalize e.cache=L at*;simp (disch:=omega) only [RR,P7,hz,P2,H2,P1,H1,R,P,mK];exact⟨λg=>⟨λh=>⟨bd L hL g,bd L hL g,hL,hL.at _⟩,λh=>fin L _ hL⟩,λg=>⟨g,fin L _ hL⟩⟩
def amy(e x:Cac):agp.F () (e,x,()) (λy=>y=(decide (e.blk.pc=x.blk.pc),x,())):=by
 dsimp only [agp,gm];simp (disch:=omega) only [RR,CAB]
structure amA(pp:Cac×Cac×Unit->Bool)(ff:Cac×Cac×Unit->Bool×Cac×Unit):Prop where
 hp:∀e x,pp (e,x,())=true
 hf:∀e x,ff (e,x,())=(decide (e.blk.pc=x.blk.pc),x,())
def amB{p1 f1}(U1:amA p1 f1)(l:List Cac)(x:Cac)(h:l.length<1000000000):XW.F (p1,f1,()) (l,x,()) (λy=>y.2.1=x/\FC l x.blk.pc y.1):=by
 dsimp only [XW,gm];refine aB (λ(y:List Cac×Int×Int×Cac×Unit)=>y.1=l/\y.2.1=l.length/\0<=y.2.2.1/\y.2.2.1<=l.length/\y.2.2.2.1=x/\∀j:Int,0<=j->j<y.2.2.1->(((l).getD (j).toNat default)).blk.pc≠x.blk.pc) (λy=>(l.length-y.2.2.1).toNat) ⟨rfl,rfl,by simp,by simp,rfl,λj h0 h1=>absurd h1 (by simp;omega)⟩ ?_;rintro⟨(l:List Cac),(n:Int),(i:Int),(x:Cac),⟨⟩⟩ hI;dsimp only at hI ⊢;obtain⟨rfl,rfl,h1,h2,rfl,h3⟩:=hI;simp (disch:=omega) only [RR,CAB,U1.hp,U1.hf];refine⟨λg=>⟨h1,g,λe=>Or.inr ⟨h1,g,e,h3⟩,λe=>⟨⟨ah,ah,λj j0 j1=> ?_⟩,ah⟩⟩,λg=>Or.inl ⟨rfl,λj j0 j1=>h3 j j0 ah⟩⟩;by_cases c:j<i
 .exact h3 j j0 c
 .rw [show j=i by omega];exact e
def filter_all{α:Type}{P:α->Bool}{d:α}:∀ {l:List α},(∀i:Nat,i<l.length->P (l.getD i d)=true)->l.filter P=l
 | [],_=>rfl
 | x::l,h=>by
  have h0:=h 0 (by simp);have h1:=filter_all (P:=P) (d:=d) (l:=l) λi hi=>h (i+1) (by simp;omega)
  rw [List.filter_cons,if_pos (by simpa using h0),h1]
structure BK(P:Cac->Bool)(l L:List Cac)(i j:Int):Prop where
 i0:0<=i
 ij:i<=j
 jl:j<=l.length
 len:L.length=l.length
 a:L.take i.toNat=(l.take j.toNat).filter P
 b:∀k:Nat,j<=k->L.getD k default=l.getD k default
def BK.start{P:Cac->Bool}{l:List Cac}{k:Int}(h0:0<=k)(h1:k<l.length)(hp:P ((l).getD (k).toNat default)=false)(h:∀j:Int,0<=j->j<k->P ((l).getD (j).toNat default)=true):BK P l l k (k+1):=by
 refine⟨h0,ah,ah,rfl,?_,λ_ _=>rfl⟩;rw [jo (d:=default) h0 h1,if_neg (by rw [hp];decide),List.append_nil,filter_all (d:=default) λi hi=> ?_];rw [List.length_take]at hi;have:=h i ah ah;have e:(l.take k.toNat).getD i default=l.getD i default:=by rw [getD_lt (by rw [List.length_take];omega),getD_lt ah,List.getElem_take]
 rw [e];simpa using this
def BK.keep{P:Cac->Bool}{l L:List Cac}{i j:Int}(h:BK P l L i j)(hj:j<l.length)(hp:P ((L).getD (j).toNat default)=true):BK P l (L.set i.toNat ((L).getD (j).toNat default)) (i+1) (j+1):=by
 obtain⟨i0,ij,jl,len,a,b⟩:=h;have ej:((L).getD (j).toNat default)=((l).getD (j).toNat default):=b j.toNat ah;rw [ej]at hp ⊢;refine⟨ah,ah,ah,by rw [List.length_set];exact len,?_,λk hk=> ?_⟩
 .rw [jo (d:=default) ah hj,if_pos hp,<-a,show(i+1).toNat=i.toNat+1 by omega,List.take_succ_eq_append_getElem (by rw [List.length_set];omega),List.getElem_set_self,List.take_set_of_le (Nat.le_refl _)]
 .rw [<-b k ah,List.getD_eq_getElem?_getD,List.getD_eq_getElem?_getD,List.getElem?_set_ne ah,<-List.getD_eq_getElem?_getD]
def BK.skip{P:Cac->Bool}{l L:List Cac}{i j:Int}(h:BK P l L i j)(hj:j<l.length)(hp:P ((L).getD (j).toNat default)=false):BK P l L i (j+1):=by
 obtain⟨i0,ij,jl,len,a,b⟩:=h;have ej:((L).getD (j).toNat default)=((l).getD (j).toNat default):=b j.toNat ah;rw [ej]at hp;refine⟨ah,ah,ah,len,?_,λk hk=>b k ah⟩;rw [jo (d:=default) ah hj,if_neg (by rw [hp];decide),List.append_nil,a]
def BK.fin{P:Cac->Bool}{l L:List Cac}{i j:Int}(h:BK P l L i j)(hj:¬j<l.length):L.take i.toNat=l.filter P:=by
 rw [h.a,List.take_of_length_le (by have:=h.jl;omega)]
def ac9{L:List Cac}{z:Cac}{i n:Int}(h0:0<=i)(h1:i<=L.length)(hn:(L.length:Int)=n):
  i<=((List.drop (Int.toNat 0) (List.take i.toNat L)++List.replicate (n-i).toNat z++List.drop (i+(n-i)).toNat (List.take n.toNat L)).length:Int)/\
  List.drop (Int.toNat 0) (List.take (0+(i-0)).toNat (List.drop (Int.toNat 0) (List.take i.toNat L)++List.replicate (n-i).toNat z++List.drop (i+(n-i)).toNat (List.take n.toNat L)))=L.take i.toNat:=by
 have e:(List.take i.toNat L).length=i.toNat:=by rw [List.length_take];omega
 rw [show(Int.toNat 0)=0 by rfl,List.drop_zero,List.drop_zero,show(0+(i-0)).toNat=i.toNat by omega,List.append_assoc];refine⟨by rw [List.length_append];omega,?_⟩;rw [List.take_append_of_le_length ah,List.take_of_length_le ah]
theorem amC{p1 f1}(U1:amA p1 f1){p2:List Cac×Cac×Unit->Bool}{f2:List Cac×Cac×Unit->Int×Cac×Unit}(hp2:∀l x,l.length<1000000000->p2 (l,x,())=true)(hf2:∀l x,l.length<1000000000->(f2 (l,x,())).2.1=x/\FC l x.blk.pc (f2 (l,x,())).1)(l:List Cac)(x:Cac)(h:l.length<1000000000):X3.F (p1,f1,p2,f2,()) (l,x,()) (λy=>y=(x,l.filter (neP x.blk.pc),())):=by
 obtain⟨hp1,hf1⟩:=U1;have I:=hf2 l x h;have P2:=hp2 l x h;dsimp only [X3,gm];simp (disch:=omega) only [RR,P2];rw [I.1];have F:=I.2;generalize (f2 (l,x,())).1=k at*;have np:∀e:Cac,neP x.blk.pc e= !decide (e.blk.pc=x.blk.pc):=λ_=>rfl
 refine⟨λg=> ?_,λg=> ?_⟩
 .rw [filter_all (d:=default) λi hi=> ?_];rcases F with⟨_,f⟩ | ⟨f,_⟩
  .have:=f i ah ah;rw [np];simpa using this
  .omega
 .obtain⟨f1,f2',f3,f4⟩:0<=k/\k<l.length/\(((l).getD (k).toNat default)).blk.pc=x.blk.pc/\∀j:Int,0<=j->j<k->(((l).getD (j).toNat default)).blk.pc≠x.blk.pc:=by
   rcases F with⟨f,_⟩ | f
   .exact absurd f g
   .exact f
  have w:IntKind.i64.wrap (k+1)=k+1:=w64 ah ah;rw [w];refine aB (λ(y:Int×Int×List Cac×Cac×Unit)=>y.2.2.2.1=x/\BK (neP x.blk.pc) l y.2.2.1 y.1 y.2.1) (λy=>(l.length-y.2.1).toNat) ⟨rfl,BK.start f1 f2' (by rw [np,decide_eq_true f3];rfl) λj j0 j1=>by rw [np,decide_eq_false (f4 j j0 j1)];rfl⟩ ?_;rintro⟨(i:Int),(j:Int),(L:List Cac),(x':Cac),⟨⟩⟩ hI;dsimp only at hI ⊢;obtain⟨rfl,D⟩:=hI;have i0:=D.i0;have ij:=D.ij;have jl:=D.jl;have len:=D.len;have ll:(L.length:Int)=l.length:=by omega
  by_cases c:j<l.length
  .by_cases d:(((L).getD (j).toNat default)).blk.pc=x'.blk.pc
   .simp (disch:=omega) only [RR,ll,c,hp1,hf1,d];exact⟨ah,ah,D.skip c (by rw [np,decide_eq_true d];rfl),ah⟩
   .simp (disch:=omega) only [RR,ll,c,hp1,hf1,d];exact⟨ah,ah,ah,ah,ah,ah,D.keep c (by rw [np,decide_eq_false d];rfl),ah⟩
  .simp (disch:=omega) only [RR,ll,c];obtain⟨z1,z2⟩:=ac9 (L:=L) (n:=l.length) (z:=Co.mk .cac ([],0,0,[],0,0,0,0,())) i0 ah ll;exact⟨ah,ah,ah,ah,ah,ah,ah,ah,z1,ah,ah,Int.le_trans (show 0+(i-0)<=i by omega) z1,Prod.ext rfl (Prod.ext (z2.trans (D.fin c)) rfl)⟩
theorem apH{p1 f1 p2 f2}(U1:Y99 p1 f1)(U2:apn p2 f2)(e:Cac)(hw:e.words.length<1000)(ho:e.blk.ops.length<1000000):agt.F (p1,f1,p2,f2,()) (e,()) (λy=>y=cE e):=by
 have mE:∀c:Blk,Co.mk .blk (c.pc,c.len,c.ops,c.fin,c.x,c.y,c.k,())=c:=λ_=>rfl
 dsimp only [agt,gm,kK];simp (disch:=omega) only [RR,CAB,mE,U1.hp e.blk ah,U1.hf e.blk ah,U2.hp e.words ah,U2.hf e.words ah]
def amD{p1 f1}(U1:ac3 p1 f1)(l:List Cac)(h:ShK l):X5.F (p1,f1,()) (l,()) (λy=>y=(l,())):=by
 have hlen:=h.1;have mC:=CAM;dsimp only [X5,gm,kK];refine aB (λ(y:List Cac×Int×Int×List Cac×Unit)=>y.1=l/\y.2.1=l.length/\y.2.2.2.1=l.take y.2.2.1.toNat/\0<=y.2.2.1/\y.2.2.1<=l.length) (λy=>(l.length-y.2.2.1).toNat) ⟨rfl,rfl,by simp,by simp,by simp⟩ ?_;rintro⟨(l:List Cac),(m:Int),(i:Int),(o:List Cac),⟨⟩⟩ hI;dsimp only at hI ⊢;obtain⟨rfl,rfl,rfl,h1,h2⟩:=hI;have a:=h.at i.toNat;simp (disch:=omega) only [RR,U1.hp _ a.1 a.2.1,U1.hf _ a.1 a.2.1,mC];refine⟨λh4=>⟨ah,ah,?_,⟨cO h1 h4 rfl,ah,ah⟩,ah⟩,λh4=>by rw [List.take_of_length_le ah]⟩;have:=List.length_take_le' i.toNat l;omega
def aeA(l:List Cac)(n:Int)(hl:l.length<1000000)(h0:0<=n)(h1:n<1000000):X6.F () (l,n,()) (λy=>y=(l.drop (l.length-n.toNat),())):=by
 dsimp only [X6,gm];simp (disch:=omega) only [RR];rw [show((l.length:Int)).toNat=l.length by omega,List.take_of_length_le (Nat.le_refl _)];split
 .rw [show((l.length:Int)-n).toNat=l.length-n.toNat by omega];exact⟨ah,ah,ah,rfl⟩
 .rw [show l.length-n.toNat=0 by omega];exact⟨ah,ah,ah,rfl⟩
structure apI(pp:List Cac×Unit->Bool)(ff:List Cac×Unit->List Cac×Unit):Prop where
 hp:∀l,ShK l->pp (l,())=true
 hf:∀l,ShK l->ff (l,())=(l,())
def apJ{p1 f1}(U1:apI p1 f1){p2:List Cac×Int×Unit->Bool}{f2:List Cac×Int×Unit->List Cac×Unit}(hp2:∀l n,l.length<1000000->0<=n->n<1000000->p2 (l,n,())=true)(hf2:∀l n,l.length<1000000->0<=n->n<1000000->f2 (l,n,())=(l.drop (l.length-n.toNat),())){p3:List Cac×Cac×Unit->Bool}{f3:List Cac×Cac×Unit->Cac×List Cac×Unit}(hp3:∀l x,l.length<1000000000->p3 (l,x,())=true)(hf3:∀l x,l.length<1000000000->f3 (l,x,())=(x,l.filter (neP x.blk.pc),()))(l:List Cac)(e:Cac)(h:ShK l)(h1:e.words.length<1000)(h2:e.blk.ops.length<1000000)(h3:e.blk.pc<=1000000):agu.F (p1,f1,p2,f2,p3,f3,()) (l,e,()) (λy=>y=(jJ l e,())):=by
 have L:=h.1;have sh:=(Iz h h1 h2 h3).1;have fl:=List.length_filter_le (neP e.blk.pc) l;have ee:(l.filter (neP e.blk.pc)++ [e]).length=(l.filter (neP e.blk.pc)).length+1:=by rw [List.length_append,List.length_singleton]
 have F:=hf2 (l.filter (neP e.blk.pc)++ [e]) 4 ah ah ah;rw [ee]at F;have F:f2 (l.filter (neP e.blk.pc)++ [e],4,())=(jJ l e,()):=F;dsimp only [agu,gm];simp (disch:=omega) only [RR,U1.hp l h,U1.hf l h,hp3 l e,hf3 l e,hp2 (l.filter (neP e.blk.pc)++ [e]) 4 ah ah ah,F,U1.hp _ sh,U1.hf _ sh,List.length_cons,List.length_nil];omega
theorem amE{p1 f1 p2 f2}(U1:Y94 p1 f1)(U2:Y32 p2 f2)(a b:List Cac)(ha:ShK a):X9.F (p1,f1,p2,f2,()) (a,b,()) (λy=>y=(bp (a=b),())):=by
 have mE:∀c:Blk,Co.mk .blk (c.pc,c.len,c.ops,c.fin,c.x,c.y,c.k,())=c:=λ_=>rfl
 have hlen:=ha.1;dsimp only [X9,gm,kK];simp (disch:=omega) only [RR,CAB,mE];refine⟨λh=> ?_,λh=> ?_⟩
 .rw [bN (λe=>h (by rw [e]))]
 have hl:a.length=b.length:=by omega
 refine aB (λ(y:List Cac×List Cac×Int×Unit)=>y.1=a/\y.2.1=b/\0<=y.2.2.1/\y.2.2.1<=a.length/\All y.2.2.1 (λi=>a.getD i.toNat default=b.getD i.toNat default)) (λy=>(a.length-y.2.2.1).toNat) ⟨rfl,rfl,by simp,by simp,All.zero⟩ ?_;rintro⟨(l1:List Cac),(l2:List Cac),(i:Int),⟨⟩⟩ hI;dsimp only at hI ⊢;obtain⟨rfl,rfl,h1,h2,h3⟩:=hI;have A:=ha.at i.toNat;simp (disch:=omega) only [RR,CAB,mE,U1.hp (((l1).getD (i).toNat default)).blk (((l2).getD (i).toNat default)).blk ah,U1.hf (((l1).getD (i).toNat default)).blk (((l2).getD (i).toNat default)).blk ah,U2.hp (((l1).getD (i).toNat default)).words (((l2).getD (i).toNat default)).words ah,U2.hf (((l1).getD (i).toNat default)).words (((l2).getD (i).toNat default)).words ah,aV,kQ];refine⟨λh4=>⟨h1,h4,h1,ah,Or.inr h1,Or.inr h4,Or.inr h1,Or.inr ah,λh5=> ?_,λh5=>⟨⟨ah,ah,h3.snoc (Cac.ext h5.1 h5.2)⟩,ah⟩⟩,λh4=> ?_⟩
 .rw [bN];intro e;rw [e]at h5;rcases h5 with h5 | h5<;>exact h5 rfl
 .rw [aP (mX hl (h3.le ah))]
def RX(l:List Cac)(e:Cac):jJ l e=(l.filter (neP e.blk.pc)).drop ((l.filter (neP e.blk.pc)).length+1-4)++ [e]:=by
 unfold jJ;rw [List.drop_append_of_le_length ah]
def Uc(l:List Cac)(e:Cac):FC (jJ l e) e.blk.pc (((jJ l e).length:Int)-1):=by
 rw [RX];generalize hF:(l.filter (neP e.blk.pc)).drop ((l.filter (neP e.blk.pc)).length+1-4)=F;have hn:∀x∈F,x.blk.pc≠e.blk.pc:=λx hx=>by
  rw [<-hF]at hx;have:=(List.mem_filter.1 (List.mem_of_mem_drop hx)).2;simpa [neP]using this
 have hl:(F++ [e]).length=F.length+1:=by rw [List.length_append,List.length_singleton]
 refine Or.inr ⟨ah,ah,?_,λj j0 j1=> ?_⟩
 .rw [hl,show(((F.length+1:Nat):Int)-1).toNat=F.length by omega,getD_lt ah,List.getElem_append_right ah];simp
 .rw [getD_lt ah,List.getElem_append_left ah];exact hn _ (List.getElem_mem _)
structure apK(pp:List Cac×Cac×Unit->Bool)(ff:List Cac×Cac×Unit->List Cac×Unit):Prop where
 hp:∀l e,ShK l->e.words.length<1000->e.blk.ops.length<1000000->e.blk.pc<=1000000->pp (l,e,())=true
 hf:∀l e,ShK l->e.words.length<1000->e.blk.ops.length<1000000->e.blk.pc<=1000000->ff (l,e,())=(jJ l e,())
structure apL(pp:List Cac×List Cac×Unit->Bool)(ff:List Cac×List Cac×Unit->Bool×Unit):Prop where
 hp:∀a b,ShK a->pp (a,b,())=true
 hf:∀a b,ShK a->ff (a,b,())=(bp (a=b),())
structure apM(pp:List Int×Unit->Bool)(ff:List Int×Unit->List Cac×Cac×Unit):Prop where
 hp:∀c,By c->c.length<1000000000->pp (c,())=true
 hf:∀c,By c->c.length<1000000000->PuD (ff (c,()))
theorem amF{p1 f1 p2 f2 p3 f3 p4 f4 p5 f5 p6 f6}(U1:amj p1 f1)(U2:apK p2 f2)(U3:apL p3 f3)(U4:Y47 p4 f4)(U5:amr p5 f5)(U6:apM p6 f6)(c:List Int)(hc:By c):Ya.F (p1,f1,p2,f2,p3,f3,p4,f4,p5,f5,p6,f6,()) (c,()) (λy=>y=(true,())):=by
 obtain⟨hp1,hf1⟩:=U1;obtain⟨hp2,hf2⟩:=U2;obtain⟨hp3,hf3⟩:=U3;obtain⟨hp4,hf4⟩:=U4;obtain⟨hp5,hf5⟩:=U5;obtain⟨hp6,hf6⟩:=U6;dsimp only [Ya,gm];by_cases hl:1048576< (c.length:Int)
 .simp (disch:=omega) only [RR,hl]
 obtain⟨D1,D2,D3,D4⟩:=hf6 c hc ah;have P6:=hp6 c hc ah;generalize hy:f6 (c,())=y at*;obtain⟨l,e,⟨⟩⟩:=y;dsimp only at D1 D2 D3 D4;have P2:=hp2 l e D1 D2 D3 D4;have H2:=hf2 l e D1 D2 D3 D4;have P5:=hp5 l e D1 D2 D3;have H5:=hf5 l e D1 D2 D3;have fd:=Uc l e;have S:=Iz D1 D2 D3 D4;have ke:=RX l e;have kn:(jJ l e).length<=4:=by rw [ke,List.length_append,List.length_drop,List.length_singleton];omega
 have kl:((jJ l e).length:Int)=(l.filter (neP e.blk.pc)).length- ((l.filter (neP e.blk.pc)).length+1-4:Nat)+1:=by rw [ke,List.length_append,List.length_drop,List.length_singleton];omega
 generalize hX:jJ l e=X at*;have P1:=hp1 X e.blk.pc ah;have H1:(f1 (X,e.blk.pc,())).1=(X.length:Int)-1:=FC.one (hf1 X e.blk.pc ah) fd;have P3:=hp3 X X S.1;have H3:=hf3 X X S.1;rw [aP rfl]at H3;have s2:=S.2;have shE:ShK [e]:=⟨by show 1<1000;decide,λx hx=>by rw [List.mem_singleton]at hx;rw [hx];exact⟨D2,D3,D4⟩⟩;have E1:List.drop ((X.length:Int)-1).toNat (List.take ((X.length:Int)-1+((X.length:Int)- ((X.length:Int)-1))).toNat X)=[e]:=by
  rw [List.take_of_length_le ah,ke,List.drop_append,List.drop_eq_nil_of_le (by rw [List.length_append,List.length_singleton]at*;omega),List.nil_append,List.length_append,List.length_singleton];rw [show((((List.drop ((l.filter (neP e.blk.pc)).length+1-4) (l.filter (neP e.blk.pc))).length+1:Nat):Int)-1).toNat- (List.drop ((l.filter (neP e.blk.pc)).length+1-4) (l.filter (neP e.blk.pc))).length=0 by omega,List.drop_zero]
 have Q3:=hp3 [e] [e] shE;have R3:=hf3 [e] [e] shE;rw [aP rfl]at R3;have fl:=List.length_filter_le (neP e.blk.pc) l;have l1:=D1.1;simp (disch:=omega) only [RR,hl,P6,hy,P2,H2,P5,H5,P3,H3,CAB,P1,H1,E1,Q3,R3];refine⟨λg=>by omega,λg=>⟨ah,ah,ah,ah,ah,ah,?_⟩⟩;refine aB (λ(y:List Cac×Int×Int×Cac×List Cac×List Cac×Unit)=>y.1=l/\y.2.1=(X.length:Int)-1/\0<=y.2.2.1/\y.2.2.1<=l.length/\y.2.2.2.1=e/\y.2.2.2.2.1=X/\y.2.2.2.2.2.1=(l.take y.2.2.1.toNat).filter (neP e.blk.pc)) (λy=>(l.length-y.2.2.1).toNat) ⟨rfl,rfl,by simp,by simp,rfl,rfl,by simp⟩ ?_;rintro⟨(l':List Cac),(k:Int),(i:Int),(e':Cac),(X':List Cac),(o:List Cac),⟨⟩⟩ hI;dsimp only at hI ⊢;obtain⟨rfl,rfl,i1,i2,rfl,rfl,rfl⟩:=hI;have ft:=lY (neP e'.blk.pc) l' i.toNat;have lc:∀x:Cac,(([x]:List Cac).length:Int)=1:=λ_=>rfl
 by_cases c:i<l'.length
 .have fs:=jo (d:=default) (P:=neP e'.blk.pc) i1 c;by_cases d:(((l').getD (i).toNat default)).blk.pc=e'.blk.pc
  .rw [if_neg (by simp [neP,d, -List.getD_eq_getElem?_getD])]at fs;simp (disch:=omega) only [RR,CAB,c,d,lc];exact⟨i1,⟨ah,ah,by rw [fs,List.append_nil]⟩,ah⟩
  .rw [if_pos (by simp [neP,d, -List.getD_eq_getElem?_getD])]at fs;simp (disch:=omega) only [RR,CAB,c,d,lc];exact⟨i1,i1,ah,⟨ah,ah,fs.symm⟩,ah⟩
 .simp (disch:=omega) only [RR,CAB,c,lc];rw [List.take_of_length_le (show l'.length<=i.toNat by omega)];have shF:ShK (l'.filter (neP e'.blk.pc)):=IB D1 _;generalize hF:l'.filter (neP e'.blk.pc)=F at*;have shG:ShK (F.drop (F.length+1-4)):=shF.sub (by rw [List.length_drop];have:=shF.1;omega) λx hx=>List.mem_of_mem_drop hx
  have gl:(F.drop (F.length+1-4)).length=F.length- (F.length+1-4):=List.length_drop;have xl:X'.length=(F.drop (F.length+1-4)).length+1:=by rw [ke,List.length_append,List.length_singleton]
  have eA:List.drop (Int.toNat 0) (List.take (0+((X'.length:Int)-1-0)).toNat X')=F.drop (F.length+1-4):=by
   rw [show(0+((X'.length:Int)-1-0)).toNat=(F.drop (F.length+1-4)).length by omega,show Int.toNat 0=0 by rfl,List.drop_zero]
   conv=>lhs;rw [ke]
   rw [List.take_append_of_le_length (Nat.le_refl _),List.take_length]
  have eB:List.drop ((F.length:Int)- ((X'.length:Int)-1)).toNat (List.take ((F.length:Int)- ((X'.length:Int)-1)+((F.length:Int)- ((F.length:Int)- ((X'.length:Int)-1)))).toNat F)=F.drop (F.length+1-4):=by
   rw [List.take_of_length_le ah,show((F.length:Int)- ((X'.length:Int)-1)).toNat=F.length+1-4 by omega]
  rw [eA,eB,hf3 _ _ shG,aP rfl,hf4];refine⟨ah,ah,ah,ah,ah,ah,ah,ah,ah,ah,ah,ah,hp3 _ _ shG,?_⟩;simp (disch:=omega) only [RR,hp4];rfl
structure aqC(pp:Cac×List Int×Unit->Bool)(ff:Cac×List Int×Unit->Bool×List Int×Unit):Prop where
 hp:∀e mem,e.words.length<1000->mem.length<1000000000->e.blk.pc<=1000000->pp (e,mem,())=true
 hf:∀e mem,e.words.length<1000->mem.length<1000000000->e.blk.pc<=1000000->ff (e,mem,())=(!qp mem e,mem,())
structure EoD(b:List Int)(p:Int)(y:Eng×List Int×Int×Unit):Prop where
 m:MSh y.1.au
 o:y.1.au.outs.length<=2000
 k:ShK y.1.cache
 kl:y.1.cache.length<=10
 c:ShC y.1.aZ
 cl:y.1.aZ.length<=10
 b:y.2.1=b
 lo:p<=y.2.2.1
 hi:y.2.2.1<=p+40000000
def ShK.set{l:List Cac}(h:ShK l)(i:Nat){x:Cac}(h1:x.words.length<1000)(h2:x.blk.ops.length<1000000)(h3:x.blk.pc<=1000000):ShK (l.set i x):=by
 refine⟨by rw [List.length_set];exact h.1,λc hc=> ?_⟩;rcases List.mem_or_eq_of_mem_set hc with g | rfl
 .exact h.2 c g
 .exact⟨h1,h2,h3⟩
end Go.TX.F
namespace Go.TX
open Go Go.AE
def enters_of{P:Program}{f:FuncId}{fn:Func}{c:Code}(hf:P.funcs[f]? =some fn)(hname:(fn.name== "runtime.NumGoroutine")=false)(hb:fn.body=some c):Enters P f:=by
 intro args w;have h1:fn.name≠ "runtime.NumGoroutine" :=by simpa using hname
 simp [callFunc,hf,h1,hb,mark]
def RY(P:Program):Nat->List Field->Bool
 | _,[]=>true
 | k,f::fs=> !(f.name== "_")&&f.offset==k&& (match P.underlying f.type with | some (.int _)=>true | _=>false)&&RY P (k+1) fs
def RZ{P:Program}(w:World)(d:Nat)(xs ys:List Int)(hl:xs.length=ys.length):∀(fs:List Field) (k:Nat),RY P k fs=true->k+fs.length=xs.length->
  (Op.eqFields (d+1) (xs.map (Value.int .i64)).toArray (ys.map (Value.int .i64)).toArray fs).run P w= .ok (xs.drop k==ys.drop k) w
 | [],k,_,h2=>by
  rw [List.drop_eq_nil_of_le (show xs.length<=k by simp only [List.length_nil]at h2;omega),List.drop_eq_nil_of_le (show ys.length<=k by simp only [List.length_nil]at h2;omega)];simp [Op.eqFields]
 | f::fs,k,h1,h2=>by
  simp only [List.length_cons]at h2;simp only [RY,Bool.and_eq_true,Bool.not_eq_true',beq_eq_false_iff_ne,beq_iff_eq]at h1;obtain⟨⟨⟨n1,n2⟩,n3⟩,n4⟩:=h1;have hk:k<xs.length:=by omega
  have hk':k<ys.length:=by omega
  obtain⟨kd,hu⟩:∃kd,P.underlying f.type=some (.int kd):=by
   cases hu:P.underlying f.type with
   | none=>rw [hu]at n3;cases n3
   | some z=>cases z<;>(first | exact⟨_,rfl⟩ | (rw [hu]at n3;cases n3))
  have pk:P.plainKey f.type=true:=by unfold Program.plainKey;rw [hu]
  have p1:=run_part_plain w pk (xs:=(xs.map (Value.int .i64)).toArray) (off:=f.offset) (v:= .int .i64 xs[k]) (by rw [n2];simp [hk]);have p2:=run_part_plain w pk (xs:=(ys.map (Value.int .i64)).toArray) (off:=f.offset) (v:= .int .i64 ys[k]) (by rw [n2];simp [hk']);have ih:=RZ w d xs ys hl fs (k+1) n4 ah;simp only [Op.eqFields,if_pos n1,Sem.run_bind,p1,p2,Result.andThen_ok,run_equalIn_int w d f.type .i64 kd _ _ hu];have e:(xs.drop k==ys.drop k)=((xs[k]==ys[k])&& (xs.drop (k+1)==ys.drop (k+1))):=by rw [List.drop_eq_getElem_cons hk,List.drop_eq_getElem_cons hk'];rfl
  rw [e];by_cases c:(xs[k]==ys[k])=true
  .rw [c];simp only [Bool.not_true,Bool.false_eq_true,if_false,ih,Bool.true_and]
  .have c2:(xs[k]==ys[k])=false:=by simpa using c
   rw [c2];simp only [Bool.not_false,if_true,Sem.run_pure,Bool.false_and]
def ahY{P:Program}{t:TypeId}{n:Nat}(hu:P.underlying t=some (.struct (P.fieldsOf t)))(hs:P.stoodInHeld t=false)(hg:P.eqGuardType P.depth t=false)(hf:RY P 0 (P.fieldsOf t).toList=true)(hn:(P.fieldsOf t).size=n)(xs ys:List Int)(hx:xs.length=n)(hy:ys.length=n)(w:World):
  (Op.equal t (.agg (xs.map (Value.int .i64)).toArray) (.agg (ys.map (Value.int .i64)).toArray)).run P w= .ok (xs==ys) w/\
  (eqGuard .eql t (.tmp 0) (.tmp 0) (.agg (xs.map (Value.int .i64)).toArray) (.agg (ys.map (Value.int .i64)).toArray)).run P w= .ok () w:=by
 refine⟨?_,run_eqGuard_agg w _ _ _ _ _ _ hg⟩;show(Op.equalIn (9999+1) t _ _).run P w=_;rw [run_equalIn_struct w 9999 t _ _ hu hs,RZ w 9998 xs ys ah _ 0 hf (by rw [Array.length_toList];omega)];rfl
abbrev apN:Sig:={args:=[.c (.rows true .u8)],objs:=[],res:=[.c .bool],dP:=[]}
def entry(W:World):Ctx:={K:=λ_ b=>b<W.heap.size,ν:=λ_=>none,n:=0}
def Ph(W:World):bI (entry W) W []:=
 ⟨λl o h=>(by cases h),λl o l' o' b h=>(by cases h),λf b ⟨l,o,h,_⟩=>(by cases h),λf b h=>h,λb h=>h⟩
def KH{W W':World}{c':Ctx}{h':Heap}(g:Grow (entry W) W [] c' W' h'):RowKit.Below W.heap.size W W':=
 ⟨g.os,g.tape,g.output,g.size,λk hk=>g.kept k hk λ⟨l,o,h,_⟩=>by cases h⟩
def ada{c:Ctx}{w:World}{v:Value}{r:PV}{N:NM}{b:Bool}(h1:bG c w v r)(h2:PVR N r (.c (.d true (.bool b)))):v= .bool b:=by
 cases h2 with
 | one h=>
  cases h with
  | c h=>
   cases h with
   | d h3 _=>
    subst h3;cases h1 with
    | c _ _ h4=>cases h4 with
     | d _ _ _ h5=>cases h5;rfl
  | agg h=>cases h
def apO{E:Tab}{f:FuncId}{c:Ct aI apN}(hc:kD E f (jB c)){xs:List Int}{W:World}{v:Value}(hv:dG (λb=>b<W.heap.size) W v (.rows 1 (aO .u8 xs)))
  (hg:oO E (entry W) W) (hp:c.pre (xs,())=true):Go.Calls E.P f #[v] W λe W'=>e= .returned (.bool (c.fn (xs,())).1)/\RowKit.Below W.heap.size W W':=by
 refine(hc.calls [.c (.d true (.rows 1 (aO .u8 xs)))] [] 0 (λr _ _=>PVR (nmh []) r (.c (.d true (.bool (c.fn (xs,())).1)))) ?_ (entry W) W [v] rfl (.cons (.c _ _ (.d true _ _ hv)) .nil) (Ph W) hg).mono ?_
 .refine⟨0,[.c (.d true (.rows .u8 xs))],[],.cons (.one (.c (.d rfl λ_=> .inl rfl))) .nil,⟨λl o h=>(by cases h),λ_ _=>rfl⟩,rfl,_,rfl,?_,_,_,rfl,?_⟩
  .intro b hb;rcases List.mem_append.1 hb with h | h
   .cases h
   .rw [List.mem_singleton]at h;rw [h];exact hp
  .intro r _ _ h _ _ _;exact h
 .rintro e W' he;cases e with
  | returned u=>
   obtain⟨c',r,h',j,g,_,_,h1,h2⟩:=he;exact⟨by rw [ada h1 h2],KH g⟩
  | outgrown=>exact he.elim
  | panicked _=>exact he.elim
open Go.RowKit Go.ChangeShapes Go.WideShapes Go.ChangeAt in
def ZO{H:Type}{enc:TypeId×Value->H}{P:Program}{t e:TypeId}(ht:P.underlying t=some (.slice e))(he:P.underlying e=some (.int .u8))(hc:P.cellsOf e=1){W:World}{base:Nat}{v:Value}{d:DataW H}{p:List MemPlace}
  (hval:Value.okWide P W .any base t v) (h:DataW.Trod enc P W 0 (λ_=>true) true t v d p) (hlt:∀x∈p,x.block<W.heap.size):
  ∃xs:List Int,dG (λb=>b<W.heap.size) W v (.rows 1 (aO .u8 xs))/\∀z∈xs,0<=z/\z<=255:=by
 obtain⟨a0,len,cap,rfl⟩:=okWide_slice ht hval;obtain⟨fuel,hf⟩:=h;rcases open_ints ht he hc hf with⟨hcs,hx⟩ | ⟨a,len',cap',zs,hcs,_,hl,hm,hz,hx,hcell,hwz⟩
 .simp [Value.cells]at hcs;obtain⟨rfl,rfl,rfl⟩:=hcs;exact⟨[],.none _ _ _,λ_ h=>by cases h⟩
 .simp [Value.cells]at hcs;obtain⟨rfl,rfl,rfl⟩:=hcs;simp only [Prod.mk.injEq]at hx;obtain⟨rfl,rfl⟩:=hx;simp only [if_true]at hz;have rng:∀z∈zs,0<=z/\z<=255:=λz hz=>by
   obtain⟨i,hi,rfl⟩:=List.getElem_of_mem hz;have:=range_u8 hwz i
   rwa [List.getElem?_eq_getElem hi]at this
  refine⟨zs.take len,?_,λz h=>rng z (List.mem_of_mem_take h)⟩;by_cases h0:len=0
  .subst h0;exact .none _ _ _
  .obtain⟨b,off,spot⟩:=a;have hspot:spot=none:=by simpa [Addr.add]using World.cell?_spot (hcell 0 ah)
   subst hspot;have hbW:b<W.heap.size:=hlt (.cell b off) (MemPlace.mem_row.2 ⟨0,ah,by simp⟩);have hlen:(aO .u8 (zs.take len)).length=len:=by simp only [aO,List.length_map,List.length_take];omega
   have hget:∀i,i<len->(aO .u8 (zs.take len)).getD i []=[.int .u8 (zs.getD i 0)]:=λi hi=>by
    simp only [aO,List.getD,List.getElem?_map,List.getElem?_take_of_lt hi,List.getElem?_eq_getElem (show i<zs.length by omega)];rfl
   refine .rows b off cap 1 len _ (λi j=> .int .u8 (zs.getD i 0)) hbW hlen.symm hl (λi j hi hj=> ?_) (λi hi=> ?_) (λi j hi hj=> ?_)
   .rw [hlen]at hi;have:=hcell i ah;rw [add_plain]at this;rw [show off+i*1+j=off+i by omega];exact this
   .rw [hlen]at hi;rw [hget i hi];rfl
   .rw [hlen]at hi;have hj0:j=0:=by omega
    subst hj0;unfold gd;rw [hget i hi];exact .int _ _
end Go.TX
namespace Go.TX.Seat
open Go Go.AE Go.TX Go.TX.F Go.Proofs
set_option maxRecDepth 100000
theorem apP:∀t n,E.ieq t=some n->∀(xs ys:List Int),xs.length=n->ys.length=n->∀w,
  (Op.equal t (.agg (xs.map (Value.int .i64)).toArray) (.agg (ys.map (Value.int .i64)).toArray)).run E.P w= .ok (xs==ys) w/\
  (eqGuard .eql t (.tmp 0) (.tmp 0) (.agg (xs.map (Value.int .i64)).toArray) (.agg (ys.map (Value.int .i64)).toArray)).run E.P w= .ok () w:=by
 intro t n h;obtain⟨c,hc,rfl⟩:∃c,ieq t=some c/\c.size=n:=by
  have h':(ieq t).map (λc=>c.size)=some n:=h;cases hi:ieq t with
  | none=>rw [hi]at h';cases h'
  | some c=>rw [hi]at h';cases h';exact⟨c,rfl,rfl⟩
 unfold ieq at hc;split at hc
 all_goals first | (cases hc;exact ahY (by kernel_rfl) (by kernel_rfl) (by kernel_rfl) (by kernel_rfl) (by kernel_rfl)) | cases hc
theorem hE:aH E:=⟨ao4,apP⟩
theorem apQ:∀t c,X.ieq t=some c->(c= .ins/\E.ieq t=some 4)\/(c= .iop/\E.ieq t=some 5):=by
 intro t c h;have h:ieq t=some c:=h;have e:E.ieq t=(ieq t).map λc=>c.size:=rfl
 rw [e,h];unfold ieq at h;split at h
 all_goals first | (cases h;first | exact Or.inl ⟨rfl,rfl⟩ | exact Or.inr ⟨rfl,rfl⟩) | cases h
theorem xok:XOK X E:=⟨rfl,λg c h=>(by
    first
    | (cases h;done)
    | (dsimp only [X] at h
       split at h
       · rename_i e;cases h;unfold E;dsimp only;rw [if_pos e];rfl
       · cases h)),apQ⟩
theorem hm:E.P.follows .mixedOrders=true:=by kernel_rfl
structure HL(l:List (Nat×Sig)) where
 C:Cs (std 0) l
 h:∀p∈csl (std 0) l C,kD E p.1 (jB p.2.2)
abbrev hn : HL [] := ⟨(), λ_ h => by cases h⟩
abbrev hk{f : FuncId}{s : Sig}{c : Ct aI s}{l : List (Nat × Sig)}(h : kD E f (jB c))(r : HL l) : HL ((f, s) :: l) := ⟨(c.pre, c.fn, r.C), λp hp => by
 rcases List.mem_cons.1 hp with rfl | hp
 .exact h
 .exact r.h p hp⟩
structure Mt{lk:aF}{s:Sig}{an:Ann}{fn:Func}{l:List (Nat×Sig)}(f:FuncId)(g:Gt lk X E an s fn l) where
 H:HL l
 k:Fn E f (g.F H.C) (cn (g.F H.C))
section
variable {lk:aF} {s:Sig} {an:Ann} {fn:Func} {l:List (Nat×Sig)} {f:FuncId}
@[irreducible] noncomputable def Mt.c {g : Gt lk X E an s fn l} (t : Mt f g) : Ct aI s := cn (g.F t.H.C)
theorem Mt.cs{g:Gt lk X E an s fn l}(t:Mt f g){x:gJ s.inp}{Q:gJ s.out->Prop}(h:g.F t.H.C x Q):t.c.pre x=true/\Q (t.c.fn x):=by unfold Mt.c;exact t.k.cs h
theorem Mt.ok{g:Gt lk X E an s fn l}(t:Mt f g):kD E f (jB t.c):=by unfold Mt.c;exact t.k.ok
@[reducible] noncomputable def hc {r : List (Nat × Sig)} {g : Gt lk X E an s fn l} (t : Mt f g) (h : HL r) : HL ((f, s) :: r) := hk t.ok h
theorem mkF(hf:E.P.funcs[f]? =some fn)(g:Gt lk X E an s fn l)(H:HL l)
 (hb:fn.body.isSome=true:=by rfl) (hn:(fn.name== "runtime.NumGoroutine")=false:=by kernel_rfl):Fn E f (g.F H.C) (cn (g.F H.C)):=ao1 hE xok hm hf hb (λ_=>enters_of hf hn) H.h (g.h H.C)
noncomputable def mk (g:Gt lk X E an s fn l) (hf:E.P.funcs[f]? =some fn) (H:HL l)
 (hb:fn.body.isSome=true:=by rfl) (hn:(fn.name== "runtime.NumGoroutine")=false:=by kernel_rfl):Mt f g:=⟨H,mkF hf g H hb hn⟩
end
end Go.TX.Seat
namespace Go.TX.F
open Go Go.AE Go.TX Go.TX.Seat Go.Proofs
set_option maxRecDepth 100000
set_option maxHeartbeats 4000000
noncomputable def Pj:=mk ME Tryz.func21 hn
def ahZ:=λb hb hl=>(Pj.cs (Yw b hb hl:)).1
def ah0:=λb hb hl=>(Pj.cs (Yw b hb hl:)).2
noncomputable def gX:=mk MF Tryz.func23 hn
def iN:=λn b p hb h1 h2=>(gX.cs (Yx n b p hb h1 h2:)).1
def iO:=λn b p hb h1 h2=>(gX.cs (Yx n b p hb h1 h2:)).2
noncomputable def y7:=mk Wu Tryz.func58 hn
def En:=λa=>(y7.cs (aed a:)).1
def Eo:=λa=>(y7.cs (aed a:)).2
noncomputable def Pm:=mk MG Tryz.func57 (hc y7 hn)
def sD:=λl h=>Pm.cs (ahu ⟨En,Eo⟩ l h:)
def ZP:=λl h=>(sD l h).1
def ZQ:=λl h=>(sD l h).2
noncomputable def jH:=mk MH Tryz.func59 hn
def ku:=λa b c=>(jH.cs (Yj a b c:)).1
def kC:=λa b c=>(jH.cs (Yj a b c:)).2
noncomputable def F3:=mk Wv Tryz.func42 (hc y7 (hc jH (hc Pm hn)))
def y8:=λm h=>F3.cs (alT ⟨En,Eo⟩ ⟨ku,kC⟩ ⟨ZP,ZQ⟩ m h:)
def KJ:=λm h=>(y8 m h).1
def KL:=λm h=>(y8 m h).2
noncomputable def Ay:=mk MI Tryz.func91 hn
def IC:=λm h=>(Ay.cs (Zn m h:)).1
def IE:=λm h=>(Ay.cs (Zn m h:)).2
noncomputable def aeB:=mk Ww Tryz.func62 (hc F3 (hc Ay hn))
def vL:=λm h=>aeB.cs (ame ⟨KJ,KL⟩ ⟨IC,IE⟩ m h:)
def amG:=λm h=>(vL m h).1
def amH:=λm h=>(vL m h).2
noncomputable def aeC:=mk Wx Tryz.func63 (hc Pm hn)
def vM:=λw i hw hi=>aeC.cs (alZ ⟨ZP,ZQ⟩ w i hw hi:)
def amI:=λw i hw hi=>(vM w i hw hi).1
def amJ:=λw i hw hi=>(vM w i hw hi).2
noncomputable def Pn:=mk MK Tryz.func27 (hc gX hn)
def oM:=λn b p hb h1 h2=>Pn.cs (agV ⟨iN,iO⟩ n b p hb h1 h2:)
def ZR:=λn b p hb h1 h2=>(oM n b p hb h1 h2).1
def ZT:=λn b p hb h1 h2=>(oM n b p hb h1 h2).2
noncomputable def Po:=mk ML Tryz.func104 hn
def ah1:=λi=>(Po.cs (sj i:)).1
def ah2:=λi=>(Po.cs (sj i:)).2
noncomputable def KM:=mk Wy Tryz.func71 (hc jH (hc Po hn))
def y9:=λi=>KM.cs (EH ⟨ku,kC⟩ ah1 ah2 i:)
def R4:=λi=>(y9 i).1
def R5:=λi=>(y9 i).2
noncomputable def ZU:=mk Wz Tryz.func48 (hc KM hn)
def vN:=λi=>ZU.cs (alW ⟨R4,R5⟩ i:)
def aeD:=λi=>(vN i).1
def aeE:=λi=>(vN i).2
noncomputable def R6:=mk WA Tryz.func29 (hc ZU hn)
def qw:=λl hl=>R6.cs (alY ⟨aeD,aeE⟩ l hl:)
def ZV:=λl hl=>(qw l hl).1
def ZW:=λl hl=>(qw l hl).2
noncomputable def Pp:=mk MN Tryz.func37 (hc gX hn)
def sF:=λb p hb h1 h2=>Pp.cs (agW ⟨iN,iO⟩ b p hb h1 h2:)
def ZX:=λb p hb h1 h2=>(sF b p hb h1 h2).1
def ZY:=λb p hb h1 h2=>(sF b p hb h1 h2).2
noncomputable def Pq:=mk MO Tryz.func69 (hc gX hn)
def vO:=λb p hb h1 h2=>Pq.cs (ag9 ⟨iN,iO⟩ b p hb h1 h2:)
def Z0:=λb p hb h1 h2=>(vO b p hb h1 h2).1
def Z4:=λb p hb h1 h2=>(vO b p hb h1 h2).2
noncomputable def KN:=mk WB Tryz.func72 hn
def Z5:=λa=>(KN.cs (qo a:)).1
def Z6:=λa=>(KN.cs (qo a:)).2
noncomputable def Pv:=mk MQ Tryz.func70 (hc KN (hc KM hn))
def sG:=λi=>Pv.cs (BJ ⟨Z5,Z6⟩ ⟨R4,R5⟩ i:)
def Z7:=λi=>(sG i).1
def ah3:=λi=>(sG i).2
noncomputable def IG:=mk MR Tryz.func47 (hc Pq (hc gX (hc Pv hn)))
def sH:=λb p hb h1 h2=>IG.cs (aha ⟨Z0,Z4⟩ ⟨iN,iO⟩ ⟨Z7⟩ b p hb h1 h2:)
def Pw:=λb p hb h1 h2=>(sH b p hb h1 h2).1
def Px:=λb p hb h1 h2=>(sH b p hb h1 h2).2
noncomputable def Z8:=mk MU Tryz.func92 (hc IG (hc gX hn))
def sI:=λt b p hb t0 h1 h2=>Z8.cs (ahK ⟨Pw,Px⟩ ⟨iN,iO⟩ t b p hb t0 h1 h2:)
def ah4:=λt b p hb t0 h1 h2=>(sI t b p hb t0 h1 h2).1
def ah5:=λt b p hb t0 h1 h2=>(sI t b p hb t0 h1 h2).2
noncomputable def Z9:=mk MV Tryz.func93 (hc gX hn)
def sJ:=λt b p hb t0 h1 h2=>Z9.cs (ahJ ⟨iN,iO⟩ t b p hb t0 h1 h2:)
def ah6:=λt b p hb t0 h1 h2=>(sJ t b p hb t0 h1 h2).1
def ah7:=λt b p hb t0 h1 h2=>(sJ t b p hb t0 h1 h2).2
noncomputable def aac:=mk MW Tryz.func64 (hc R6 (hc ZU (hc Z8 (hc IG (hc Pq (hc Z9 (hc Pn (hc gX (hc Pp hn)))))))))
def qx:=λb p hb h1 h2=>aac.cs (ahM ⟨ZV,ZW⟩ ⟨aeD,aeE⟩ ah4 ah5 ⟨Pw,Px⟩ ⟨Z0,Z4⟩ ah6 ah7 ⟨ZR,ZT⟩ ⟨iN,iO⟩ ⟨ZX,ZY⟩ b p hb h1 h2:)
def ah8:=λb p hb h1 h2=>(qx b p hb h1 h2).1
def ah9:=λb p hb h1 h2=>(qx b p hb h1 h2).2
noncomputable def aad:=mk MX Tryz.func65 (hc Pp hn)
def qy:=λn b p hb hn h1 h2=>aad.cs (agX ⟨ZX,ZY⟩ n b p hb hn h1 h2:)
def aia:=λn b p hb hn h1 h2=>(qy n b p hb hn h1 h2).1
def aib:=λn b p hb hn h1 h2=>(qy n b p hb hn h1 h2).2
noncomputable def aae:=mk MZ Tryz.func66 (hc gX hn)
def sK:=λb p hb h1 h2=>aae.cs (ahI ⟨iN,iO⟩ b p hb h1 h2:)
def aic:=λb p hb h1 h2=>(sK b p hb h1 h2).1
def aie:=λb p hb h1 h2=>(sK b p hb h1 h2).2
noncomputable def sM:=mk M0 Tryz.func52 hn
def Az:=λb hb=>(sM.cs (YI b hb:)).1
def AA:=λb hb=>(sM.cs (YI b hb:)).2
noncomputable def R7:=mk WE Tryz.func36 (hc sM hn)
def qz:=λe hw ho=>R7.cs (al6 ⟨Az,AA⟩ e hw ho:)
def aaf:=λe hw ho=>(qz e hw ho).1
def aag:=λe hw ho=>(qz e hw ho).2
noncomputable def R8:=mk WG Tryz.func40 hn
def aeF:=λw mem pc hw hm p0 p1=>(R8.cs (aex w mem pc hw hm p0 p1:)).1
def aeG:=λw mem pc hw hm p0 p1=>(R8.cs (aex w mem pc hw hm p0 p1:)).2
noncomputable def aah:=mk WH Tryz.func17 (hc R7 (hc R8 hn))
def sN:=λl mem h hm=>aah.cs (al8 ⟨aaf,aag⟩ ⟨aeF,aeG⟩ l mem h hm:)
def aeH:=λl mem h hm=>(sN l mem h hm).1
def aeI:=λl mem h hm=>(sN l mem h hm).2
noncomputable def aai:=mk WI Tryz.func49 (hc KN (hc KM (hc jH (hc Pv hn))))
def za:=λpc l hl=>aai.cs (EJ ⟨Z5,Z6⟩ ⟨R4,R5⟩ ⟨ku,kC⟩ Z7 ah3 pc l hl:)
def aeJ:=λpc l hl=>(za pc l hl).1
def aeK:=λpc l hl=>(za pc l hl).2
noncomputable def xM:=mk M4 Tryz.func73 hn
def xO:=λa1 a2 a3 a4 a5 a6 o ops h=>(xM.cs (vI a1 a2 a3 a4 a5 a6 o ops h:)).1
def xP:=λa1 a2 a3 a4 a5 a6 o ops h=>(xM.cs (vI a1 a2 a3 a4 a5 a6 o ops h:)).2
noncomputable def II:=mk M5 Tryz.func74 (hc xM hn)
def aaj:=λa1 a2 a3 a4 a5 a6 k x ops h=>(II.cs (vK ⟨xO,xP⟩ a1 a2 a3 a4 a5 a6 k x ops h:)).1
def aak:=λa1 a2 a3 a4 a5 a6 k x ops h=>(II.cs (vK ⟨xO,xP⟩ a1 a2 a3 a4 a5 a6 k x ops h:)).2
noncomputable def AB:=mk M6 Tryz.func75 (hc xM hn)
def IJ:=λa1 a2 a3 a4 a5 a6 k ops h=>(AB.cs (vJ ⟨xO,xP⟩ a1 a2 a3 a4 a5 a6 k ops h:)).1
def IK:=λa1 a2 a3 a4 a5 a6 k ops h=>(AB.cs (vJ ⟨xO,xP⟩ a1 a2 a3 a4 a5 a6 k ops h:)).2
noncomputable def Py:=mk M7 Tryz.func76 (hc AB (hc xM hn))
def qA:=λa1 a2 a3 a4 a5 a6 k a o ops h=>Py.cs (Au ⟨IJ,IK⟩ ⟨xO,xP⟩ a1 a2 a3 a4 a5 a6 k a o ops h:)
def aal:=λa1 a2 a3 a4 a5 a6 k a o ops h=>(qA a1 a2 a3 a4 a5 a6 k a o ops h).1
def aam:=λa1 a2 a3 a4 a5 a6 k a o ops h=>(qA a1 a2 a3 a4 a5 a6 k a o ops h).2
noncomputable def Pz:=mk M8 Tryz.func77 hn
def aif:=λk k0 k1=>(Pz.cs (qm k k0 k1:)).1
def aii:=λk k0 k1=>(Pz.cs (qm k k0 k1:)).2
noncomputable def aan:=mk M9 Tryz.func78 (hc AB (hc xM (hc Py (hc II hn))))
def sO:=λa1 a2 a3 a4 a5 a6 i n ops hi h=>aan.cs (BI ⟨IJ,IK⟩ ⟨xO,xP⟩ ⟨aal,aam⟩ ⟨aaj,aak⟩ a1 a2 a3 a4 a5 a6 i n ops hi h:)
def aij:=λa1 a2 a3 a4 a5 a6 i n ops hi h=>(sO a1 a2 a3 a4 a5 a6 i n ops hi h).1
def aik:=λa1 a2 a3 a4 a5 a6 i n ops hi h=>(sO a1 a2 a3 a4 a5 a6 i n ops hi h).2
set_option maxRecDepth 100000
set_option maxHeartbeats 4000000
noncomputable def aao:=mk Na Tryz.func79 (hc AB hn)
def vP:=λB i hi h=>aao.cs (Ei ⟨IJ,IK⟩ B i hi h:)
def ail:=λB i hi h=>(vP B i hi h).1
def ain:=λB i hi h=>(vP B i hi h).2
noncomputable def aap:=mk Nb Tryz.func50 (hc AB (hc aao (hc xM (hc aan (hc Py (hc II (hc Pz hn)))))))
def ze:=λB i n hi h0 h=>aap.cs (EI ⟨IJ,IK⟩ ail ain ⟨xO,xP⟩ aij aik ⟨aal,aam⟩ ⟨aaj,aak⟩ aif aii B i n hi h0 h:)
def aio:=λB i n hi h0 h=>(ze B i n hi h0 h).1
def aip:=λB i n hi h0 h=>(ze B i n hi h0 h).2
noncomputable def F4:=mk WJ Tryz.func30 (hc aai (hc aap hn))
def qB:=λpc l hl=>F4.cs (Av ⟨aeJ,aeK⟩ aio aip pc l hl:)
def KO:=λpc l hl=>(qB pc l hl).1
def KQ:=λpc l hl=>(qB pc l hl).2
noncomputable def aaq:=mk Nc Tryz.func166 (hc jH hn)
def sP:=λk=>aaq.cs (ag1 ⟨ku,kC⟩ k:)
def aiq:=λk=>(sP k).1
def air:=λk=>(sP k).2
noncomputable def PD:=mk Ng Tryz.func144 (hc aaq hn)
def zf:=λops x n h1=>PD.cs (ag2 aiq air ops x n h1:)
def aar:=λops x n h1=>(zf ops x n h1).1
def aas:=λops x n h1=>(zf ops x n h1).2
noncomputable def aat:=mk Nh Tryz.func111 (hc y7 (hc jH (hc PD hn)))
def Bp:=λops i len h0 h1 h3=>aat.cs (ag3 ⟨En,Eo⟩ ⟨ku,kC⟩ ⟨aar,aas⟩ ops i len h0 h1 h3:)
def ais:=λops i len h0 h1 h3=>(Bp ops i len h0 h1 h3).1
def ait:=λops i len h0 h1 h3=>(Bp ops i len h0 h1 h3).2
noncomputable def aau:=mk Ni Tryz.func112 (hc y7 (hc PD hn))
def zh:=λb=>aau.cs (ag6 ⟨En,Eo⟩ ⟨aar,aas⟩ b:)
def aiu:=λb=>(zh b).1
def aiv:=λb=>(zh b).2
noncomputable def sQ:=mk WK Tryz.func86 (hc jH (hc aau (hc aat hn)))
def Bq:=λb h2=>sQ.cs (alj ⟨ku,kC⟩ aiu aiv ais ait b h2:)
def vQ:=λb h2=>(Bq b h2).1
def vR:=λb h2=>(Bq b h2).2
noncomputable def R9:=mk WL Tryz.func87 hn
def aeL:=λa b ha=>(R9.cs (aeu a b ha:)).1
def aeM:=λa b ha=>(R9.cs (aeu a b ha:)).2
noncomputable def KR:=mk WM Tryz.func113 (hc jH hn)
def sS:=λa=>KR.cs (ak3 ⟨ku,kC⟩ a:)
def Sb:=λa=>(sS a).1
def Sc:=λa=>(sS a).2
noncomputable def aav:=mk WO Tryz.func88 (hc KR hn)
def vS:=aav.cs (ale ⟨Sb,Sc⟩:)
def aeN:=(vS).1
def aeO:=(vS).2
noncomputable def Ep:=mk Nj Tryz.func155 hn
def PE:=λa b ha=>(Ep.cs (Yl a b ha:)).1
def PG:=λa b ha=>(Ep.cs (Yl a b ha:)).2
noncomputable def aaw:=mk Nk Tryz.func173 (hc jH hn)
def vU:=λm hm=>aaw.cs (agI ⟨ku,kC⟩ m hm:)
def aiw:=λm hm=>(vU m hm).1
def aix:=λm hm=>(vU m hm).2
noncomputable def Er:=mk WQ Tryz.func151 (hc aaw (hc Ep hn))
def zi:=λa ha=>Er.cs (ak4 aiw aix ⟨PE,PG⟩ a ha:)
def F5:=λa ha=>(zi a ha).1
def F6:=λa ha=>(zi a ha).2
noncomputable def PI:=mk Nl Tryz.func167 hn
def aiy:=λa=>(PI.cs (Ym a:)).1
def aiz:=λa=>(PI.cs (Ym a:)).2
noncomputable def aax:=mk WR Tryz.func168 hn
def amK:=λa n ha=>(aax.cs (aef a n ha:)).1
def amL:=λa n ha=>(aax.cs (aef a n ha:)).2
noncomputable def PK:=mk Nn Tryz.func145 (hc jH (hc Er (hc aax (hc PI hn))))
def vV:=λa n ha=>PK.cs (agJ ⟨ku,kC⟩ ⟨F5,F6⟩ ⟨amK,amL⟩ aiy aiz a n ha:)
def aay:=λa n ha=>(vV a n ha).1
def aaz:=λa n ha=>(vV a n ha).2
noncomputable def Br:=mk WS Tryz.func128 (hc Ep hn)
def qC:=λa b ha=>Br.cs (ak5 ⟨PE,PG⟩ a b ha:)
def Es:=λa b ha=>(qC a b ha).1
def Eu:=λa b ha=>(qC a b ha).2
noncomputable def PL:=mk Np Tryz.func146 (hc Br hn)
def vW:=λa b ha=>PL.cs (agK ⟨Es,Eu⟩ a b ha:)
def aaA:=λa b ha=>(vW a b ha).1
def aaB:=λa b ha=>(vW a b ha).2
noncomputable def aeP:=mk WT Tryz.func114 (hc PK (hc PL hn))
def zk:=λa ha=>aeP.cs (ak6 ⟨aay,aaz⟩ ⟨aaA,aaB⟩ a ha:)
def amM:=λa ha=>(zk a ha).1
def amN:=λa ha=>(zk a ha).2
noncomputable def lZ:=mk Nq Tryz.func123 hn
def pQ:=λa ha=>(lZ.cs (Yo a ha:)).1
def pR:=λa ha=>(lZ.cs (Yo a ha:)).2
noncomputable def PN:=mk Nr Tryz.func147 (hc lZ hn)
def vX:=λa ha=>PN.cs (agM ⟨pQ,pR⟩ a ha:)
def aaC:=λa ha=>(vX a ha).1
def aaD:=λa ha=>(vX a ha).2
noncomputable def aaE:=mk Nt Tryz.func115 (hc PN hn)
def vY:=λa ha=>aaE.cs (agN ⟨aaC,aaD⟩ a ha:)
def aiA:=λa ha=>(vY a ha).1
def aiB:=λa ha=>(vY a ha).2
noncomputable def IL:=mk Nu Tryz.func116 (hc PK (hc PL (hc PN hn)))
def zm:=λa t ha ht hok=>IL.cs (agO ⟨aay,aaz⟩ ⟨aaA,aaB⟩ ⟨aaC,aaD⟩ a t ha ht hok:)
def PO:=λa t ha ht hok=>(zm a t ha ht hok).1
def PU:=λa t ha ht hok=>(zm a t ha ht hok).2
noncomputable def PW:=mk Nv Tryz.func117 hn
def aiC:=λk l=>(PW.cs (YV k l:)).1
def aiD:=λk l=>(PW.cs (YV k l:)).2
noncomputable def aaF:=mk WU Tryz.func118 (hc jH hn)
def qD:=λa=>aaF.cs (ak2 ⟨ku,kC⟩ a:)
def aeQ:=λa=>(qD a).1
def aeR:=λa=>(qD a).2
noncomputable def zn:=mk WW Tryz.func164 hn
def Ew:=λa=>(zn.cs (aee a:)).1
def Ey:=λa=>(zn.cs (aee a:)).2
noncomputable def PX:=mk Nw Tryz.func181 (hc Ep (hc zn hn))
def vZ:=λl m hl hn hm hma=>PX.cs (agT ⟨PE,PG⟩ ⟨Ew,Ey⟩ l m hl hn hm hma:)
def aaG:=λl m hl hn hm hma=>(vZ l m hl hn hm hma).1
def aaH:=λl m hl hn hm hma=>(vZ l m hl hn hm hma).2
noncomputable def PZ:=mk Ny Tryz.func182 (hc lZ hn)
def zo:=λa ha=>PZ.cs (agL ⟨pQ,pR⟩ a ha:)
def aaI:=λa ha=>(zo a ha).1
def aaJ:=λa ha=>(zo a ha).2
noncomputable def aeS:=mk WX Tryz.func169 (hc Er (hc PX (hc PZ hn)))
def wo:=λa b ha hb=>aeS.cs (ak9 ⟨F5,F6⟩ ⟨aaG,aaH⟩ ⟨aaI,aaJ⟩ a b ha hb:)
def amO:=λa b ha hb=>(wo a b ha hb).1
def amP:=λa b ha hb=>(wo a b ha hb).2
noncomputable def aeT:=mk WY Tryz.func170 (hc Er (hc zn (hc lZ (hc y7 hn))))
def qE:=λa n ha=>aeT.cs (alc ⟨F5,F6⟩ ⟨Ew,Ey⟩ ⟨pQ,pR⟩ ⟨En,Eo⟩ a n ha:)
def amQ:=λa n ha=>(qE a n ha).1
def amR:=λa n ha=>(qE a n ha).2
noncomputable def P9:=mk Nz Tryz.func183 hn
def aiE:=λa b ha hb sa sb=>(P9.cs (Yr a b ha hb sa sb:)).1
def aiF:=λa b ha hb sa sb=>(P9.cs (Yr a b ha hb sa sb:)).2
noncomputable def aeU:=mk WZ Tryz.func171 (hc Er (hc zn (hc PX (hc P9 (hc PZ hn)))))
def wu:=λa b ha hb=>aeU.cs (ala ⟨F5,F6⟩ ⟨Ew,Ey⟩ ⟨aaG,aaH⟩ aiE aiF ⟨aaI,aaJ⟩ a b ha hb:)
def amS:=λa b ha hb=>(wu a b ha hb).1
def amT:=λa b ha hb=>(wu a b ha hb).2
noncomputable def aaK:=mk NA Tryz.func148 (hc aeU (hc aeS (hc aeT hn)))
def wz:=λop x y hx hy=>aaK.cs (agR ⟨amS,amT⟩ ⟨amO,amP⟩ ⟨amQ,amR⟩ op x y hx hy:)
def aiG:=λop x y hx hy=>(wz op x y hx hy).1
def aiH:=λop x y hx hy=>(wz op x y hx hy).2
noncomputable def KS:=mk Xa Tryz.func142 (hc zn (hc y7 hn))
def zq:=λop a b=>KS.cs (ak7 ⟨En,Eo⟩ ⟨Ew,Ey⟩ op a b:)
def Sd:=λop a b=>(zq op a b).1
def Sg:=λop a b=>(zq op a b).2
noncomputable def Si:=mk Xb Tryz.func152 (hc Er hn)
def wB:=λa ha=>Si.cs (ak8 ⟨F5,F6⟩ a ha:)
def aaL:=λa ha=>(wB a ha).1
def aaM:=λa ha=>(wB a ha).2
noncomputable def aaN:=mk NC Tryz.func172 (hc lZ hn)
def wC:=λop n y hy=>aaN.cs (agP ⟨pQ,pR⟩ op n y hy:)
def aiI:=λop n y hy=>(wC op n y hy).1
def aiJ:=λop n y hy=>(wC op n y hy).2
set_option maxRecDepth 100000
set_option maxHeartbeats 4000000
noncomputable def aaO:=mk ND Tryz.func149 (hc Br (hc lZ (hc KS (hc aaF (hc Si (hc aaN hn))))))
def wD:=λop x y hx hy=>aaO.cs (agQ ⟨Es,Eu⟩ ⟨pQ,pR⟩ ⟨Sd,Sg⟩ ⟨aeQ,aeR⟩ ⟨aaL,aaM⟩ aiI aiJ op x y hx hy:)
def aiK:=λop x y hx hy=>(wD op x y hx hy).1
def aiL:=λop x y hx hy=>(wD op x y hx hy).2
noncomputable def aaP:=mk NG Tryz.func119 (hc KR (hc Br (hc aaK (hc aaO (hc IL hn)))))
def Bu:=λop x y t hop hx hy ht hok=>aaP.cs (agS ⟨Sb,Sc⟩ ⟨Es,Eu⟩ aiG aiH aiK aiL ⟨PO,PU⟩ op x y t hop hx hy ht hok:)
def aiM:=λop x y t hop hx hy ht hok=>(Bu op x y t hop hx hy ht hok).1
def aiN:=λop x y t hop hx hy ht hok=>(Bu op x y t hop hx hy ht hok).2
noncomputable def Qa:=mk NH Tryz.func150 hn
def aiO:=λl k hl=>(Qa.cs (YW l k hl:)).1
def aiP:=λl k hl=>(Qa.cs (YW l k hl:)).2
noncomputable def aaQ:=mk NI Tryz.func120 (hc KR (hc IL (hc Qa hn)))
def sU:=λl k t hl ht hk=>aaQ.cs (ahk ⟨Sb,Sc⟩ ⟨PO,PU⟩ aiO aiP l k t hl ht hk:)
def aiQ:=λl k t hl ht hk=>(sU l k t hl ht hk).1
def aiR:=λl k t hl ht hk=>(sU l k t hl ht hk).2
noncomputable def IQ:=mk NJ Tryz.func122 (hc lZ hn)
def sV:=λa ha=>IQ.cs (ahj ⟨pQ,pR⟩ a ha:)
def Qb:=λa ha=>(sV a ha).1
def Qc:=λa ha=>(sV a ha).2
noncomputable def aaR:=mk NK Tryz.func121 (hc lZ (hc IQ hn))
def sW:=λo x y r hx hy hr=>aaR.cs (ahl ⟨pQ,pR⟩ ⟨Qb,Qc⟩ o x y r hx hy hr:)
def aiS:=λo x y r hx hy hr=>(sW o x y r hx hy hr).1
def aiT:=λo x y r hx hy hr=>(sW o x y r hx hy hr).2
noncomputable def Qd:=mk NP Tryz.func124 hn
def aiU:=λb=>(Qd.cs (YZ b:)).1
def aiV:=λb=>(Qd.cs (YZ b:)).2
noncomputable def Qe:=mk NQ Tryz.func125 hn
def aiW:=λb=>(Qe.cs (Za b:)).1
def aiX:=λb=>(Qe.cs (Za b:)).2
noncomputable def IU:=mk NR Tryz.func153 hn
def aaS:=λs k=>(IU.cs (YX s k:)).1
def aaT:=λs k=>(IU.cs (YX s k:)).2
noncomputable def aaU:=mk NS Tryz.func154 (hc Si (hc Br (hc IU hn)))
def Bv:=λs n hs hx hy hf=>aaU.cs (ahm ⟨aaL,aaM⟩ ⟨Es,Eu⟩ ⟨aaS,aaT⟩ s n hs hx hy hf:)
def aiY:=λs n hs hx hy hf=>(Bv s n hs hx hy hf).1
def aiZ:=λs n hs hx hy hf=>(Bv s n hs hx hy hf).2
noncomputable def aeV:=mk Xc Tryz.func126 (hc Si (hc Er (hc lZ (hc IU (hc aaU (hc IQ hn))))))
def wE:=λs n hs=>aeV.cs (alB ⟨aaL,aaM⟩ ⟨F5,F6⟩ ⟨pQ,pR⟩ ⟨aaS,aaT⟩ aiY aiZ ⟨Qb,Qc⟩ s n hs:)
def amU:=λs n hs=>(wE s n hs).1
def amV:=λs n hs=>(wE s n hs).2
noncomputable def aeW:=mk Xd Tryz.func89 (hc sQ (hc KR (hc aaF (hc aeV (hc aav (hc aeP (hc lZ (hc aaE (hc aaP (hc IL (hc aaQ (hc aaR (hc PW (hc IQ (hc Qd (hc Qe hn))))))))))))))))
def wF:=λt b ht hb=>aeW.cs (alC ⟨vQ,vR⟩ ⟨Sb,Sc⟩ ⟨aeQ,aeR⟩ ⟨amU,amV⟩ ⟨aeN,aeO⟩ ⟨amM,amN⟩ ⟨pQ,pR⟩ ⟨aiA,aiB⟩ aiM aiN ⟨PO,PU⟩ aiQ aiR aiS aiT aiC aiD ⟨Qb,Qc⟩ aiU aiV aiW aiX t b ht hb:)
def amW:=λt b ht hb=>(wF t b ht hb).1
def amX:=λt b ht hb=>(wF t b ht hb).2
noncomputable def Qf:=mk NT Tryz.func127 (hc Br hn)
def sZ:=λa b ha=>Qf.cs (aho ⟨Es,Eu⟩ a b ha:)
def aaV:=λa b ha=>(sZ a b ha).1
def aaW:=λa b ha=>(sZ a b ha).2
noncomputable def aaX:=mk NU Tryz.func129 (hc Br (hc Qf hn))
def tq:=λa b ha=>aaX.cs (ahp ⟨Es,Eu⟩ ⟨aaV,aaW⟩ a b ha:)
def ai0:=λa b ha=>(tq a b ha).1
def ai1:=λa b ha=>(tq a b ha).2
noncomputable def aeX:=mk Xe Tryz.func90 (hc Br (hc aaX (hc Qf hn)))
def tu:=λa b ha=>aeX.cs (alG ⟨Es,Eu⟩ ⟨ai0,ai1⟩ ⟨aaV,aaW⟩ a b ha:)
def amY:=λa b ha=>(tu a b ha).1
def amZ:=λa b ha=>(tu a b ha).2
noncomputable def Sj:=mk Xf Tryz.func61 (hc sQ (hc R9 (hc aav (hc aeW (hc aeX hn)))))
def tC:=λb c hb hc=>Sj.cs (alH ⟨vQ,vR⟩ ⟨aeL,aeM⟩ ⟨aeN,aeO⟩ ⟨amW,amX⟩ ⟨amY,amZ⟩ b c hb hc:)
def aaY:=λb c hb hc=>(tC b c hb hc).1
def aaZ:=λb c hb hc=>(tC b c hb hc).2
noncomputable def Sk:=mk Xg Tryz.func110 (hc KM (hc y7 hn))
def tF:=λw=>Sk.cs (alV ⟨R4,R5⟩ ⟨En,Eo⟩ w:)
def aa0:=λw=>(tF w).1
def aa1:=λw=>(tF w).2
noncomputable def aeY:=mk Xh Tryz.func85 (hc Sk hn)
def tH:=λw h=>aeY.cs (al9 ⟨aa0,aa1⟩ w h:)
def am0:=λw h=>(tH w h).1
def am1:=λw h=>(tH w h).2
noncomputable def aeZ:=mk Xi Tryz.func60 (hc F4 (hc aai (hc aeY (hc Sj hn))))
def qF:=λe hw ho=>aeZ.cs (amb ⟨KO,KQ⟩ ⟨aeJ,aeK⟩ am0 am1 ⟨aaY,aaZ⟩ e hw ho:)
def am2:=λe hw ho=>(qF e hw ho).1
def am3:=λe hw ho=>(qF e hw ho).2
noncomputable def ae0:=mk Xj Tryz.func43 (hc aeZ (hc R8 hn))
def zu:=λl mem h hm=>ae0.cs (amc am2 am3 ⟨aeF,aeG⟩ l mem h hm:)
def am4:=λl mem h hm=>(zu l mem h hm).1
def am5:=λl mem h hm=>(zu l mem h hm).2
noncomputable def ae1:=mk Xk Tryz.func44 (hc Sj hn)
def zw:=λl h=>ae1.cs (alI ⟨aaY,aaZ⟩ l h:)
def am6:=λl h=>(zw l h).1
def am7:=λl h=>(zw l h).2
noncomputable def ae2:=mk Xl Tryz.func20 (hc ae0 (hc ae1 (hc F3 hn)))
def zy:=λe h1 h2 h3=>ae2.cs (amd am4 am5 ⟨am6,am7⟩ ⟨KJ,KL⟩ e h1 h2 h3:)
def am8:=λe h1 h2 h3=>(zy e h1 h2 h3).1
def am9:=λe h1 h2 h3=>(zy e h1 h2 h3).2
noncomputable def aa2:=mk Xm Tryz.func130 (hc sM hn)
def tJ:=λq h1 h2=>aa2.cs (alJ ⟨Az,AA⟩ q h1 h2:)
def ae3:=λq h1 h2=>(tJ q h1 h2).1
def ae4:=λq h1 h2=>(tJ q h1 h2).2
noncomputable def ae5:=mk Xo Tryz.func94 (hc R7 (hc aa2 (hc Ay hn)))
def tK:=λe h1 h2 h3=>ae5.cs (amg ⟨aaf,aag⟩ ⟨ae3,ae4⟩ ⟨IC,IE⟩ e h1 h2 h3:)
def ana:=λe h1 h2 h3=>(tK e h1 h2 h3).1
def anb:=λe h1 h2 h3=>(tK e h1 h2 h3).2
noncomputable def Ez:=mk NV Tryz.func95 hn
def IV:=λl n h=>(Ez.cs (Zt l n h:)).1
def IW:=λl n h=>(Ez.cs (Zt l n h:)).2
noncomputable def Qg:=mk NW Tryz.func156 hn
def ai2:=λm b=>(Qg.cs (Zr m b:)).1
def ai3:=λm b=>(Qg.cs (Zr m b:)).2
noncomputable def EA:=mk NY Tryz.func157 hn
def Qh:=λm h=>(EA.cs (Zo m h:)).1
def Qi:=λm h=>(EA.cs (Zo m h:)).2
noncomputable def AJ:=mk NZ Tryz.func178 (hc zn hn)
def wG:=λm n h=>AJ.cs (ahv ⟨Ew,Ey⟩ m n h:)
def AL:=λm n h=>(wG m n h).1
def AO:=λm n h=>(wG m n h).2
noncomputable def aa3:=mk N7 Tryz.func174 (hc EA (hc AJ hn))
def wH:=λm i h ho=>aa3.cs (ahB ⟨Qh,Qi⟩ ⟨AL,AO⟩ m i h ho:)
def ai4:=λm i h ho=>(wH m i h ho).1
def ai5:=λm i h ho=>(wH m i h ho).2
noncomputable def EB:=mk N8 Tryz.func175 (hc AJ hn)
def Qj:=λm d v h d0 d1=>(EB.cs (Zq ⟨AL,AO⟩ m d v h d0 d1:)).1
def Qk:=λm d v h d0 d1=>(EB.cs (Zq ⟨AL,AO⟩ m d v h d0 d1:)).2
noncomputable def aa4:=mk N9 Tryz.func176 (hc zn hn)
def tL:=λv k h k0 k1=>aa4.cs (ahw ⟨Ew,Ey⟩ v k h k0 k1:)
def ai6:=λv k h k0 k1=>(tL v k h k0 k1).1
def ai7:=λv k h k0 k1=>(tL v k h k0 k1).2
noncomputable def aa5:=mk Oa Tryz.func177 (hc zn (hc EA (hc AJ (hc EB hn))))
def tN:=λm i h hi ho=>aa5.cs (ahz ⟨Ew,Ey⟩ ⟨Qh,Qi⟩ ⟨AL,AO⟩ ⟨Qj,Qk⟩ m i h hi ho:)
def ai8:=λm i h hi ho=>(tN m i h hi ho).1
def ai9:=λm i h hi ho=>(tN m i h hi ho).2
set_option maxRecDepth 100000
set_option maxHeartbeats 4000000
noncomputable def aa6:=mk Ob Tryz.func179 (hc AJ (hc EB hn))
def wI:=λm i h hi hq hn ho=>aa6.cs (ahA ⟨AL,AO⟩ ⟨Qj,Qk⟩ m i h hi hq hn ho:)
def aja:=λm i h hi hq hn ho=>(wI m i h hi hq hn ho).1
def ajb:=λm i h hi hq hn ho=>(wI m i h hi hq hn ho).2
noncomputable def aa7:=mk Oc Tryz.func158 (hc KS (hc AJ (hc aa6 (hc aa5 (hc EB (hc aa4 (hc aa3 hn)))))))
def Bw:=λm i h hi hn ho=>aa7.cs (ahC ⟨Sd,Sg⟩ ⟨AL,AO⟩ aja ajb ai8 ai9 ⟨Qj,Qk⟩ ai6 ai7 ai4 ai5 m i h hi hn ho:)
def ajc:=λm i h hi hn ho=>(Bw m i h hi hn ho).1
def ajd:=λm i h hi hn ho=>(Bw m i h hi hn ho).2
noncomputable def ae6:=mk Xp Tryz.func131 (hc Sk (hc F3 (hc Ay (hc aa7 (hc EA (hc Qg hn))))))
def tO:=λm b h ho=>ae6.cs (al0 ⟨aa0,aa1⟩ ⟨KJ,KL⟩ ⟨IC,IE⟩ ajc ajd ⟨Qh,Qi⟩ ai2 ai3 m b h ho:)
def ane:=λm b h ho=>(tO m b h ho).1
def anf:=λm b h ho=>(tO m b h ho).2
noncomputable def aa8:=mk Od Tryz.func96 (hc aah (hc ae6 (hc Ez hn)))
def qG:=λe q h1 ho h2 hq=>aa8.cs (ahO ⟨aeH,aeI⟩ ⟨ane,anf⟩ ⟨IV,IW⟩ e q h1 ho h2 hq:)
def aje:=λe q h1 ho h2 hq=>(qG e q h1 ho h2 hq).1
def ajf:=λe q h1 ho h2 hq=>(qG e q h1 ho h2 hq).2
noncomputable def aa9:=mk Xq Tryz.func9 hn
def ang:=λl pc h=>(aa9.cs (aew l pc h:)).1
def anh:=λl pc h=>(aa9.cs (aew l pc h:)).2
noncomputable def abb:=mk Xr Tryz.func14 (hc R7 hn)
def wJ:=λl e h h1 h2=>abb.cs (ama ⟨aaf,aag⟩ l e h h1 h2:)
def ae7:=λl e h h1 h2=>(wJ l e h h1 h2).1
def ae8:=λl e h h1 h2=>(wJ l e h h1 h2).2
noncomputable def abd:=mk Xt Tryz.func100 (hc KN (hc Sk (hc F3 hn)))
def tQ:=λm h=>abd.cs (aml ⟨Z5,Z6⟩ ⟨aa0,aa1⟩ ⟨KJ,KL⟩ m h:)
def ae9:=λm h=>(tQ m h).1
def afa:=λm h=>(tQ m h).2
noncomputable def Sl:=mk Xu Tryz.func109 (hc jH hn)
def afb:=λo al hk hx hy=>(Sl.cs (aeo ⟨ku,kC⟩ o al hk hx hy:)).1
def afc:=λo al hk hx hy=>(Sl.cs (aeo ⟨ku,kC⟩ o al hk hx hy:)).2
noncomputable def abe:=mk Xv Tryz.func84 (hc sQ (hc Sl (hc sM hn)))
def tT:=λb hb=>abe.cs (alu ⟨vQ,vR⟩ ⟨afb,afc⟩ ⟨Az,AA⟩ b hb:)
def afd:=λb hb=>(tT b hb).1
def afe:=λb hb=>(tT b hb).2
noncomputable def abf:=mk Xw Tryz.func138 (hc Sl hn)
def tV:=λb kp ok hk=>abf.cs (alq ⟨afb,afc⟩ b kp ok hk:)
def aff:=λb kp ok hk=>(tV b kp ok hk).1
def afg:=λb kp ok hk=>(tV b kp ok hk).2
noncomputable def afh:=mk Xx Tryz.func139 (hc sQ (hc jH hn))
def tX:=λb hb=>afh.cs (alp ⟨vQ,vR⟩ ⟨ku,kC⟩ b hb:)
def ani:=λb hb=>(tX b hb).1
def anj:=λb hb=>(tX b hb).2
noncomputable def afi:=mk Xy Tryz.func106 (hc sQ (hc afh (hc abf hn)))
def tY:=λb hb=>afi.cs (alr ⟨vQ,vR⟩ ⟨ani,anj⟩ ⟨aff,afg⟩ b hb:)
def ank:=λb hb=>(tY b hb).1
def anl:=λb hb=>(tY b hb).2
noncomputable def abg:=mk Xz Tryz.func140 hn
def anm:=λops k h0 h1 h2=>(abg.cs (aep ops k h0 h1 h2:)).1
def ano:=λops k h0 h1 h2=>(abg.cs (aep ops k h0 h1 h2:)).2
noncomputable def afj:=mk XA Tryz.func107 (hc sQ (hc abf (hc abg hn)))
def tZ:=λb hb=>afj.cs (als ⟨vQ,vR⟩ ⟨aff,afg⟩ anm ano b hb:)
def anp:=λb hb=>(tZ b hb).1
def anq:=λb hb=>(tZ b hb).2
noncomputable def Sn:=mk XB Tryz.func141 hn
def afk:=λops k=>(Sn.cs (aem ops k:)).1
def afl:=λops k=>(Sn.cs (aem ops k:)).2
noncomputable def abh:=mk XC Tryz.func165 hn
def anr:=λb k=>(abh.cs (aen b k:)).1
def ant:=λb k=>(abh.cs (aen b k:)).2
noncomputable def afm:=mk XD Tryz.func143 (hc abh (hc Sn hn))
def uf:=λb h=>afm.cs (alm anr ant ⟨afk,afl⟩ b h:)
def anu:=λb h=>(uf b h).1
def anv:=λb h=>(uf b h).2
noncomputable def afn:=mk XE Tryz.func108 (hc sQ (hc KS (hc afm (hc Sn (hc sM hn)))))
def qH:=λb hb=>afn.cs (alo ⟨vQ,vR⟩ ⟨Sd,Sg⟩ anu anv ⟨afk,afl⟩ ⟨Az,AA⟩ b hb:)
def anw:=λb hb=>(qH b hb).1
def anx:=λb hb=>(qH b hb).2
noncomputable def Sq:=mk XF Tryz.func83 (hc afn (hc abe (hc afi (hc afj hn))))
def wK:=λb hb=>Sq.cs (aln ⟨anw,anx⟩ ⟨afd,afe⟩ ⟨ank,anl⟩ ⟨anp,anq⟩ b hb:)
def abj:=λb hb=>(wK b hb).1
def abk:=λb hb=>(wK b hb).2
noncomputable def abl:=mk XG Tryz.func184 hn
def anz:=λb k hb h0 h1 hl=>(abl.cs (aey b k hb h0 h1 hl:)).1
def anA:=λb k hb h0 h1 hl=>(abl.cs (aey b k hb h0 h1 hl:)).2
noncomputable def afo:=mk XH Tryz.func180 (hc sQ (hc abl hn))
def wL:=λl hl hlen=>afo.cs (amm ⟨vQ,vR⟩ anz anA l hl hlen:)
def anB:=λl hl hlen=>(wL l hl hlen).1
def anC:=λl hl hlen=>(wL l hl hlen).2
noncomputable def afp:=mk XI Tryz.func159 (hc afo (hc Sq hn))
def ug:=λb a h ha hl=>afp.cs (amn ⟨anB,anC⟩ ⟨abj,abk⟩ b a h ha hl:)
def anD:=λb a h ha hl=>(ug b a h ha hl).1
def anE:=λb a h ha hl=>(ug b a h ha hl).2
noncomputable def afq:=mk XJ Tryz.func160 (hc R9 hn)
def wM:=λl b c h=>afq.cs (aly ⟨aeL,aeM⟩ l b c h:)
def anF:=λl b c h=>(wM l b c h).1
def anG:=λl b c h=>(wM l b c h).2
noncomputable def afr:=mk XK Tryz.func161 (hc aa2 hn)
def wN:=λl q h h1 h2=>afr.cs (alL ⟨ae3,ae4⟩ l q h h1 h2:)
def anH:=λl q h h1 h2=>(wN l q h h1 h2).1
def anI:=λl q h h1 h2=>(wN l q h h1 h2).2
noncomputable def afs:=mk XL Tryz.func132 (hc afq (hc afr (hc Sj (hc afp hn))))
def qI:=λe b a h hb ha hl=>afs.cs (amo ⟨anF,anG⟩ ⟨anH,anI⟩ ⟨aaY,aaZ⟩ anD anE e b a h hb ha hl:)
def anJ:=λe b a h hb ha hl=>(qI e b a h hb ha hl).1
def anK:=λe b a h hb ha hl=>(qI e b a h hb ha hl).2
noncomputable def aft:=mk XM Tryz.func97 (hc abd (hc F4 (hc R6 (hc aa9 (hc abb (hc afs hn))))))
def uh:=λe a h1 h2 h3 ha hl=>aft.cs (ams ⟨ae9,afa⟩ ⟨KO,KQ⟩ ⟨ZV,ZW⟩ ⟨ang,anh⟩ ⟨ae7,ae8⟩ anJ anK e a h1 h2 h3 ha hl:)
def anL:=λe a h1 h2 h3 ha hl=>(uh e a h1 h2 h3 ha hl).1
def anM:=λe a h1 h2 h3 ha hl=>(uh e a h1 h2 h3 ha hl).2
noncomputable def Ql:=mk Oe Tryz.func98 (hc Ez hn)
def ajg:=λm q left size hq h1 h2=>(Ql.cs (ZG ⟨IV,IW⟩ m q left size hq h1 h2:)).1
def ajh:=λm q left size hq h1 h2=>(Ql.cs (ZG ⟨IV,IW⟩ m q left size hq h1 h2:)).2
noncomputable def Qm:=mk Og Tryz.func162 hn
def aji:=λm b n h h1 h2 h3=>(Qm.cs (ZB m b n h h1 h2 h3:)).1
def ajj:=λm b n h h1 h2 h3=>(Qm.cs (ZB m b n h h1 h2 h3:)).2
noncomputable def Qn:=mk Oh Tryz.func163 hn
def ajk:=λb a n h2 h3 h4=>(Qn.cs (ZE b a n h2 h3 h4:)).1
def ajl:=λb a n h2 h3 h4=>(Qn.cs (ZE b a n h2 h3 h4:)).2
noncomputable def abm:=mk Oi Tryz.func133 (hc Qm (hc Qn hn))
def uj:=λm b o x y hm x0 hi ho h1 h2 h3 h4=>abm.cs (ahR aji ajj ajk ajl m b o x y hm x0 hi ho h1 h2 h3 h4:)
def ajm:=λm b o x y hm x0 hi ho h1 h2 h3 h4=>(uj m b o x y hm x0 hi ho h1 h2 h3 h4).1
def ajn:=λm b o x y hm x0 hi ho h1 h2 h3 h4=>(uj m b o x y hm x0 hi ho h1 h2 h3 h4).2
noncomputable def Qo:=mk Oj Tryz.func134 hn
def ajo:=λl k=>(Qo.cs (Zz l k:)).1
def ajp:=λl k=>(Qo.cs (Zz l k:)).2
noncomputable def abn:=mk Ol Tryz.func135 (hc KS hn)
def wO:=λm o x y h=>abn.cs (ahP ⟨Sd,Sg⟩ m o x y h:)
def ajq:=λm o x y h=>(wO m o x y h).1
def ajr:=λm o x y h=>(wO m o x y h).2
set_option maxRecDepth 100000
set_option maxHeartbeats 4000000
noncomputable def Qp:=mk Om Tryz.func136 hn
def ajs:=λb v h3 h4 hx hy=>(Qp.cs (ZF b v h3 h4 hx hy:)).1
def ajt:=λb v h3 h4 hx hy=>(Qp.cs (ZF b v h3 h4 hx hy:)).2
noncomputable def afu:=mk XO Tryz.func99 (hc sQ (hc F3 (hc Ay (hc Qo (hc abm (hc Qp (hc abn hn)))))))
def zB:=λb m hs hb ho=>afu.cs (amv ⟨vQ,vR⟩ ⟨KJ,KL⟩ ⟨IC,IE⟩ ⟨ajo,ajp⟩ ajm ajn ajs ajt ajq ajr b m hs hb ho:)
def anN:=λb m hs hb ho=>(zB b m hs hb ho).1
def anO:=λb m hs hb ho=>(zB b m hs hb ho).2
noncomputable def afv:=mk XP Tryz.func67 (hc aah (hc ae2 (hc afu (hc ae5 (hc aft (hc aa8 (hc Ql (hc Ez hn))))))))
def um:=λe q left a h1 ho h2 h3 hq ha hl=>afv.cs (amw ⟨aeH,aeI⟩ ⟨am8,am9⟩ anN anO ana anb anL anM aje ajf ajg ajh ⟨IV,IW⟩ e q left a h1 ho h2 h3 hq ha hl:)
def anP:=λe q left a h1 ho h2 h3 hq ha hl=>(um e q left a h1 ho h2 h3 hq ha hl).1
def anQ:=λe q left a h1 ho h2 h3 hq ha hl=>(um e q left a h1 ho h2 h3 hq ha hl).2
noncomputable def abo:=mk Hu Tryz.func55 (hc gX (hc sM hn))
def uo:=λc b p hc hb h1 h2=>abo.cs (ahg ⟨iN,iO⟩ ⟨Az,AA⟩ c b p hc hb h1 h2:)
def aju:=λc b p hc hb h1 h2=>(uo c b p hc hb h1 h2).1
def ajv:=λc b p hc hb h1 h2=>(uo c b p hc hb h1 h2).2
noncomputable def Qq:=mk Oo Tryz.func28 (hc IG (hc gX hn))
def uw:=λb p hb h1 h2=>Qq.cs (ahb ⟨Pw,Px⟩ ⟨iN,iO⟩ b p hb h1 h2:)
def abp:=λb p hb h1 h2=>(uw b p hb h1 h2).1
def abq:=λb p hb h1 h2=>(uw b p hb h1 h2).2
noncomputable def abr:=mk Oq Tryz.func56 (hc F4 (hc Sq (hc abe (hc gX (hc Qq hn)))))
def qJ:=λb p hb h1 h2=>abr.cs (ahe (λpc l h _=>KO pc l h) (λpc l h _=>Iy (KQ pc l h)) ⟨abj,abk⟩ ⟨afd,afe⟩ ⟨iN,iO⟩ ⟨abp,abq⟩ b p hb h1 h2:)
def ajw:=λb p hb h1 h2=>(qJ b p hb h1 h2).1
def ajx:=λb p hb h1 h2=>(qJ b p hb h1 h2).2
noncomputable def abt:=mk XQ Tryz.func137 hn
def anR:=λn b h0 h1 hb=>(abt.cs (aez n b h0 h1 hb:)).1
def anS:=λn b h0 h1 hb=>(abt.cs (aez n b h0 h1 hb:)).2
noncomputable def afw:=mk XR Tryz.func101 (hc sQ (hc abt hn))
def uz:=λb hb=>afw.cs (amt ⟨vQ,vR⟩ anR anS b hb:)
def anT:=λb hb=>(uz b hb).1
def anU:=λb hb=>(uz b hb).2
noncomputable def abu:=mk Ou Tryz.func102 (hc gX (hc sM hn))
def oN:=λc b p ok hc hb h1 h2=>abu.cs (ahf ⟨iN,iO⟩ ⟨Az,AA⟩ c b p ok hc hb h1 h2:)
def ajy:=λc b p ok hc hb h1 h2=>(oN c b p ok hc hb h1 h2).1
def ajz:=λc b p ok hc hb h1 h2=>(oN c b p ok hc hb h1 h2).2
noncomputable def abv:=mk Ov Tryz.func103 (hc gX hn)
def uD:=λl b p hl h hb h1 h2=>abv.cs (ahT ⟨iN,iO⟩ l b p hl h hb h1 h2:)
def ajA:=λl b p hl h hb h1 h2=>(uD l b p hl h hb h1 h2).1
def ajB:=λl b p hl h hb h1 h2=>(uD l b p hl h hb h1 h2).2
noncomputable def abw:=mk Hw Tryz.func68 (hc abd (hc F4 (hc afw (hc Sq (hc gX (hc abo (hc abr (hc abu (hc abv hn)))))))))
def wP:=λm b p h hb h1 h2=>abw.cs (ahU ⟨ae9,afa⟩ ⟨KO,KQ⟩ ⟨anT,anU⟩ ⟨abj,abk⟩ ⟨iN,iO⟩ ⟨aju,ajv⟩ ⟨ajw,ajx⟩ ⟨ajy,ajz⟩ ajA ajB m b p h hb h1 h2:)
def ajC:=λm b p h hb h1 h2=>(wP m b p h hb h1 h2).1
def ajD:=λm b p h hb h1 h2=>(wP m b p h hb h1 h2).2
noncomputable def abx:=mk Ow Tryz.func45 (hc aeB (hc afv (hc aeC (hc aac (hc aae (hc gX (hc aad (hc abw hn))))))))
def wQ:=λb p hb h1 h2=>abx.cs (ahW amG amH anP anQ ⟨amI,amJ⟩ ⟨ah8,ah9⟩ ⟨aic,aie⟩ ⟨iN,iO⟩ ⟨aia,aib⟩ ajC ajD b p hb h1 h2:)
def ajE:=λb p hb h1 h2=>(wQ b p hb h1 h2).1
def ajF:=λb p hb h1 h2=>(wQ b p hb h1 h2).2
noncomputable def aby:=mk Ox Tryz.func22 (hc abx hn)
def uE:=λb p hb h1 h2=>aby.cs (ahX ⟨ajE,ajF⟩ b p hb h1 h2:)
def ajG:=λb p hb h1 h2=>(uE b p hb h1 h2).1
def ajH:=λb p hb h1 h2=>(uE b p hb h1 h2).2
noncomputable def ajI:=mk agn Tryz.func25 hn
def apR:=λe pc=>(ajI.cs (amh e pc:)).1
def apS:=λe pc=>(ajI.cs (amh e pc:)).2
noncomputable def adb:=mk agp Tryz.func33 hn
def anV:=λe x=>(adb.cs (amy e x:)).1
def anW:=λe x=>(adb.cs (amy e x:)).2
noncomputable def abz:=mk XU Tryz.func46 hn
def anX:=λa b c=>(abz.cs (ad9 a b c:)).1
def anY:=λa b c=>(abz.cs (ad9 a b c:)).2
noncomputable def afx:=mk XV Tryz.func24 (hc ajI hn)
def cu:=λl pc h=>afx.cs (ami apR apS l pc h:)
def anZ:=λl pc h=>(cu l pc h).1
def an0:=λl pc h=>(cu l pc h).2
noncomputable def afy:=mk XW Tryz.func24 (hc adb hn)
def bX:=λl x h=>afy.cs (amB ⟨anV,anW⟩ l x h:)
def an1:=λl x h=>(bX l x h).1
def an2:=λl x h=>(bX l x h).2
noncomputable def an3:=mk agq Tryz.func8 (hc afx hn)
def uF:=λl pc h=>an3.cs (apA anZ an0 l pc h:)
def apT:=λl pc h=>(uF l pc h).1
def apU:=λl pc h=>(uF l pc h).2
noncomputable def an4:=mk agr Tryz.func26 (hc abz hn)
def zC:=λa=>an4.cs (ao6 ⟨anX,anY⟩ a:)
def apV:=λa=>(zC a).1
def apW:=λa=>(zC a).2
noncomputable def afz:=mk XY Tryz.func10 (hc an4 hn)
def Bz:=afz.cs (ak1 ⟨apV,apW⟩:)
def an5:=(Bz).1
def an6:=(Bz).2
set_option maxRecDepth 100000
set_option maxHeartbeats 4000000
noncomputable def afA:=mk XZ Tryz.func11 (hc F4 (hc R6 (hc Pj (hc Pn (hc gX (hc aby (hc Qq hn)))))))
def nA:=λc hc hl=>afA.cs (amx ⟨KO,KQ⟩ ⟨ZV,ZW⟩ ⟨ahZ,ah0⟩ ⟨ZR,ZT⟩ ⟨iN,iO⟩ ⟨ajG,ajH⟩ ⟨abp,abq⟩ c hc hl:)
def an7:=λc hc hl=>(nA c hc hl).1
def an8:=λc hc hl=>(nA c hc hl).2
noncomputable def afB:=mk X3 Tryz.func31 (hc adb (hc afy hn))
def bZ:=λl x h=>afB.cs (amC ⟨anV,anW⟩ an1 an2 l x h:)
def an9:=λl x h=>(bZ l x h).1
def aoa:=λl x h=>(bZ l x h).2
noncomputable def abA:=mk X4 Tryz.func80 hn
def aob:=λa ha=>(abA.cs (aea a ha:)).1
def aoc:=λa ha=>(abA.cs (aea a ha:)).2
noncomputable def ajJ:=mk ags Tryz.func81 hn
def apX:=λb hb=>(ajJ.cs (alx b hb:)).1
def apY:=λb hb=>(ajJ.cs (alx b hb:)).2
noncomputable def aod:=mk agt Tryz.func51 (hc ajJ (hc abA hn))
def jM:=λe hw ho=>aod.cs (apH ⟨apX,apY⟩ ⟨aob,aoc⟩ e hw ho:)
def apZ:=λe hw ho=>(jM e hw ho).1
def ap0:=λe hw ho=>(jM e hw ho).2
noncomputable def afC:=mk X5 Tryz.func32 (hc aod hn)
def nC:=λl h=>afC.cs (amD ⟨apZ,ap0⟩ l h:)
def aoe:=λl h=>(nC l h).1
def aof:=λl h=>(nC l h).2
noncomputable def abB:=mk X6 Tryz.func34 hn
def aog:=λl n hl h0 h1=>(abB.cs (aeA l n hl h0 h1:)).1
def aoh:=λl n hl h0 h1=>(abB.cs (aeA l n hl h0 h1:)).2
noncomputable def aoi:=mk agu Tryz.func12 (hc afC (hc abB (hc afB hn)))
def wR:=λl e h h1 h2 h3=>aoi.cs (apJ ⟨aoe,aof⟩ aog aoh an9 aoa l e h h1 h2 h3:)
def ap1:=λl e h h1 h2 h3=>(wR l e h h1 h2 h3).1
def ap2:=λl e h h1 h2 h3=>(wR l e h h1 h2 h3).2
noncomputable def abC:=mk X7 Tryz.func18 hn
def aoj:=λa b ha=>(abC.cs (aec a b ha:)).1
def aol:=λa b ha=>(abC.cs (aec a b ha:)).2
noncomputable def abD:=mk X8 Tryz.func35 hn
def aom:=λa b ha=>(abD.cs (aes a b ha:)).1
def aon:=λa b ha=>(abD.cs (aes a b ha:)).2
noncomputable def afD:=mk X9 Tryz.func13 (hc abD (hc abC hn))
def uG:=λa b ha=>afD.cs (amE ⟨aom,aon⟩ ⟨aoj,aol⟩ a b ha:)
def aoo:=λa b ha=>(uG a b ha).1
def aop:=λa b ha=>(uG a b ha).2
noncomputable def afE:=mk Ya Tryz.func4 (hc an3 (hc aoi (hc afD (hc afz (hc abb (hc afA hn))))))
def qK:=λc hc=>afE.cs (amF ⟨apT,apU⟩ ⟨ap1,ap2⟩ ⟨aoo,aop⟩ ⟨an5,an6⟩ ⟨ae7,ae8⟩ ⟨an7,an8⟩ c hc:)
def aoq:=λc hc=>(qK c hc).1
def aor:=λc hc=>(qK c hc).2
end Go.TX.F
namespace Go.Proofs.YtpkmgiojecpceaaGreat
open Go.ChangeShapes Go.WideShapes Go.ChangeAt Go.RowKit
def ap3:ownKnob Tryz.prog.godebug=Option.none:=by kernel_rfl
def aos:laidOutB Tryz.prog=true:=by kernel_rfl
def ajK:Tryz.prog.cellsOf 5=1:=by kernel_rfl
set_option maxRecDepth 100000 in
def lifted(os:Os)(started:os.Started)(H:Type)(enc:TypeId×Value->H):
  ReturnsInHanded {} Tryz.checked os 4 .any (Rows.fnCacPutSpec.pre6 enc Tryz.prog Tryz.f4 Rows.fnCacPutRow.domain false) (Rows.fnCacPutSpec.post enc Tryz.prog Tryz.f4 false true false false):=by
 refine returnsInHanded_of_change (C:=Tryz.checked) ap3 started (by kernel_rfl) Tryz.func4
  (ChangeSpec.witness6 (enc:=enc) (C:=Tryz.checked) false ⟨#[], #[.slice none 0 0],[]⟩ 8 (by kernel_rfl) (by kernel_rfl) (by kernel_rfl) (by kernel_rfl)) ?_
 intro W base args ds gs before hval0 hW _ _;have hval:∀(j:Nat) t v,Tryz.f4.params[j]? =some t->args[j]? =some v->Value.okWide Tryz.prog W .any base t v:=hval0;have hW':=hW;obtain⟨p,q,hA0,hV,rfl,_,_⟩:=hW;have hA:DataW.TrodAll enc Tryz.prog W 0 (λ_=>true) true Tryz.f4.params.toList args.toList ds p:=hA0;rw [Tryz.params4]at hA hval;obtain⟨v0,d0,rfl,rfl,h0⟩:=trodAll_one hA;obtain⟨rfl,rfl⟩:=trodVars_none hV
 clear hA0 hval0
 simp only [List.append_nil]at hW';have hlt:∀x∈p,x.block<W.heap.size:=λx hx=>by simpa using hW'.lt x hx
 obtain⟨xs,hr,hb⟩:=Go.TX.ZO Tryz.underlying22 Tryz.underlying5 ajK (hval 0 22 v0 rfl rfl) h0 hlt;have hp:=Go.TX.F.aoq xs hb;have hq:=Go.TX.F.aor xs hb;refine(Go.TX.apO Go.TX.F.afE.ok hr (λg d h=>by cases h) hp).mono λe W' ⟨he,hw⟩=> ?_
 have he:e= .returned (.bool true):=he.trans (congrArg (λz:Bool×Unit=>Ending.returned (.bool z.1)) hq);refine⟨_,he,[d0],[],p,[],p,[],hW',trodAll_mk1 (shut_bool Tryz.underlying4 true),?_,rfl,hw.frame _,λh=>by cases h⟩;exact trodAll_mk1 (Below.trod aos (by kernel_rfl) (of_decide_eq_true (by kernel_rfl)) h0 hw hlt)
def y1:Tryz.pinned.checked.prog.funcNamed Rows.fnCacPutRow.func=some 4:=by kernel_rfl
def aS{a b:Bool}(h:a=true)(k:b=true):(a&&b)=true:=by rw [h,k];rfl
set_option maxHeartbeats 4000000 in
def y2:joinedFacts Tryz.pinned.checked.prog 4 Tryz.f4 Rows.fnCacPutSpec Rows.fnCacPutRow=true:=by
 unfold joinedFacts
 repeat' with_reducible apply aS
 all_goals (as_aux_lemma=>kernel_rfl)
def y3:Func.isWrapper Tryz.prog Tryz.f4 Rows.fnCacPutRow.wrapper Rows.fnCacPutRow.mainSum:=(by unfold Func.isWrapper;first | (rw [if_pos (by decide+kernel)];kernel_rfl) | (rw [if_neg (by decide+kernel)];exact⟨rfl,rfl⟩))
theorem x_holds:Rows.FnCacPutSaid:=
 OpenClaim.holds_of_wide 4 Tryz.f4 rfl rfl rfl rfl rfl rfl rfl ⟨rfl,rfl,rfl,rfl,rfl⟩ rfl rfl rfl rfl rfl y1 Tryz.func4 y2
  (of_decide_eq_true (by kernel_rfl)) y3
  (λos started H enc _=>lifted os started H enc)
end Go.Proofs.YtpkmgiojecpceaaGreat
