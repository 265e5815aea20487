/- Part 5 of a proof: what the last part needs. No condition. -/
import Derived.Test.YtnhlcljjjbjfeaaGreatZd
set_option linter.all false
set_option linter.unusedSectionVars false
set_option linter.unusedVariables false
set_option linter.unusedSimpArgs false
namespace Go.TX
open Go Go.AE
theorem ahv (x y:Int):aZ .lss x y=decide (x<y):=rfl
theorem ahw (x y:Int):aZ .leq x y=decide (x≤y):=rfl
theorem ahx (x y:Int):aZ .gtr x y=decide (y<x):=rfl
theorem ahy (x y:Int):aZ .geq x y=decide (y≤x):=rfl
theorem ahz (x y:Int):aZ .eql x y=decide (x=y):=rfl
theorem ahA (x y:Int):aZ .neq x y= !decide (x=y):=rfl
theorem ahB (k:IntKind) (x y:Int):iR .add k x y=k.wrap (x+y):=rfl
theorem Ww (k:IntKind) (x y:Int):iR .sub k x y=k.wrap (x-y):=rfl
theorem ahC (k:IntKind) (x y:Int):iR .mul k x y=k.wrap (x*y):=rfl
theorem ahD (k:IntKind) (x y:Int):iR .quo k x y=k.wrap (x.tdiv y):=rfl
theorem Wx (k:IntKind) (x y:Int):iR .rem k x y=x.tmod y:=rfl
theorem w64 {x:Int} (h1: -9223372036854775808≤x) (h2:x≤9223372036854775807):IntKind.i64.wrap x=x:=IntWalk.i64_in _ (by omega)
theorem aaV (m:aj):je .mono 0 m=m.iw:=rfl
theorem aaW (m:aj):nH .mono 1 .i64 m=m.atoms:=rfl
theorem ahE (p:List aj):nH .poly 0 .mono p=p:=rfl
theorem ali (p:List Atom):nH .tab 0 .atom p=p:=rfl
theorem ahF (p:List Int):nH .ints 0 .i64 p=p:=rfl
theorem aaX (m:Atom):je .atom 0 m=m.kind:=rfl
theorem aaY (m:Atom):je .atom 1 m=m.k:=rfl
theorem aaZ (m:Atom):nH .atom 2 .mono m=m.x:=rfl
theorem aa0 (m:Atom):nH .atom 3 .mono m=m.y:=rfl
theorem alj (n:Int):je .i64 0 n=n:=rfl
theorem amV (n:Int):je .u8 0 n=n:=rfl
theorem aa1 (x):Co.mk .mono x=⟨x.1,x.2.1⟩:=rfl
theorem aa2 (x):Co.mk .poly x=x.1:=rfl
theorem ahG (x):Co.mk .tab x=x.1:=rfl
theorem aa3 (x):Co.mk .ints x=x.1:=rfl
theorem ahH (x):Co.mk .i64 x=x.1:=rfl
theorem aa4 (x):Co.mk .atom x=⟨x.1,x.2.1,x.2.2.1,x.2.2.2.1⟩:=rfl
theorem aA {α ρ:Type} {f:α→(α ⊕ ρ→Prop)→Prop} {x:α} {Q:ρ→Prop} (I:α→Prop) (μ:α→Nat) (h0:I x) (hs:∀y,I y→f y (BR (fun z _=>I z∧μ z<μ y) Q)):QW f x Q:=⟨I,μ,h0,hs⟩
theorem Wy {α ρ:Type} (k:α→(ρ→Prop)→Prop) (Q:ρ→Prop) (x:α):BR k Q (.inl x)=k x Q:=rfl
theorem Wz {α ρ:Type} (k:α→(ρ→Prop)→Prop) (Q:ρ→Prop) (r:ρ):BR k Q (.inr r)=Q r:=rfl
theorem getD_lt {α:Type} {xs:List α} {d:α} {i:Nat} (h:i<xs.length):xs.getD i d=xs[i]:=by simp [List.getD,h]
theorem kQ {α:Type} {xs:List α} {d:α} {i:Int} (h0:0≤i) (h:i<xs.length):xs.getD i.toNat d∈xs:=by
  rw [getD_lt (by omega)];exact List.getElem_mem _
theorem RR:(∀(x y:Int),aZ BinOp.lss x y=decide (x<y))∧(∀(x y:Int),aZ BinOp.leq x y=decide (x≤y))∧(∀(x y:Int),aZ BinOp.gtr x y=decide (y<x))∧(∀(x y:Int),aZ BinOp.geq x y=decide (y≤x))∧(∀(x y:Int),aZ BinOp.eql x y=decide (x=y))∧(∀(x y:Int),aZ BinOp.neq x y= !decide (x=y))∧(∀(k:IntKind) (x y:Int),iR BinOp.add k x y=k.wrap (x+y))∧(∀(k:IntKind) (x y:Int),iR BinOp.sub k x y=k.wrap (x-y))∧(∀(k:IntKind) (x y:Int),iR BinOp.mul k x y=k.wrap (x*y))∧(∀(k:IntKind) (x y:Int),iR BinOp.quo k x y=k.wrap (x.tdiv y))∧(∀(k:IntKind) (x y:Int),iR BinOp.rem k x y=x.tmod y)∧(∀ {x:Int}, -9223372036854775808≤x→x≤9223372036854775807→IntKind.i64.wrap x=x)∧(∀(m:aj),je Co.mono 0 m=m.iw)∧(∀(m:aj),nH Co.mono 1 Co.i64 m=m.atoms)∧(∀(p:List aj),nH Co.poly 0 Co.mono p=p)∧(∀(p:List Atom),nH Co.tab 0 Co.atom p=p)∧(∀(p:List Int),nH Co.ints 0 Co.i64 p=p)∧(∀(m:Atom),je Co.atom 0 m=m.kind)∧(∀(m:Atom),je Co.atom 1 m=m.k)∧(∀(m:Atom),nH Co.atom 2 Co.mono m=m.x)∧(∀(m:Atom),nH Co.atom 3 Co.mono m=m.y)∧(∀(n:Int),je Co.i64 0 n=n)∧(∀(n:Int),je Co.u8 0 n=n)∧(∀(x:gU Co.mono.vC),Co.mono.mk x=aj.mk x.fst x.snd.fst)∧(∀(x:gU Co.poly.vC),Co.poly.mk x=x.fst)∧(∀(x:gU Co.tab.vC),Co.tab.mk x=x.fst)∧(∀(x:gU Co.ints.vC),Co.ints.mk x=x.fst)∧(∀(x:gU Co.i64.vC),Co.i64.mk x=x.fst)∧(∀(x:gU Co.atom.vC),Co.atom.mk x=Atom.mk x.fst x.snd.fst x.snd.snd.fst x.snd.snd.snd.fst)∧(∀ {α ρ:Type} (k:α→(ρ→Prop)→Prop) (Q:ρ→Prop) (x:α),BR k Q (Sum.inl x)=k x Q)∧(∀ {α ρ:Type} (k:α→(ρ→Prop)→Prop) (Q:ρ→Prop) (r:ρ),BR k Q (Sum.inr r)=Q r)∧(∀(c f:Bool),(bif c then true else f)=(c || f))∧(∀(c t:Bool),(bif c then t else false)=(c&&t))∧(∀(c f:Bool),(bif c then false else f)=(!c&&f))∧(∀(c t:Bool),(bif c then t else true)=(!c || t))∧(∀(a b:Bool),((a || b)=true)=(a=true∨b=true))∧(∀ {x y:Bool},(x || y)=false↔x=false∧y=false)∧(∀(a b:Bool),((a&&b)=true)=(a=true∧b=true))∧(∀ {p:Prop} [inst:Decidable p],(decide p=true)=p)∧(∀ {p:Prop} {x:Decidable p},decide p=false↔¬p)∧(∀(b:Bool),((!b)=true)=(b=false))∧(∀(b:Bool),((!b)=false)=(b=true))∧(∀(b:Bool),(!!b)=b)∧(∀(p:Prop),(True∧p)=p)∧(∀(p:Prop),(p∧True)=p)∧(∀ {α:Type} [inst:LE α] {x y:α},x≥y↔y≤x)∧(¬True)=False∧(¬False)=True∧(false=true)=False∧(true=false)=False∧(∀(p:Prop),(False→p)=True)∧(∀(p:Prop),(True→p)=p)∧(∀(α:Prop),(α→True)=True)∧(∀(α:Type),(∀(a:α),True)=True)∧(∀(p:Prop),(False∨p)=p)∧(∀(p:Prop),(p∨False)=p)∧(∀(p:Prop),(True∨p)=True)∧(∀(p:Prop),(p∨True)=True)∧(∀ {α:Type} {x:Decidable True} (t e:α),(if True then t else e)=t)∧∀ {α:Type} {x:Decidable False} (t e:α),(if False then t else e)=e:=And.intro (@ahv)<| And.intro (@ahw)<| And.intro (@ahx)<| And.intro (@ahy)<| And.intro (@ahz)<| And.intro (@ahA)<| And.intro (@ahB)<| And.intro (@Ww)<| And.intro (@ahC)<| And.intro (@ahD)<| And.intro (@Wx)<| And.intro (@w64)<| And.intro (@aaV)<| And.intro (@aaW)<| And.intro (@ahE)<| And.intro (@ali)<| And.intro (@ahF)<| And.intro (@aaX)<| And.intro (@aaY)<| And.intro (@aaZ)<| And.intro (@aa0)<| And.intro (@alj)<| And.intro (@amV)<| And.intro (@aa1)<| And.intro (@aa2)<| And.intro (@ahG)<| And.intro (@aa3)<| And.intro (@ahH)<| And.intro (@aa4)<| And.intro (@Wy)<| And.intro (@Wz)<| And.intro (@Bool.cond_true_left)<| And.intro (@Bool.cond_false_right)<| And.intro (@Bool.cond_false_left)<| And.intro (@Bool.cond_true_right)<| And.intro (@Bool.or_eq_true)<| And.intro (@Bool.or_eq_false_iff)<| And.intro (@Bool.and_eq_true)<| And.intro (@decide_eq_true_eq)<| And.intro (@decide_eq_false_iff_not)<| And.intro (@Bool.not_eq_true')<| And.intro (@Bool.not_eq_false')<| And.intro (@Bool.not_not)<| And.intro (@true_and)<| And.intro (@and_true)<| And.intro (@ge_iff_le.{0})<| And.intro (@not_true_eq_false)<| And.intro (@not_false_eq_true)<| And.intro (@Bool.false_eq_true)<| And.intro (@Bool.true_eq_false)<| And.intro (@false_implies)<| And.intro (@true_implies)<| And.intro (@implies_true.{0})<| And.intro (@implies_true.{1})<| And.intro (@false_or)<| And.intro (@or_false)<| And.intro (@true_or)<| And.intro (@or_true)<| And.intro (@if_true.{1})<| @if_false.{1}
end Go.TX
namespace Go.TX.F
open Go Go.AE Go.TX
def inB (a lo hi:Int):Bool:=decide (lo≤a)&&decide (a≤hi)
theorem abX (a b c:Int):LJ (std 0) (a,b,c,()) (fun y=>y=(inB a b c,())):=by
  dsimp only [LJ,Alg.cl,Alg.cg,Alg.rb,Alg.bd,Alg.l1,Tup.q,Tup.o]
  simp (disch:=omega) only [RR]
  rfl
theorem abY {p:Int×Int×Int×Unit→Bool} {f:Int×Int×Int×Unit→Bool×Unit} (hp:∀a b c,p (a,b,c,())=true) (hf:∀a b c,f (a,b,c,())=(inB a b c,())) (a:Int):Md (std 0) p f (a,()) (fun y=>y=(inB a 0 65535,())):=by
  dsimp only [Md,Alg.cl,Alg.cg,Alg.rb,Alg.bd,Alg.l1,Tup.q,Tup.o]
  simp (disch:=omega) only [RR,hp,hf]
theorem abZ {p:Int×Int×Int×Unit→Bool} {f:Int×Int×Int×Unit→Bool×Unit} (hp:∀a b c,p (a,b,c,())=true) (hf:∀a b c,f (a,b,c,())=(inB a b c,())) (a:Int):Mj (std 0) p f (a,()) (fun y=>y=(inB a 1 5,())):=by
  dsimp only [Mj,Alg.cl,Alg.cg,Alg.rb,Alg.bd,Alg.l1,Tup.q,Tup.o]
  simp (disch:=omega) only [RR,hp,hf]
theorem ab0 {p:Int×Int×Int×Unit→Bool} {f:Int×Int×Int×Unit→Bool×Unit} (hp:∀a b c,p (a,b,c,())=true) (hf:∀a b c,f (a,b,c,())=(inB a b c,())) (a:Int):Mk (std 0) p f (a,()) (fun y=>y=(inB a 0 3,())):=by
  dsimp only [Mk,Alg.cl,Alg.cg,Alg.rb,Alg.bd,Alg.l1,Tup.q,Tup.o]
  simp (disch:=omega) only [RR,hp,hf]
theorem alk (a:Int):VB (std 0) (a,()) (fun y=>y=(false,())):=by
  dsimp only [VB,Alg.cl,Alg.cg,Alg.rb,Alg.bd,Alg.l1,Tup.q,Tup.o]
  simp (disch:=omega) only [RR]
  simp
def mG (a b:Int):Int:=if a<b then-1 else if b<a then 1 else 0
theorem alm {p:Int×Unit→Bool} {f:Int×Unit→Bool×Unit} (hp:∀a,p (a,())=true) (hf:∀a,f (a,())=(false,())) (a b:Int):VD (std 0) p f (a,b,()) (fun y=>y=(mG a b,())):=by
  dsimp only [VD,Alg.cl,Alg.cg,Alg.rb,Alg.bd,Alg.l1,Tup.q,Tup.o]
  simp (disch:=omega) only [RR,hp,hf]
  unfold mG
  refine⟨fun h=>by simp [h],fun h=>⟨fun h2=>by simp [h,h2],fun h2=>by simp [h,h2]⟩⟩
theorem aln {p:Int×Unit→Bool} {f:Int×Unit→Bool×Unit} (hp:∀a,p (a,())=true) (hf:∀a,f (a,())=(false,())) (a b:Int):VH (std 0) p f (a,b,()) (fun y=>y=(decide (a<b),())):=by
  dsimp only [VH,Alg.cl,Alg.cg,Alg.rb,Alg.bd,Alg.l1,Tup.q,Tup.o]
  simp (disch:=omega) only [RR,hp,hf]
  simp
def or2 (a b:Int):Int:=if a≠0 then a else b
theorem alo (a b:Int):VG (std 0) ([a,b],()) (fun y=>y=(or2 a b,())):=by
  dsimp only [VG,Alg.cl,Alg.cg,Alg.rb,Alg.bd,Alg.l1,Tup.q,Tup.o]
  refine aA (fun(y:Int×List Int×Int×Int×Unit)=>y.1=0∧y.2.1=[a,b]∧y.2.2.1=2∧0≤y.2.2.2.1∧y.2.2.2.1≤2∧(0<y.2.2.2.1→a=0)∧(1<y.2.2.2.1→b=0)) (fun y=>(2-y.2.2.2.1).toNat) ⟨rfl,rfl,rfl,by simp,by simp,fun h=>absurd h (by simp),fun h=>absurd h (by simp)⟩ ?_
  rintro⟨(z:Int),(l:List Int),(n:Int),(i:Int),⟨⟩⟩ hI
  dsimp only at hI ⊢
  obtain⟨rfl,rfl,rfl,h1,h2,h3,h4⟩:=hI
  simp (disch:=omega) only [RR]
  have hi:i=0∨i=1∨i=2:=by omega
  rcases hi with rfl | rfl | rfl
  · by_cases ha:a=0<;>simp [or2,ha]<;>(try omega)
  · have:=h3 (by omega)
    by_cases hb:b=0<;>simp [or2,this,hb]<;>(try omega)
  · have:=h3 (by omega)
    have:=h4 (by omega)
    simp [or2, *]
def kg:List Int→List Int→Int
  | [],[]=>0
  | [],_::_=> -1
  | _::_,[]=>1
  | a::az,b::bs=>if mG a b≠0 then mG a b else kg az bs
theorem Ii (a b:List Int) (i:Nat):(h1:i<a.length)→(h2:i<b.length)→kg (a.drop i) (b.drop i)=if mG a[i] b[i]≠0 then mG a[i] b[i]else kg (a.drop (i+1)) (b.drop (i+1)):=by
  intro h1 h2
  rw [List.drop_eq_getElem_cons h1,List.drop_eq_getElem_cons h2];rfl
theorem WA (l:List Int) (h:l≠ []):kg l []=1:=by cases l<;>simp_all [kg]
theorem ab1 {p:Int×Int×Unit→Bool} {f:Int×Int×Unit→Int×Unit} (hp:∀a b,p (a,b,())=true) (hf:∀a b,f (a,b,())=(mG a b,())) (a b:List Int) (ha:a.length<1000000000):
    LG (std 0) p f (a,b,()) (fun y=>y=(kg a b,())):=by
  dsimp only [LG,Alg.cl,Alg.cg,Alg.rb,Alg.bd,Alg.l1,Tup.q,Tup.o]
  refine aA (fun(y:List Int×List Int×List Int×Int×Int×Unit)=>y.1=a∧y.2.1=b∧y.2.2.1=a∧y.2.2.2.1=a.length∧0≤y.2.2.2.2.1∧y.2.2.2.2.1≤a.length∧y.2.2.2.2.1≤b.length∧kg a b=kg (a.drop y.2.2.2.2.1.toNat) (b.drop y.2.2.2.2.1.toNat))
    (fun y=>(a.length-y.2.2.2.2.1).toNat) ⟨rfl,rfl,rfl,rfl,by simp,by simp,by simp,by simp⟩ ?_
  rintro⟨(l1:List Int),(l2:List Int),(l3:List Int),(n:Int),(i:Int),⟨⟩⟩ hI
  dsimp only at hI ⊢
  obtain⟨rfl,rfl,rfl,rfl,h1,h2,h3,h4⟩:=hI
  simp (disch:=omega) only [RR,hp,hf]
  refine⟨fun hi=>⟨h1,hi,fun hj=> ?_,fun hj=>⟨h1,by omega,fun hc=> ?_,fun hc=> ?_⟩⟩,fun hi=>⟨fun hj=> ?_,fun hj=> ?_⟩⟩
  · rw [h4,List.drop_eq_nil_of_le (show l2.length≤i.toNat by omega),WA _ (by simp;omega)]
  · rw [h4,Ii l3 l2 i.toNat (by omega) (by omega)]
    rw [getD_lt (by omega),getD_lt (by omega)]at hc
    rw [getD_lt (by omega),getD_lt (by omega),if_pos hc]
  · rw [getD_lt (by omega),getD_lt (by omega)]at hc
    refine⟨⟨by omega,by omega,by omega,?_⟩,by omega⟩
    rw [h4,Ii l3 l2 i.toNat (by omega) (by omega),if_neg (by simpa using hc),show(i+1).toNat=i.toNat+1 by omega]
  · rw [h4,List.drop_eq_nil_of_le (show l3.length≤i.toNat by omega)]
    have:∃q r,l2.drop i.toNat=q::r:=by
      cases hq:l2.drop i.toNat with
      | nil=>have:=congrArg List.length hq;simp at this;omega
      | cons q r=>exact⟨q,r,rfl⟩
    obtain⟨q,r,hq⟩:=this
    rw [hq];rfl
  · rw [h4,List.drop_eq_nil_of_le (show l3.length≤i.toNat by omega),List.drop_eq_nil_of_le (show l2.length≤i.toNat by omega)];rfl
def fQ (a b:List Int):Int:=or2 (mG a.length b.length) (kg a b)
theorem ab2 {p1:Int×Int×Unit→Bool} {f1:Int×Int×Unit→Int×Unit} (hp1:∀a b,p1 (a,b,())=true) (hf1:∀a b,f1 (a,b,())=(mG a b,()))
    {p2:List Int×List Int×Unit→Bool} {f2:List Int×List Int×Unit→Int×Unit} (hp2:∀a b,a.length<1000000000→p2 (a,b,())=true) (hf2:∀a b,a.length<1000000000→f2 (a,b,())=(kg a b,()))
    {p3:List Int×Unit→Bool} {f3:List Int×Unit→Int×Unit} (hp3:∀a b,p3 ([a,b],())=true) (hf3:∀a b,f3 ([a,b],())=(or2 a b,())) (a b:List Int) (ha:a.length<1000000000):
    LH (std 0) p3 f3 p1 f1 p2 f2 (a,b,()) (fun y=>y=(fQ a b,())):=by
  dsimp only [LH,Alg.cl,Alg.cg,Alg.rb,Alg.bd,Alg.l1,Tup.q,Tup.o]
  simp (disch:=omega) only [RR,hp1,hf1,hp2 a b ha,hf2 a b ha,hp3,hf3]
  rfl
end Go.TX.F
namespace Go.TX.F
open Go Go.AE Go.TX
noncomputable def bp (P:Prop):Bool:= @decide P (Classical.propDecidable P)
theorem iA {P:Prop} (h:P):bp P=true:=by simp [bp,h]
theorem iI {P:Prop} (h:¬P):bp P=false:=by simp [bp,h]
theorem bX {P:Prop}:bp P=true↔P:=by simp [bp]
theorem uj {P:Prop}:bp P=false↔¬P:=by simp [bp]
theorem um {P Q:Prop}:bp (P∧Q)=(bp P&&bp Q):=by by_cases h1:P<;>by_cases h2:Q<;>simp [bp,h1,h2]
theorem uo {P Q:Prop} (h:P↔Q):bp P=bp Q:=by simp [bp,h]
def All (n:Int) (G:Int→Prop):Prop:=∀j,0≤j→j<n→G j
theorem All.zero {G:Int→Prop}:All 0 G:=fun j h1 h2=>absurd h2 (by omega)
theorem All.snoc {n:Int} {G:Int→Prop} (h:All n G) (hi:G n):All (n+1) G:=fun j h1 h2=>by
  by_cases hj:j=n
  · exact hj▸hi
  · exact h j h1 (by omega)
theorem All.le {n m:Int} {G:Int→Prop} (h:All n G) (hi:m≤n):All m G:=fun j h1 h2=>h j h1 (by omega)
def Idx (n:Int) (G:Int→Prop) (r:Int):Prop:=(r= -1∧All n (fun j=>¬G j))∨(0≤r∧r<n∧G r∧All r (fun j=>¬G j))
theorem Idx.ge {n:Int} {G:Int→Prop} {r:Int} (h:Idx n G r):(0≤r)↔¬All n (fun j=>¬G j):=by
  rcases h with⟨rfl,h⟩ | ⟨h1,h2,h3,h4⟩
  · simp [h]
  · simp only [h1,true_iff];exact fun h=>h r h1 h2 h3
def Srt (l:List Int):Prop:=All (l.length-1) (fun i=>l.getD i.toNat default≤l.getD (i+1).toNat default)
theorem WB {p:Int×Int×Unit→Bool} {f:Int×Int×Unit→Bool×Unit} (hp:∀a b,p (a,b,())=true) (hf:∀a b,f (a,b,())=(decide (a<b),())) (a:List Int) (ha:a.length<1000000000):
    E9 (std 0) p f (a,()) (fun y=>y=(bp (Srt a),())):=by
  dsimp only [E9,Alg.cl,Alg.cg,Alg.rb,Alg.bd,Alg.l1,Tup.q,Tup.o]
  simp (disch:=omega) only [RR,hp,hf]
  refine aA (fun(y:List Int×Int×Unit)=>y.1=a∧ -1≤y.2.1∧y.2.1≤a.length-1∧∀j,y.2.1≤j→0≤j→j< (a.length:Int)-1→a.getD j.toNat default≤a.getD (j+1).toNat default) (fun y=>(y.2.1+1).toNat) ⟨rfl,by simp;omega,by simp,by simp;omega⟩ ?_
  rintro⟨(l:List Int),(i:Int),⟨⟩⟩ hI
  dsimp only at hI ⊢
  obtain⟨rfl,h1,h2,h3⟩:=hI
  simp (disch:=omega) only [RR,hp,hf]
  refine⟨fun h4=>⟨by omega,by omega,by omega,by omega,fun h5=> ?_,fun h5=>⟨⟨by omega,by omega,fun j h6 h7 h8=> ?_⟩,by omega⟩⟩,fun h4=> ?_⟩
  · rw [iI]
    intro h;have:=h (i-1) (by omega) (by omega)
    dsimp only at this
    rw [show i-1+1=i by omega]at this;omega
  · by_cases hj:j=i-1
    · subst hj;rw [show i-1+1=i by omega];omega
    · exact h3 j (by omega) h7 h8
  · rw [iA]
    exact fun j h6 h7=>h3 j (by omega) h6 h7
theorem ab3 (a n:Int):LK (std 0) (a,n,()) (fun y=>y=(decide (n≤a),n,())):=by
  dsimp only [LK,Alg.cl,Alg.cg,Alg.rb,Alg.bd,Alg.l1,Tup.q,Tup.o]
  simp (disch:=omega) only [RR]
theorem WE {p:Int×Int×Unit→Bool} {f:Int×Int×Unit→Bool×Int×Unit} (hp:∀a b,p (a,b,())=true) (hf:∀a b,f (a,b,())=(decide (b≤a),b,())) (a:List Int) (n:Int) (ha:a.length<1000000000):
    Fa (std 0) p f (a,n,()) (fun y=>Idx a.length (fun i=>n≤a.getD i.toNat default) y.1∧y.2.1=n):=by
  dsimp only [Fa,Alg.cl,Alg.cg,Alg.rb,Alg.bd,Alg.l1,Tup.q,Tup.o]
  refine aA (fun(y:List Int×Int×Int×Int×Unit)=>y.1=a∧y.2.1=a.length∧y.2.2.2.1=n∧0≤y.2.2.1∧y.2.2.1≤a.length∧All y.2.2.1 (fun i=>¬n≤a.getD i.toNat default)) (fun y=>(a.length-y.2.2.1).toNat) ⟨rfl,rfl,rfl,by simp,by simp,All.zero⟩ ?_
  rintro⟨(l:List Int),(m:Int),(i:Int),(n':Int),⟨⟩⟩ hI
  dsimp only at hI ⊢
  obtain⟨rfl,rfl,rfl,h1,h2,h3⟩:=hI
  simp (disch:=omega) only [RR,hp,hf]
  refine⟨fun h4=>⟨by omega,by omega,fun h5=> ?_,fun h5=>⟨⟨by omega,by omega,h3.snoc h5⟩,by omega⟩⟩,fun h4=> ?_⟩
  · exact Or.inr ⟨by omega,by omega,h5,h3⟩
  · exact Or.inl ⟨rfl,h3.le (by omega)⟩
theorem WG {p:List Int×Int×Unit→Bool} {f:List Int×Int×Unit→Int×Int×Unit} (hp:∀a b,a.length<1000000000→p (a,b,())=true)
    (hf:∀a n,a.length<1000000000→Idx a.length (fun i=>n≤a.getD i.toNat default) (f (a,n,())).1∧(f (a,n,())).2.1=n) (a:List Int) (n:Int) (ha:a.length<1000000000):
    Fb (std 0) p f (a,n,()) (fun y=>y=(bp (¬All a.length (fun i=>¬n≤a.getD i.toNat default)),n,())):=by
  obtain⟨h1,h2⟩:=hf a n ha
  dsimp only [Fb,Alg.cl,Alg.cg,Alg.rb,Alg.bd,Alg.l1,Tup.q,Tup.o]
  simp (disch:=omega) only [RR,hp a n ha,h2]
  rw [show decide ((0:Int)≤(f (a,n,())).1)=bp (¬All a.length (fun i=>¬n≤a.getD i.toNat default))from ?_]
  rw [←uo h1.ge];simp [bp]
def Pb (n:Int) (m:aj):Prop:=All m.atoms.length (fun i=>¬n≤m.atoms.getD i.toNat default)
def bf (p:List aj) (n:Int):Prop:=All p.length (fun i=>Pb n (p.getD i.toNat default))
def Sh (p:List aj):Prop:=p.length<1000000000∧∀m∈p,m.atoms.length<1000000000
theorem Sh.at {p:List aj} (h:Sh p) (n:Nat):(p.getD n default).atoms.length<1000000000:=by
  by_cases h1:n<p.length
  · rw [getD_lt h1];exact h.2 _ (List.getElem_mem _)
  · simp only [List.getD,List.getElem?_eq_none (by omega:p.length≤n)];decide
theorem ab4 {p:List Int×Int×Unit→Bool} {f:List Int×Int×Unit→Bool×Int×Unit} (hp:∀a b,a.length<1000000000→p (a,b,())=true)
    (hf:∀a n,a.length<1000000000→f (a,n,())=(bp (¬All a.length (fun i=>¬n≤a.getD i.toNat default)),n,())) (a:List aj) (n:Int) (ha:Sh a):
    LM (std 0) p f (a,n,()) (fun y=>y=(bp (bf a n),())):=by
  have hlen:=ha.1
  dsimp only [LM,Alg.cl,Alg.cg,Alg.rb,Alg.bd,Alg.l1,Tup.q,Tup.o]
  refine aA (fun(y:List aj×Int×Int×Int×Unit)=>y.1=a∧y.2.1=a.length∧y.2.2.2.1=n∧0≤y.2.2.1∧y.2.2.1≤a.length∧All y.2.2.1 (fun i=>Pb n (a.getD i.toNat default))) (fun y=>(a.length-y.2.2.1).toNat) ⟨rfl,rfl,rfl,by simp,by simp,All.zero⟩ ?_
  rintro⟨(l:List aj),(m:Int),(i:Int),(n':Int),⟨⟩⟩ hI
  dsimp only at hI ⊢
  obtain⟨rfl,rfl,rfl,h1,h2,h3⟩:=hI
  simp (disch:=omega) only [RR]
  refine⟨fun h4=> ?_,fun h4=> ?_⟩
  · have h5:=ha.at i.toNat
    rw [hp _ _ h5,hf _ _ h5]
    refine⟨by omega,by omega,rfl,fun h6=> ?_,fun h6=>⟨⟨rfl,by omega,by omega,h3.snoc ?_⟩,by omega⟩⟩
    · rw [iI (fun h=> ?_)]
      exact bX.1 h6 (h i h1 h4)
    · exact Classical.byContradiction (fun h=>uj.1 h6 h)
  · rw [iA (show bf l n' from h3.le (by omega))]
theorem ab5 (m:aj):LP (std 0) (m,()) (fun y=>y=(bp (0<m.atoms.length∧m.atoms.getD 0 default<0),())):=by
  dsimp only [LP,Alg.cl,Alg.cg,Alg.rb,Alg.bd,Alg.l1,Tup.q,Tup.o]
  simp (disch:=omega) only [RR]
  refine⟨by omega,by omega,?_⟩
  rw [um]
  by_cases h1:0<m.atoms.length
  · by_cases h2:m.atoms.getD 0 default<0
    · rw [iA h1,iA h2,show Int.toNat 0=0 from rfl,decide_eq_true h2,decide_eq_true (by omega)]
    · rw [iA h1,iI h2,show Int.toNat 0=0 from rfl,decide_eq_false h2,Bool.and_false,Bool.and_false]
  · rw [iI h1,decide_eq_false (by omega),Bool.false_and,Bool.false_and]
theorem WH {p:aj×Unit→Bool} {f:aj×Unit→Bool×Unit} (G:aj→Prop) (hp:∀a,p (a,())=true) (hf:∀a,f (a,())=(bp (G a),())) (a:List aj) (ha:a.length<1000000000):
    Fe (std 0) p f (a,()) (fun y=>Idx a.length (fun i=>G (a.getD i.toNat default)) y.1):=by
  dsimp only [Fe,Alg.cl,Alg.cg,Alg.rb,Alg.bd,Alg.l1,Tup.q,Tup.o]
  refine aA (fun(y:List aj×Int×Int×Unit)=>y.1=a∧y.2.1=a.length∧0≤y.2.2.1∧y.2.2.1≤a.length∧All y.2.2.1 (fun i=>¬G (a.getD i.toNat default))) (fun y=>(a.length-y.2.2.1).toNat) ⟨rfl,rfl,by simp,by simp,All.zero⟩ ?_
  rintro⟨(l:List aj),(m:Int),(i:Int),⟨⟩⟩ hI
  dsimp only at hI ⊢
  obtain⟨rfl,rfl,h1,h2,h3⟩:=hI
  simp (disch:=omega) only [RR,hp,hf]
  refine⟨fun h4=>⟨by omega,by omega,fun h5=> ?_,fun h5=>⟨⟨by omega,by omega,h3.snoc (uj.1 h5)⟩,by omega⟩⟩,fun h4=> ?_⟩
  · exact Or.inr ⟨by omega,by omega,bX.1 h5,h3⟩
  · exact Or.inl ⟨rfl,h3.le (by omega)⟩
theorem WI {p:List aj×Unit→Bool} {f:List aj×Unit→Int×Unit} (G:aj→Prop) (hp:∀a,a.length<1000000000→p (a,())=true)
    (hf:∀a,a.length<1000000000→Idx a.length (fun i=>G (a.getD i.toNat default)) (f (a,())).1) (a:List aj) (ha:a.length<1000000000):
    Fg (std 0) p f (a,()) (fun y=>y=(bp (¬All a.length (fun i=>¬G (a.getD i.toNat default))),())):=by
  have h1:=hf a ha
  dsimp only [Fg,Alg.cl,Alg.cg,Alg.rb,Alg.bd,Alg.l1,Tup.q,Tup.o]
  simp (disch:=omega) only [RR,hp a ha]
  rw [show decide ((0:Int)≤(f (a,())).1)=bp (¬All a.length (fun i=>¬G (a.getD i.toNat default)))from ?_]
  rw [←uo h1.ge];simp [bp]
def mOk (m:aj):Prop:=(1≤m.iw∧m.iw≤65535)∧m.atoms.length≤4∧Srt m.atoms
def aX (p:List aj):Prop:=All p.length (fun i=>mOk (p.getD i.toNat default)∧(0<i→fQ (p.getD (i-1).toNat default).atoms (p.getD i.toNat default).atoms<0))∧p.length≤12∧bf p 200
  ∧All p.length (fun i=>¬(0< (p.getD i.toNat default).atoms.length∧(p.getD i.toNat default).atoms.getD 0 default<0))
theorem ab6 {p1:Int×Int×Int×Unit→Bool} {f1:Int×Int×Int×Unit→Bool×Unit} (hp1:∀a b c,p1 (a,b,c,())=true) (hf1:∀a b c,f1 (a,b,c,())=(inB a b c,()))
    {p2:List aj×Int×Unit→Bool} {f2:List aj×Int×Unit→Bool×Unit} (hp2:∀a n,Sh a→p2 (a,n,())=true) (hf2:∀a n,Sh a→f2 (a,n,())=(bp (bf a n),()))
    {p3:List Int×Unit→Bool} {f3:List Int×Unit→Bool×Unit} (hp3:∀a,a.length<1000000000→p3 (a,())=true) (hf3:∀a,a.length<1000000000→f3 (a,())=(bp (Srt a),()))
    {p4:List Int×List Int×Unit→Bool} {f4:List Int×List Int×Unit→Int×Unit} (hp4:∀a b,a.length<1000000000→p4 (a,b,())=true) (hf4:∀a b,a.length<1000000000→f4 (a,b,())=(fQ a b,()))
    {p5:List aj×Unit→Bool} {f5:List aj×Unit→Bool×Unit} (hp5:∀a,a.length<1000000000→p5 (a,())=true) (hf5:∀a,a.length<1000000000→f5 (a,())=(bp (¬All a.length (fun i=>¬(0< (a.getD i.toNat default).atoms.length∧(a.getD i.toNat default).atoms.getD 0 default<0))),()))
    (a:List aj) (ha:Sh a):LQ (std 0) p1 f1 p2 f2 p3 f3 p4 f4 p5 f5 (a,()) (fun y=>y=(bp (aX a),())):=by
  have hlen:=ha.1
  dsimp only [LQ,Alg.cl,Alg.cg,Alg.rb,Alg.bd,Alg.l1,Tup.q,Tup.o]
  refine aA (fun(y:List aj×Int×Int×List aj×Unit)=>y.1=a∧y.2.1=a.length∧y.2.2.2.1=a∧0≤y.2.2.1∧y.2.2.1≤a.length∧All y.2.2.1 (fun i=>mOk (a.getD i.toNat default)∧(0<i→fQ (a.getD (i-1).toNat default).atoms (a.getD i.toNat default).atoms<0))) (fun y=>(a.length-y.2.2.1).toNat) ⟨rfl,rfl,rfl,by simp,by simp,All.zero⟩ ?_
  rintro⟨(l:List aj),(m:Int),(i:Int),(l':List aj),⟨⟩⟩ hI
  dsimp only at hI ⊢
  obtain⟨rfl,rfl,rfl,h1,h2,h3⟩:=hI
  simp (disch:=omega) only [RR,hp1,hf1,hp2 l' _ ha,hf2 l' _ ha,hp5 l' hlen,hf5 l' hlen]
  refine⟨fun h4=> ?_,fun h4=> ?_⟩
  · simp (disch:=omega) only [RR,hp3 _ (ha.at _),hf3 _ (ha.at _),hp4 _ _ (ha.at _),hf4 _ _ (ha.at _),bX,uj,inB]
    refine⟨by omega,by omega,by by_cases h:i≤0<;>simp [h]<;>omega,by omega,fun h5=> ?_,fun h5=>⟨⟨by omega,by omega,h3.snoc ?_⟩,by omega⟩⟩
    · rw [iI (fun h=> ?_)]
      have:=h.1 i h1 h4
      dsimp only [mOk]at this
      obtain⟨⟨h6,h7,h8⟩,h9⟩:=this
      rcases h5 with((h5 | h5) | h5) | ⟨h5,h10⟩
      · simp [-List.getD_eq_getElem?_getD]at h5;omega
      · omega
      · exact h5 h8
      · have:=h9 h5;omega
    · refine⟨⟨by omega,by omega,h5.1.2⟩,fun h6=> ?_⟩
      have:=h5.2;simp only [decide_eq_true h6,Bool.true_and,decide_eq_false_iff_not]at this;omega
  · unfold aX
    rw [show All (↑l'.length) (fun i=>mOk (l'.getD i.toNat default)∧(0<i→fQ (l'.getD (i-1).toNat default).atoms (l'.getD i.toNat default).atoms<0))=True from eq_true (h3.le (by omega))]
    rw [true_and,um,um,Bool.and_assoc]
    refine congrArg (fun b=>(b,())) ?_
    congr 1
    · by_cases h:l'.length≤12<;>simp [bp,h]<;>omega
    · congr 1
      simp [bp]
def Nr (a b:aj):Int:=or2 (fQ a.atoms b.atoms) (mG a.iw b.iw)
def FW:List aj→List aj→Int
  | a::az,b::bs=>if Nr a b≠0 then Nr a b else FW az bs
  | _,_=>0
def jf (a b:List aj):Int:=if mG a.length b.length≠0 then mG a.length b.length else FW a b
theorem Ij (a b:List aj) (i:Nat):(h1:i<a.length)→(h2:i<b.length)→FW (a.drop i) (b.drop i)=if Nr a[i] b[i]≠0 then Nr a[i] b[i]else FW (a.drop (i+1)) (b.drop (i+1)):=by
  intro h1 h2
  rw [List.drop_eq_getElem_cons h1,List.drop_eq_getElem_cons h2];rfl
theorem ab7 {p1:List Int×Unit→Bool} {f1:List Int×Unit→Int×Unit} (hp1:∀a b,p1 ([a,b],())=true) (hf1:∀a b,f1 ([a,b],())=(or2 a b,()))
    {p2:Int×Int×Unit→Bool} {f2:Int×Int×Unit→Int×Unit} (hp2:∀a b,p2 (a,b,())=true) (hf2:∀a b,f2 (a,b,())=(mG a b,()))
    {p4:List Int×List Int×Unit→Bool} {f4:List Int×List Int×Unit→Int×Unit} (hp4:∀a b,a.length<1000000000→p4 (a,b,())=true) (hf4:∀a b,a.length<1000000000→f4 (a,b,())=(fQ a b,()))
    (a b:List aj) (ha:Sh a):LW (std 0) p1 f1 p2 f2 p4 f4 (a,b,()) (fun y=>y=(jf a b,())):=by
  have hlen:=ha.1
  dsimp only [LW,Alg.cl,Alg.cg,Alg.rb,Alg.bd,Alg.l1,Tup.q,Tup.o]
  simp (disch:=omega) only [RR,hp2,hf2]
  refine⟨fun h=>by rw [jf,if_pos h],fun h=> ?_⟩
  have hl:a.length=b.length:=by unfold mG at h;split at h<;>(try split at h)<;>omega
  rw [show jf a b=FW a b by rw [jf,if_neg (by simp [h])]]
  refine aA (fun(y:List aj×Int×Int×List aj×Unit)=>y.1=a∧y.2.1=a.length∧y.2.2.2.1=b∧0≤y.2.2.1∧y.2.2.1≤a.length∧FW a b=FW (a.drop y.2.2.1.toNat) (b.drop y.2.2.1.toNat)) (fun y=>(a.length-y.2.2.1).toNat) ⟨rfl,rfl,rfl,by simp,by simp,by simp⟩ ?_
  rintro⟨(l:List aj),(m:Int),(i:Int),(l':List aj),⟨⟩⟩ hI
  dsimp only at hI ⊢
  obtain⟨rfl,rfl,rfl,h1,h2,h3⟩:=hI
  simp (disch:=omega) only [RR,hp1,hf1,hp4 _ _ (ha.at _),hf4 _ _ (ha.at _)]
  refine⟨fun h4=>⟨by omega,by omega,by omega,by omega,by omega,by omega,fun h5=> ?_,fun h5=>⟨⟨by omega,by omega,?_⟩,by omega⟩⟩,fun h4=> ?_⟩
  · rw [h3,Ij _ _ _ (by omega) (by omega)]
    rw [getD_lt (by omega),getD_lt (by omega)]at h5 ⊢
    exact((if_pos (c:=Nr l[i.toNat] l'[i.toNat]≠0) h5).trans rfl).symm▸rfl
  · rw [h3,Ij _ _ _ (by omega) (by omega)]
    rw [getD_lt (by omega),getD_lt (by omega)]at h5
    rw [if_neg (show¬(Nr l[i.toNat] l'[i.toNat]≠0)from fun h=>h h5),show(i+1).toNat=i.toNat+1 by omega]
  · rw [h3,List.drop_eq_nil_of_le (by omega)];rfl
theorem ab8 {p1:List aj×List aj×Unit→Bool} {f1:List aj×List aj×Unit→Int×Unit} (hp1:∀a b,Sh a→p1 (a,b,())=true) (hf1:∀a b,Sh a→f1 (a,b,())=(jf a b,())) (a b:List aj) (ha:Sh a):
    L9 (std 0) p1 f1 (a,b,()) (fun y=>y=(decide (jf a b=0),())):=by
  dsimp only [L9,Alg.cl,Alg.cg,Alg.rb,Alg.bd,Alg.l1,Tup.q,Tup.o]
  simp (disch:=omega) only [RR,hp1 a b ha,hf1 a b ha]
end Go.TX.F
namespace Go.TX.F
open Go Go.AE Go.TX
theorem Pf (k:IntKind) (x y:Int):iR .and k x y=qd .and k x y:=rfl
theorem Pg (k:IntKind) (x y:Int):iR .xor k x y=qd .xor k x y:=rfl
theorem WJ (x:Int):qd .and .i64 x 65535=x%65536:=by
  unfold qd
  dsimp only
  rw [BitVec.toNat_and,BitVec.toNat_ofInt,BitVec.toNat_ofInt]
  have h1:((65535:Int)% ((2^IntKind.i64.bits:Nat):Int)).toNat=2^16-1:=by decide
  rw [h1,Nat.and_two_pow_sub_one_eq_mod]
  rw [w64 (by omega) (by omega)]
  have h2:((2^IntKind.i64.bits:Nat):Int)=18446744073709551616:=by decide
  rw [h2]
  omega
theorem ab9 (a:Int):MS (std 0) (a,()) (fun y=>y=(a%65536,())):=by
  dsimp only [MS,Alg.cl,Alg.cg,Alg.rb,Alg.bd,Alg.l1,Tup.q,Tup.o]
  simp (disch:=omega) only [RR,Pf,WJ]
def wdo (op a b:Int):Int:=if(0≤a∧a≤65535)∧(0≤b∧b≤65535)then
  (if op=1 then(a+b)%65536 else if op=2 then(a-b)%65536 else if op=3 then(a*b)%65536 else if op=4 then qd .and .i64 a b else if op=5 then qd .xor .i64 a b else 0)else 0
theorem dV {a b c:Int}:inB a b c=true↔(b≤a∧a≤c):=by simp [inB]
theorem uw {a b c:Int}:inB a b c=false↔¬(b≤a∧a≤c):=by rw [←dV,Bool.not_eq_true]
theorem acd {p1:Int×Unit→Bool} {f1:Int×Unit→Bool×Unit} (hp1:∀a,p1 (a,())=true) (hf1:∀a,f1 (a,())=(inB a 0 65535,()))
    {p2:Int×Unit→Bool} {f2:Int×Unit→Int×Unit} (hp2:∀a,p2 (a,())=true) (hf2:∀a,f2 (a,())=(a%65536,())) (op a b:Int):
    MU (std 0) p1 f1 p2 f2 (op,a,b,()) (fun y=>y=(wdo op a b,())):=by
  dsimp only [MU,Alg.cl,Alg.cg,Alg.rb,Alg.bd,Alg.l1,Tup.q,Tup.o]
  simp (disch:=omega) only [RR,hp1,hf1,hp2,hf2,Pf,Pg,dV,uw]
  by_cases ha:(0≤a∧a≤65535)∧(0≤b∧b≤65535)
  · have hm:0≤a*b∧a*b≤65535*65535:=⟨Int.mul_nonneg ha.1.1 ha.2.1,Int.mul_le_mul ha.1.2 ha.2.2 ha.2.1 (by omega)⟩
    rw [w64 (x:=a+b) (by omega) (by omega),w64 (x:=a-b) (by omega) (by omega),w64 (x:=a*b) (by omega) (by omega)]
    unfold wdo
    rw [if_pos ha]
    refine⟨fun h=>absurd h (by omega),fun _=>⟨fun h=> ?_,fun h=>⟨fun h1=> ?_,fun h1=>⟨fun h2=> ?_,fun h2=>⟨fun h3=> ?_,fun h3=>⟨fun h4=> ?_,fun h4=> ?_⟩⟩⟩⟩⟩⟩<;>(subst_vars;first | rfl | simp only [if_true,if_false, *])
  · refine⟨fun h=> ?_,fun h=>absurd h ?_⟩
    · unfold wdo;rw [if_neg ha]
    · exact ha
def eX (n:Int):List aj:=if 1≤n∧n≤65535 then [⟨n,[]⟩]else []
theorem ace {p1:Int×Int×Int×Unit→Bool} {f1:Int×Int×Int×Unit→Bool×Unit} (hp1:∀a b c,p1 (a,b,c,())=true) (hf1:∀a b c,f1 (a,b,c,())=(inB a b c,())) (a:Int):
    MR (std 0) p1 f1 (a,()) (fun y=>y=(eX a,())):=by
  dsimp only [MR,Alg.cl,Alg.cg,Alg.rb,Alg.bd,Alg.l1,Tup.q,Tup.o]
  simp (disch:=omega) only [RR,hp1,hf1,dV,uw]
  unfold eX
  exact⟨fun h=>by rw [if_neg (by omega)],fun h=>by rw [if_pos (by omega)]⟩
def gT (n:Int):List aj:=if 0≤n∧n≤199 then [⟨1,[n]⟩]else []
theorem acf {p1:Int×Int×Int×Unit→Bool} {f1:Int×Int×Int×Unit→Bool×Unit} (hp1:∀a b c,p1 (a,b,c,())=true) (hf1:∀a b c,f1 (a,b,c,())=(inB a b c,())) (a:Int):
    MK (std 0) p1 f1 (a,()) (fun y=>y=(gT a,())):=by
  dsimp only [MK,Alg.cl,Alg.cg,Alg.rb,Alg.bd,Alg.l1,Tup.q,Tup.o]
  simp (disch:=omega) only [RR,hp1,hf1,dV,uw]
  unfold gT
  exact⟨fun h=>by rw [if_neg (by omega)],fun h=>by rw [if_pos (by omega)]⟩
noncomputable def eY (p:List aj):Int×Bool:=if bp (aX p)then(if p.length=0 then(0,true)else if p.length=1∧(p.getD 0 default).atoms.length=0 then((p.getD 0 default).iw,true)else(0,false))else(0,false)
theorem acg {p1:List aj×Unit→Bool} {f1:List aj×Unit→Bool×Unit} (hp1:∀a,Sh a→p1 (a,())=true) (hf1:∀a,Sh a→f1 (a,())=(bp (aX a),())) (a:List aj) (ha:Sh a):
    LU (std 0) p1 f1 (a,()) (fun y=>y=((eY a).1,(eY a).2,())):=by
  dsimp only [LU,Alg.cl,Alg.cg,Alg.rb,Alg.bd,Alg.l1,Tup.q,Tup.o]
  simp (disch:=omega) only [RR,hp1 a ha,hf1 a ha]
  unfold eY
  refine⟨fun h=> ?_,fun h=>⟨fun h1=> ?_,fun h1=>⟨by omega,by omega,fun h2=>⟨by omega,by omega,?_⟩,fun h2=> ?_⟩⟩⟩
  · rw [if_neg (by simpa using h)]
  · rw [if_pos h,if_pos (by omega)]
  · have h3:=h2.2;rw [show Int.toNat 0=0 from rfl]at h3
    rw [if_pos h,if_neg (by omega),if_pos (show a.length=1∧(a.getD 0 default).atoms.length=0 by omega)];rfl
  · rw [if_pos h,if_neg (by omega),if_neg]
    intro h3
    rw [decide_eq_true (by omega),Bool.true_and,decide_eq_false_iff_not]at h2
    apply h2;rw [show Int.toNat 0=0 from rfl];omega
theorem ach (a:List Int) (ha:a.length≤1073741824):LY (std 0) (a,()) (fun y=>y=(a,())):=by
  dsimp only [LY,Alg.cl,Alg.cg,Alg.rb,Alg.bd,Alg.l1,Tup.q,Tup.o]
  simp (disch:=omega) only [RR]
  omega
theorem ko {α:Type} {l:List α} {i:Int} {d x:α} (h0:0≤i) (h:i<l.length) (e:x=l.getD i.toNat d):l.take i.toNat++ [x]=l.take (i+1).toNat:=by
  rw [e,getD_lt (by omega),show(i+1).toNat=i.toNat+1 by omega,List.take_succ_eq_append_getElem (by omega)]
theorem aci {p1:List Int×Unit→Bool} {f1:List Int×Unit→List Int×Unit} (hp1:∀a,a.length≤1073741824→p1 (a,())=true) (hf1:∀a,a.length≤1073741824→f1 (a,())=(a,())) (a:List aj) (ha:Sh a):
    LZ (std 0) p1 f1 (a,()) (fun y=>y=(a,())):=by
  have hlen:=ha.1
  dsimp only [LZ,Alg.cl,Alg.cg,Alg.rb,Alg.bd,Alg.l1,Tup.q,Tup.o]
  refine aA (fun(y:List aj×Int×Int×List aj×Unit)=>y.1=a∧y.2.1=a.length∧y.2.2.2.1=a.take y.2.2.1.toNat∧0≤y.2.2.1∧y.2.2.1≤a.length) (fun y=>(a.length-y.2.2.1).toNat) ⟨rfl,rfl,by simp,by simp,by simp⟩ ?_
  rintro⟨(l:List aj),(m:Int),(i:Int),(o:List aj),⟨⟩⟩ hI
  dsimp only at hI ⊢
  obtain⟨rfl,rfl,rfl,h1,h2⟩:=hI
  simp (disch:=first | omega | (have:=ha.at i.toNat;omega)) only [RR,hp1,hf1]
  have h3:=ha.at i.toNat
  refine⟨fun h4=>⟨by omega,by omega,?_,⟨ko h1 h4 rfl,by omega,by omega⟩,by omega⟩,fun h4=>by rw [List.take_of_length_le (by omega)]⟩
  have:=List.length_take_le' i.toNat l
  simp only [List.length_cons,List.length_nil];omega
def ShA (a:Atom):Prop:=Sh a.x∧Sh a.y
def ShT (t:List Atom):Prop:=t.length<1000000000∧∀a∈t,ShA a
theorem ShT.at {p:List Atom} (h:ShT p) (n:Nat):ShA (p.getD n default):=by
  by_cases h1:n<p.length
  · rw [getD_lt h1];exact h.2 _ (List.getElem_mem _)
  · simp only [List.getD,List.getElem?_eq_none (by omega:p.length≤n)]
    refine⟨⟨by decide,fun m hm=> ?_⟩,⟨by decide,fun m hm=> ?_⟩⟩<;>exact absurd hm (by simp [default,instInhabitedAtom.default])
theorem acj {p1:List aj×Unit→Bool} {f1:List aj×Unit→List aj×Unit} (hp1:∀a,Sh a→p1 (a,())=true) (hf1:∀a,Sh a→f1 (a,())=(a,())) (a:List Atom) (ha:ShT a):
    Nc (std 0) p1 f1 (a,()) (fun y=>y=(a,())):=by
  have hlen:=ha.1
  dsimp only [Nc,Alg.cl,Alg.cg,Alg.rb,Alg.bd,Alg.l1,Tup.q,Tup.o]
  refine aA (fun(y:List Atom×Int×Int×List Atom×Unit)=>y.1=a∧y.2.1=a.length∧y.2.2.2.1=a.take y.2.2.1.toNat∧0≤y.2.2.1∧y.2.2.1≤a.length) (fun y=>(a.length-y.2.2.1).toNat) ⟨rfl,rfl,by simp,by simp,by simp⟩ ?_
  rintro⟨(l:List Atom),(m:Int),(i:Int),(o:List Atom),⟨⟩⟩ hI
  dsimp only at hI ⊢
  obtain⟨rfl,rfl,rfl,h1,h2⟩:=hI
  simp (disch:=omega) only [RR,hp1 _ (ha.at _).1,hf1 _ (ha.at _).1,hp1 _ (ha.at _).2,hf1 _ (ha.at _).2]
  refine⟨fun h4=>⟨by omega,by omega,?_,⟨ko h1 h4 rfl,by omega,by omega⟩,by omega⟩,fun h4=>by rw [List.take_of_length_le (by omega)]⟩
  have:=List.length_take_le' i.toNat l
  simp only [List.length_cons,List.length_nil];omega
theorem acn {p4:List Int×List Int×Unit→Bool} {f4:List Int×List Int×Unit→Int×Unit} (hp4:∀a b,a.length<1000000000→p4 (a,b,())=true) (hf4:∀a b,a.length<1000000000→f4 (a,b,())=(fQ a b,())) (a b:aj) (ha:a.atoms.length<1000000000):
    MV (std 0) p4 f4 (a,b,()) (fun y=>y=(fQ a.atoms b.atoms,())):=by
  dsimp only [MV,Alg.cl,Alg.cg,Alg.rb,Alg.bd,Alg.l1,Tup.q,Tup.o]
  simp (disch:=omega) only [RR,hp4 a.atoms b.atoms ha,hf4 a.atoms b.atoms ha]
theorem aco (a:List Atom):MI (std 0) (a,()) (fun y=>y=(a,())):=by
  dsimp only [MI,Alg.cl,Alg.cg,Alg.rb,Alg.bd,Alg.l1,Tup.q,Tup.o]
  simp (disch:=omega) only [RR]
  refine⟨by omega,by omega,by omega,?_⟩
  rw [List.take_of_length_le (by omega)];rfl
def uz (a b:Atom):Bool:=decide (a.kind=b.kind)&&decide (a.k=b.k)&&decide (jf a.x b.x=0)&&decide (jf a.y b.y=0)
theorem acp {p1:List aj×List aj×Unit→Bool} {f1:List aj×List aj×Unit→Bool×Unit} (hp1:∀a b,Sh a→p1 (a,b,())=true) (hf1:∀a b,Sh a→f1 (a,b,())=(decide (jf a b=0),())) (a b:Atom) (ha:ShA a):
    Mq (std 0) p1 f1 (a,b,()) (fun y=>y=(uz a b,())):=by
  dsimp only [Mq,Alg.cl,Alg.cg,Alg.rb,Alg.bd,Alg.l1,Tup.q,Tup.o]
  simp (disch:=omega) only [RR,hp1 a.x b.x ha.1,hf1 a.x b.x ha.1,hp1 a.y b.y ha.2,hf1 a.y b.y ha.2]
  rfl
theorem acr {p1:Atom×Atom×Unit→Bool} {f1:Atom×Atom×Unit→Bool×Unit} (hp1:∀a b,ShA a→p1 (a,b,())=true) (hf1:∀a b,ShA a→f1 (a,b,())=(uz a b,())) (a b:Atom) (hb:ShA b):
    Mr (std 0) p1 f1 (a,b,()) (fun y=>y=(uz b a,b,())):=by
  dsimp only [Mr,Alg.cl,Alg.cg,Alg.rb,Alg.bd,Alg.l1,Tup.q,Tup.o]
  simp (disch:=omega) only [RR,hp1 b a hb,hf1 b a hb]
noncomputable def idxOf (n:Int) (G:Int→Prop):Int:= @dite _ (∃r,Idx n G r) (Classical.propDecidable _) (fun h=>Classical.choose h) (fun _=> -1)
theorem Idx.uniq {n:Int} {G:Int→Prop} {r s:Int} (h:Idx n G r) (h':Idx n G s):r=s:=by
  rcases h with⟨h1,h2⟩ | ⟨h1,h2,h3,h4⟩<;>rcases h' with⟨g1,g2⟩ | ⟨g1,g2,g3,g4⟩
  · omega
  · exact absurd g3 (h2 s g1 g2)
  · exact absurd h3 (g2 r h1 h2)
  · by_cases h5:r<s
    · exact absurd h3 (g4 r h1 h5)
    · by_cases h6:s<r
      · exact absurd g3 (h4 s g1 h6)
      · omega
theorem Idx.eq {n:Int} {G:Int→Prop} {r:Int} (h:Idx n G r):r=idxOf n G:=by
  unfold idxOf
  have he:∃r,Idx n G r:=⟨r,h⟩
  rw [dif_pos he];exact h.uniq (Classical.choose_spec he)
theorem WK {p:Atom×Atom×Unit→Bool} {f:Atom×Atom×Unit→Bool×Atom×Unit} (hp:∀a b,ShA b→p (a,b,())=true) (hf:∀a b,ShA b→f (a,b,())=(uz b a,b,())) (a:List Atom) (b:Atom) (ha:a.length<1000000000) (hb:ShA b):
    Fw (std 0) p f (a,b,()) (fun y=>y=(idxOf a.length (fun i=>uz b (a.getD i.toNat default)=true),b,())):=by
  dsimp only [Fw,Alg.cl,Alg.cg,Alg.rb,Alg.bd,Alg.l1,Tup.q,Tup.o]
  refine aA (fun(y:List Atom×Int×Int×Atom×Unit)=>y.1=a∧y.2.1=a.length∧y.2.2.2.1=b∧0≤y.2.2.1∧y.2.2.1≤a.length∧All y.2.2.1 (fun i=>¬uz b (a.getD i.toNat default)=true)) (fun y=>(a.length-y.2.2.1).toNat) ⟨rfl,rfl,rfl,by simp,by simp,All.zero⟩ ?_
  rintro⟨(l:List Atom),(m:Int),(i:Int),(b':Atom),⟨⟩⟩ hI
  dsimp only at hI ⊢
  obtain⟨rfl,rfl,rfl,h1,h2,h3⟩:=hI
  simp (disch:=omega) only [RR,hp _ _ hb,hf _ _ hb]
  refine⟨fun h4=>⟨by omega,by omega,fun h5=> ?_,fun h5=>⟨⟨by omega,by omega,h3.snoc (by simp only [h5];simp)⟩,by omega⟩⟩,fun h4=> ?_⟩
  · rw [←Idx.eq (Or.inr ⟨by omega,by omega,h5,h3⟩)]
  · rw [←Idx.eq (Or.inl ⟨rfl,h3.le (by omega)⟩)]
noncomputable def wN (t:List Atom) (a:Atom):Int:=idxOf t.length (fun i=>uz a (t.getD i.toNat default)=true)
theorem acs {p:List Atom×Atom×Unit→Bool} {f:List Atom×Atom×Unit→Int×Atom×Unit} (hp:∀a b,a.length<1000000000→ShA b→p (a,b,())=true)
    (hf:∀a b,a.length<1000000000→ShA b→f (a,b,())=(idxOf a.length (fun i=>uz b (a.getD i.toNat default)=true),b,())) (a:List Atom) (b:Atom) (ha:a.length<1000000000) (hb:ShA b):
    Ms (std 0) p f (a,b,()) (fun y=>y=(wN a b,())):=by
  dsimp only [Ms,Alg.cl,Alg.cg,Alg.rb,Alg.bd,Alg.l1,Tup.q,Tup.o]
  simp (disch:=omega) only [RR,hp a b ha hb,hf a b ha hb]
  rfl
def kR (a:Atom) (n:Int):Prop:=if a.kind=4 then(1≤a.k∧a.k≤5)∧aX a.x∧aX a.y∧bf a.x n∧bf a.y n else
  (a.x=[]∧a.y=[])∧((a.kind=1∧0≤a.k∧a.k≤3)∨(a.kind=2∨a.kind=3)∧0≤a.k∧a.k≤199)
theorem acu {p1:Int×Int×Int×Unit→Bool} {f1:Int×Int×Int×Unit→Bool×Unit} (hp1:∀a b c,p1 (a,b,c,())=true) (hf1:∀a b c,f1 (a,b,c,())=(inB a b c,()))
    {p2:Int×Unit→Bool} {f2:Int×Unit→Bool×Unit} (hp2:∀a,p2 (a,())=true) (hf2:∀a,f2 (a,())=(inB a 1 5,()))
    {p3:List aj×Int×Unit→Bool} {f3:List aj×Int×Unit→Bool×Unit} (hp3:∀a n,Sh a→p3 (a,n,())=true) (hf3:∀a n,Sh a→f3 (a,n,())=(bp (bf a n),()))
    {p4:List aj×Unit→Bool} {f4:List aj×Unit→Bool×Unit} (hp4:∀a,Sh a→p4 (a,())=true) (hf4:∀a,Sh a→f4 (a,())=(bp (aX a),()))
    {p5:Int×Unit→Bool} {f5:Int×Unit→Bool×Unit} (hp5:∀a,p5 (a,())=true) (hf5:∀a,f5 (a,())=(inB a 0 3,())) (a:Atom) (n:Int) (ha:ShA a):
    Ml (std 0) p1 f1 p2 f2 p3 f3 p4 f4 p5 f5 (a,n,()) (fun y=>y=(bp (kR a n),())):=by
  obtain⟨hx,hy⟩:=ha
  have hx1:=hx.1
  have hy1:=hy.1
  dsimp only [Ml,Alg.cl,Alg.cg,Alg.rb,Alg.bd,Alg.l1,Tup.q,Tup.o]
  simp (disch:=omega) only [RR,hp1,hf1,hp2,hf2,hp3 a.x n hx,hf3 a.x n hx,hp3 a.y n hy,hf3 a.y n hy,hp4 a.x hx,hf4 a.x hx,hp4 a.y hy,hf4 a.y hy,hp5,hf5]
  unfold kR
  refine⟨fun h=> ?_,fun h=>⟨fun h1=> ?_,fun h1=> ?_⟩⟩
  · rw [if_pos h]
    congr 1
    rw [Bool.eq_iff_iff,bX]
    simp only [Bool.and_eq_true,dV,bX,and_assoc]
  · rw [if_neg h,iI]
    rintro⟨⟨h2,h3⟩, -⟩
    rw [h2,h3]at h1;exact absurd h1 (by simp)
  · rw [if_neg h]
    have h2:a.x=[]:=List.eq_nil_of_length_eq_zero (by omega)
    have h3:a.y=[]:=List.eq_nil_of_length_eq_zero (by omega)
    congr 1
    rw [Bool.eq_iff_iff,bX]
    simp only [Bool.or_eq_true,Bool.and_eq_true,decide_eq_true_eq,dV,h2,h3,true_and]
def aJ (t:List Atom):Prop:=All t.length (fun i=>kR (t.getD i.toNat default) i∧wN t (t.getD i.toNat default)=i)∧t.length≤200
theorem acv {p1:Atom×Int×Unit→Bool} {f1:Atom×Int×Unit→Bool×Unit} (hp1:∀a n,ShA a→p1 (a,n,())=true) (hf1:∀a n,ShA a→f1 (a,n,())=(bp (kR a n),()))
    {p2:List Atom×Atom×Unit→Bool} {f2:List Atom×Atom×Unit→Int×Unit} (hp2:∀a b,a.length<1000000000→ShA b→p2 (a,b,())=true) (hf2:∀a b,a.length<1000000000→ShA b→f2 (a,b,())=(wN a b,())) (a:List Atom) (ha:ShT a):
    Mt (std 0) p1 f1 p2 f2 (a,()) (fun y=>y=(bp (aJ a),())):=by
  have hlen:=ha.1
  dsimp only [Mt,Alg.cl,Alg.cg,Alg.rb,Alg.bd,Alg.l1,Tup.q,Tup.o]
  refine aA (fun(y:List Atom×Int×Int×List Atom×Unit)=>y.1=a∧y.2.1=a.length∧y.2.2.2.1=a∧0≤y.2.2.1∧y.2.2.1≤a.length∧All y.2.2.1 (fun i=>kR (a.getD i.toNat default) i∧wN a (a.getD i.toNat default)=i)) (fun y=>(a.length-y.2.2.1).toNat) ⟨rfl,rfl,rfl,by simp,by simp,All.zero⟩ ?_
  rintro⟨(l:List Atom),(m:Int),(i:Int),(b':List Atom),⟨⟩⟩ hI
  dsimp only at hI ⊢
  obtain⟨rfl,rfl,rfl,h1,h2,h3⟩:=hI
  simp (disch:=omega) only [RR,hp1 _ _ (ha.at _),hf1 _ _ (ha.at _),hp2 _ _ ha.1 (ha.at _),hf2 _ _ ha.1 (ha.at _),bX,uj]
  refine⟨fun h4=>⟨by omega,by omega,fun h5=> ?_,fun h5=>⟨⟨by omega,by omega,h3.snoc h5⟩,by omega⟩⟩,fun h4=> ?_⟩
  · rw [iI (fun h=> ?_)]
    have:=h.1 i h1 h4
    rcases h5 with h5 | h5
    · exact h5 this.1
    · exact h5 this.2
  · by_cases h5:b'.length≤200
    · rw [iA (show aJ b' from⟨h3.le (by omega),h5⟩),decide_eq_true (by omega)]
    · rw [iI (show¬aJ b' from fun h=>h5 h.2),decide_eq_false (by omega)]
noncomputable def bL (t:List Atom) (a:Atom):List Atom×Int:=if 0≤wN t a then(t,wN t a)else @ite _ (¬kR a t.length∨t.length=200) (Classical.propDecidable _) (t, -1) (t++ [a],(t.length:Int))
theorem acw {p1:Atom×Int×Unit→Bool} {f1:Atom×Int×Unit→Bool×Unit} (hp1:∀a n,ShA a→p1 (a,n,())=true) (hf1:∀a n,ShA a→f1 (a,n,())=(bp (kR a n),()))
    {p2:List Atom×Atom×Unit→Bool} {f2:List Atom×Atom×Unit→Int×Unit} (hp2:∀a b,a.length<1000000000→ShA b→p2 (a,b,())=true) (hf2:∀a b,a.length<1000000000→ShA b→f2 (a,b,())=(wN a b,()))
    {p3:List Atom×Unit→Bool} {f3:List Atom×Unit→List Atom×Unit} (hp3:∀a,p3 (a,())=true) (hf3:∀a,f3 (a,())=(a,())) (t:List Atom) (a:Atom) (ht:t.length<1000000000) (ha:ShA a):
    MJ (std 0) p1 f1 p2 f2 p3 f3 (t,a,()) (fun y=>y=((bL t a).1,(bL t a).2,())):=by
  dsimp only [MJ,Alg.cl,Alg.cg,Alg.rb,Alg.bd,Alg.l1,Tup.q,Tup.o]
  simp (disch:=omega) only [RR,hp1 a t.length ha,hf1 a t.length ha,hp2 t a ht ha,hf2 t a ht ha,hp3,hf3,bX,uj]
  unfold bL
  refine⟨fun h=>by rw [if_pos h],fun h=>⟨fun h1=> ?_,fun h1=>⟨?_,?_,?_⟩⟩⟩
  · rw [if_neg h,if_pos (by rcases h1 with h1 | h1;exact Or.inl h1;exact Or.inr (by omega))]
  · exact Or.inl (by simp)
  · simp only [List.length_cons,List.length_nil];omega
  · rw [if_neg h,if_neg (by rintro(h2 | h2);exact h2 h1.1;exact absurd h2 (by omega))]
end Go.TX.F
namespace Go.TX.F
open Go Go.AE Go.TX
theorem Ik (a b:Int):mG b a= -mG a b:=by unfold mG;repeat' split<;>omega
theorem lT {a b:Int}:mG a b=0↔a=b:=by unfold mG;constructor<;>intro h<;>(repeat' split at*)<;>omega
theorem Il:∀a b:List Int,kg b a= -kg a b
  | [],[]=>rfl | [],_::_=>rfl | _::_,[]=>rfl
  | a::az,b::bs=>by
    simp only [kg,Ik a b,Il az bs]
    split<;>split<;>omega
theorem Im:∀ {a b:List Int},kg a b=0→a=b
  | [],[],_=>rfl | [],_::_,h=>by simp [kg]at h
  | _::_,[],h=>by simp [kg]at h
  | a::az,b::bs,h=>by
    simp only [kg]at h
    split at h
    · exact absurd h (by assumption)
    · rename_i h1
      rw [lT.1 (Classical.not_not.1 h1),Im h]
theorem Io:∀a:List Int,kg a a=0
  | []=>rfl
  | a::az=>by simp only [kg,show mG a a=0 from lT.2 rfl];simp [Io az]
theorem FX:∀ {a b c:List Int},kg a b≤0→kg b c≤0→kg a c≤0
  | [],_,[],_,_=>by simp [kg]
  | [],_,_::_,_,_=>by simp [kg]
  | _::_,[],_,h,_=>by simp [kg]at h
  | _::_,_::_,[],_,h=>by simp [kg]at h
  | a::az,b::bs,c::cs,h1,h2=>by
    have ih:= @FX az bs cs
    simp only [kg]at h1 h2 ⊢
    unfold mG at h1 h2 ⊢
    repeat' split at h1
    all_goals (repeat' split at h2)
    all_goals (repeat' split)
    all_goals omega
theorem uZ (a b:List Int):fQ b a= -fQ a b:=by
  unfold fQ or2;rw [Ik,Il];repeat' split<;>omega
theorem kr {a b:List Int}:fQ a b=0↔a=b:=by
  constructor
  · intro h;unfold fQ or2 at h
    split at h
    · exact absurd h (by assumption)
    · exact Im h
  · rintro rfl;unfold fQ or2;rw [show mG (a.length:Int) a.length=0 from lT.2 rfl,Io];rfl
theorem xC {a b c:List Int} (h1:fQ a b≤0) (h2:fQ b c≤0):fQ a c≤0:=by
  have ih:= @FX a b c
  unfold fQ or2 mG at*
  repeat' split at h1
  all_goals (repeat' split at h2)
  all_goals (repeat' split)
  all_goals omega
def le (x y:aj):Prop:=fQ x.atoms y.atoms≤0
theorem le.trans {x y z:aj} (h1:le x y) (h2:le y z):le x z:=xC h1 h2
theorem qJ {x y:aj} (h:¬fQ y.atoms x.atoms<0):le x y:=by unfold le;rw [uZ];omega
theorem le_of_lt {x y:aj} (h:fQ x.atoms y.atoms<0):le x y:=by unfold le;omega
theorem le_refl (x:aj):le x x:=by unfold le;rw [kr.2 rfl];omega
theorem dw {x y z:aj} (h1:le x y) (h2:fQ y.atoms z.atoms<0):fQ x.atoms z.atoms<0:=by
  have h3:=xC h1 (le_of_lt h2)
  by_cases h:fQ x.atoms z.atoms=0
  · have e:=kr.1 h
    unfold le at h1;rw [e,uZ]at h1;omega
  · omega
theorem jd {x y z:aj} (h1:fQ x.atoms y.atoms<0) (h2:le y z):fQ x.atoms z.atoms<0:=by
  have h3:=xC (le_of_lt h1) h2
  by_cases h:fQ x.atoms z.atoms=0
  · have e:=kr.1 h
    unfold le at h2;rw [←e,uZ]at h2;omega
  · omega
theorem JM (g:aj→Int) (x:aj):∀(d:List aj) (n:Nat) (h:n<d.length),((d.set n x).map g).sum=(d.map g).sum-g d[n]+g x
  | [],_,h=>absurd h (by simp)
  | a::d,0,h=>by simp;omega
  | a::d,n+1,h=>by
    have:=JM g x d n (by simpa using h)
    simp only [List.set_cons_succ,List.map_cons,List.sum_cons,List.getElem_cons_succ];omega
structure Sm (d d':List aj):Prop where
  len:d'.length=d.length
  sum:∀g:aj→Int,(d'.map g).sum=(d.map g).sum
theorem Sm.refl (d:List aj):Sm d d:=⟨rfl,fun _=>rfl⟩
theorem Sm.trans {a b c:List aj} (h1:Sm a b) (h2:Sm b c):Sm a c:=⟨h2.1.trans h1.1,fun g=>(h2.2 g).trans (h1.2 g)⟩
theorem Sm.symm {a b:List aj} (h1:Sm a b):Sm b a:=⟨h1.1.symm,fun g=>(h1.2 g).symm⟩
theorem JN (x:aj):∀d:List aj,0≤(d.map (fun y=>if y=x then(1:Int)else 0)).sum∧(0< (d.map (fun y=>if y=x then(1:Int)else 0)).sum↔x∈d)
  | []=>by simp
  | a::d=>by
    have:=JN x d
    simp only [List.map_cons,List.sum_cons,List.mem_cons]
    by_cases h:a=x
    · rw [if_pos h];refine⟨by omega,⟨fun _=>Or.inl h.symm,fun _=>by omega⟩⟩
    · rw [if_neg h];refine⟨by omega,⟨fun h2=>Or.inr (this.2.1 (by omega)),fun h2=> ?_⟩⟩
      rcases h2 with h2 | h2
      · exact absurd h2.symm h
      · have:=this.2.2 h2;omega
theorem Sm.mem {a b:List aj} (h:Sm a b) {x:aj} (hx:x∈b):x∈a:=by
  rw [←(JN x a).2,←h.2];exact(JN x b).2.2 hx
theorem Sm.sh {a b:List aj} (h:Sm a b) (hs:Sh a):Sh b:=⟨by have:=hs.1;have:=h.1;omega,fun m hm=>hs.2 m (h.mem hm)⟩
def swp (d:List aj) (i j:Int):List aj:=(d.set i.toNat ((d).getD (j).toNat default)).set j.toNat ((d).getD (i).toNat default)
theorem aa5 (d:List aj) (i j:Int):(swp d i j).length=d.length:=by simp [swp]
theorem at_set {d:List aj} {i j:Int} {x:aj} (h1:0≤i) (h2:i<d.length) (h3:0≤j):((d.set i.toNat x).getD (j).toNat default)=if j=i then x else((d).getD (j).toNat default):=by
  simp only [List.getD]
  by_cases h:j=i
  · subst h;rw [if_pos rfl,List.getElem?_set_self (by omega)];rfl
  · rw [if_neg h,List.getElem?_set_ne (by omega)]
theorem uD {d:List aj} {i j k:Int} (h1:0≤i) (h2:i<d.length) (h3:0≤j) (h4:j<d.length) (h5:0≤k):((swp d i j).getD (k).toNat default)=if k=j then((d).getD (i).toNat default)else if k=i then((d).getD (j).toNat default)else((d).getD (k).toNat default):=by
  unfold swp
  rw [at_set h3 (by simp;omega) h5,at_set h1 h2 h5]
theorem JO {d:List aj} {i j:Int} (h1:0≤i) (h2:i<d.length) (h3:0≤j) (h4:j<d.length):Sm d (swp d i j):=by
  refine⟨aa5 d i j,fun g=> ?_⟩
  unfold swp
  rw [getD_lt (show i.toNat<d.length by omega),getD_lt (show j.toNat<d.length by omega),JM g _ _ _ (by simp;omega),JM g _ _ _ (by omega),List.getElem_set]
  split
  · rename_i h;have:i=j:=by omega
    subst this;omega
  · omega
def Swp (d d':List aj) (a b n:Int):Prop:=Sm d d'∧∀k,0≤k→((d').getD (k).toNat default)=if a≤k∧k<a+n then((d).getD (k+(b-a)).toNat default)else if b≤k∧k<b+n then((d).getD (k- (b-a)).toNat default)else((d).getD (k).toNat default)
theorem WL (a b n:Int) (d:List aj) (hl:d.length<1000000000) (h1:0≤a) (h2:0≤n) (h3:a+n≤b) (h4:b+n≤d.length):
    FB (std 0) (a,b,n,d,()) (fun y=>Swp d y.1 a b n):=by
  dsimp only [FB,Alg.cl,Alg.cg,Alg.rb,Alg.bd,Alg.l1,Tup.q,Tup.o]
  refine aA (fun(y:Int×Int×Int×Int×List aj×Unit)=>y.1=a∧y.2.1=b∧y.2.2.1=n∧0≤y.2.2.2.1∧y.2.2.2.1≤n∧Swp d y.2.2.2.2.1 a b y.2.2.2.1) (fun y=>(n-y.2.2.2.1).toNat)
    ⟨rfl,rfl,rfl,by simp,by simp;omega,Sm.refl d,fun k hk=>by dsimp only;rw [if_neg (by omega),if_neg (by omega)]⟩ ?_
  rintro⟨(a':Int),(b':Int),(n':Int),(i:Int),(e:List aj),⟨⟩⟩ hI
  dsimp only at hI ⊢
  obtain⟨rfl,rfl,rfl,h5,h6,h7,h8⟩:=hI
  have hle:=h7.1
  simp (disch:=omega) only [RR,List.length_set]
  refine⟨fun h9=> ?_,fun h9=> ?_⟩
  · have e1:(e.set (a'+i).toNat ((e).getD (b'+i).toNat default)).set (b'+i).toNat ((e).getD (a'+i).toNat default)=swp e (a'+i) (b'+i):=rfl
    rw [e1]
    refine⟨by omega,by omega,by omega,by omega,by omega,by omega,by omega,by omega,by omega,by omega,by omega,by omega,by omega,by omega,by omega,by omega,⟨by omega,by omega,h7.trans (JO (by omega) (by omega) (by omega) (by omega)),fun k hk=> ?_⟩,by omega⟩
    rw [uD (by omega) (by omega) (by omega) (by omega) hk]
    rw [h8 _ (by omega),h8 _ (by omega),h8 _ hk]
    repeat' split
    all_goals first | rfl | (exfalso;omega) | (congr 2;omega)
  · have:i=n':=by omega
    subst this;exact⟨h7,h8⟩
end Go.TX.F
namespace Go.TX.F
open Go Go.AE Go.TX
def Rot (d d':List aj) (a m b:Int):Prop:=Sm d d'∧∀k,0≤k→((d').getD (k).toNat default)=if a≤k∧k<a+(b-m)then((d).getD (k+(m-a)).toNat default)else if a+(b-m)≤k∧k<b then((d).getD (k- (b-m)).toNat default)else((d).getD (k).toNat default)
theorem WM {p:Int×Int×Int×List aj×Unit→Bool} {f:Int×Int×Int×List aj×Unit→List aj×Unit}
    (hp:∀(a b n:Int) (d:List aj),d.length<1000000000→0≤a→0≤n→a+n≤b→b+n≤d.length→p (a,b,n,d,())=true) (hf:∀(a b n:Int) (d:List aj),d.length<1000000000→0≤a→0≤n→a+n≤b→b+n≤d.length→Swp d (f (a,b,n,d,())).1 a b n)
    (a m b:Int) (d:List aj) (hl:d.length<1000000000) (h1:0≤a) (h2:a<m) (h3:m<b) (h4:b≤d.length):
    FC (std 0) p f (a,m,b,d,()) (fun y=>Rot d y.1 a m b):=by
  dsimp only [FC,Alg.cl,Alg.cg,Alg.rb,Alg.bd,Alg.l1,Tup.q,Tup.o]
  simp (disch:=omega) only [RR]
  refine aA (fun(y:Int×Int×Int×List aj×Unit)=>y.1=m∧0<y.2.1∧0<y.2.2.1∧a≤m-y.2.1∧m+y.2.2.1≤b∧Sm d y.2.2.2.1∧
      ∀k,0≤k→(if a≤k∧k<a+(b-m)then((d).getD (k+(m-a)).toNat default)else if a+(b-m)≤k∧k<b then((d).getD (k- (b-m)).toNat default)else((d).getD (k).toNat default))
        =(if m-y.2.1≤k∧k<m-y.2.1+y.2.2.1 then((y.2.2.2.1).getD (k+y.2.1).toNat default)else if m-y.2.1+y.2.2.1≤k∧k<m+y.2.2.1 then((y.2.2.2.1).getD (k-y.2.2.1).toNat default)else((y.2.2.2.1).getD (k).toNat default))) (fun y=>(y.2.1+y.2.2.1).toNat)
    ⟨rfl,by simp;omega,by simp;omega,by simp;omega,by simp;omega,Sm.refl d,fun k hk=>by
      dsimp only;rw [show m- (m-a)=a by omega,show m+(b-m)=b by omega]⟩ ?_
  rintro⟨(m':Int),(i:Int),(j:Int),(e:List aj),⟨⟩⟩ hI
  dsimp only at hI ⊢
  obtain⟨rfl,h5,h6,h7,h8,h9,h10⟩:=hI
  have hle:=h9.1
  simp (disch:=omega) only [RR]
  refine⟨fun h11=>⟨fun h12=> ?_,fun h12=> ?_⟩,fun h11=> ?_⟩
  · obtain⟨s1,s2⟩:=hf (m'-i) m' j e (by omega) (by omega) (by omega) (by omega) (by omega)
    refine⟨hp _ _ _ _ (by omega) (by omega) (by omega) (by omega) (by omega),⟨by omega,by omega,by omega,by omega,h9.trans s1,fun k hk=> ?_⟩,by omega⟩
    rw [h10 k hk]
    generalize (f (m'-i,m',j,e,())).1=e' at s1 s2 ⊢
    by_cases c1:m'-i≤k∧k<m'-i+j
    · rw [if_pos c1,if_neg (by omega),if_neg (by omega),s2 k hk,if_pos c1];congr 2;omega
    · rw [if_neg c1]
      by_cases c2:m'-i+j≤k∧k<m'+j
      · rw [if_pos c2]
        by_cases c3:m'- (i-j)≤k∧k<m'- (i-j)+j
        · rw [if_pos c3,s2 _ (by omega),if_neg (by omega),if_pos (by omega)];congr 2;omega
        · rw [if_neg c3,if_pos (by omega),s2 _ (by omega),if_neg (by omega),if_neg (by omega)]
      · rw [if_neg c2,if_neg (by omega),if_neg (by omega),s2 _ hk,if_neg (by omega),if_neg (by omega)]
  · obtain⟨s1,s2⟩:=hf (m'-i) (m'+j-i) i e (by omega) (by omega) (by omega) (by omega) (by omega)
    refine⟨hp _ _ _ _ (by omega) (by omega) (by omega) (by omega) (by omega),⟨by omega,by omega,by omega,by omega,h9.trans s1,fun k hk=> ?_⟩,by omega⟩
    rw [h10 k hk]
    generalize (f (m'-i,m'+j-i,i,e,())).1=e' at s1 s2 ⊢
    by_cases c1:m'-i≤k∧k<m'-i+j
    · rw [if_pos c1]
      by_cases c3:k<m'-i+(j-i)
      · rw [if_pos (by omega),s2 _ (by omega)]
        by_cases c4:k<m'
        · by_cases c5:k+i<m'+j-i
          · rw [if_neg (by omega),if_neg (by omega)]
          · exfalso;omega
        · by_cases c5:k+i<m'+j-i
          · rw [if_neg (by omega),if_neg (by omega)]
          · exfalso;omega
      · by_cases c6:k<m'
        · rw [if_neg (by omega),if_pos (by omega),s2 _ (by omega),if_pos (by omega)];congr 2;omega
        · rw [if_neg (by omega),if_pos (by omega),s2 _ (by omega)]
          by_cases c7:k- (j-i)<m'
          · rw [if_pos (by omega)];congr 2;omega
          · exfalso;omega
    · rw [if_neg c1]
      by_cases c2:m'-i+j≤k∧k<m'+j
      · rw [if_pos c2,if_neg (by omega),if_neg (by omega),s2 _ hk,if_neg (by omega),if_pos (by omega)];congr 2;omega
      · rw [if_neg c2,if_neg (by omega),if_neg (by omega),s2 _ hk,if_neg (by omega),if_neg (by omega)]
  · have hij:i=j:=by omega
    subst hij
    obtain⟨s1,s2⟩:=hf (m'-i) m' i e (by omega) (by omega) (by omega) (by omega) (by omega)
    refine⟨hp _ _ _ _ (by omega) (by omega) (by omega) (by omega) (by omega),h9.trans s1,fun k hk=> ?_⟩
    rw [h10 k hk,s2 k hk]
    repeat' split
    all_goals first | rfl | (exfalso;omega) | (congr 2;omega)
def kX (d:List aj) (a b:Int):Prop:=∀p q,a≤p→p≤q→q<b→le ((d).getD (p).toNat default) ((d).getD (q).toNat default)
def Out (d d':List aj) (a b:Int):Prop:=∀k,0≤k→(k<a∨b≤k)→((d').getD (k).toNat default)=((d).getD (k).toNat default)
theorem WO {p:aj×aj×Unit→Bool} {f:aj×aj×Unit→Int×Unit} (hp:∀x y,x.atoms.length<1000000000→p (x,y,())=true) (hf:∀x y,x.atoms.length<1000000000→f (x,y,())=(fQ x.atoms y.atoms,()))
    (a b:Int) (d:List aj) (hd:Sh d) (h1:0≤a) (h2:a≤b) (h3:b≤d.length):
    Fz (std 0) p f (a,b,d,()) (fun y=>Sm d y.1∧Out d y.1 a b∧kX y.1 a b):=by
  have hlen:=hd.1
  dsimp only [Fz,Alg.cl,Alg.cg,Alg.rb,Alg.bd,Alg.l1,Tup.q,Tup.o]
  simp (disch:=omega) only [RR]
  refine aA (fun(y:Int×Int×Int×List aj×Unit)=>y.1=a∧y.2.1=b∧a+1≤y.2.2.1∧(y.2.2.1≤b∨y.2.2.1=a+1)∧Sm d y.2.2.2.1∧Out d y.2.2.2.1 a b∧kX y.2.2.2.1 a y.2.2.1) (fun y=>(b-y.2.2.1).toNat)
    ⟨rfl,rfl,by simp,Or.inr rfl,Sm.refl d,fun k _ _=>rfl,fun p q h1 h2 h3=>by dsimp only at h3;rw [show p=q by omega];exact le_refl _⟩ ?_
  rintro⟨(a':Int),(b':Int),(i:Int),(e:List aj),⟨⟩⟩ hI
  dsimp only at hI ⊢
  obtain⟨rfl,rfl,h4,h5,h6,h7,h8⟩:=hI
  have hle:=h6.1
  simp (disch:=omega) only [RR]
  refine⟨fun h9=> ?_,fun h9=>⟨h6,h7,fun p q g1 g2 g3=>h8 p q g1 g2 (by omega)⟩⟩
  refine aA (fun(y:Int×Int×Int×Int×List aj×Unit)=>y.1=a'∧y.2.1=b'∧y.2.2.1=i∧a'≤y.2.2.2.1∧y.2.2.2.1≤i∧Sm d y.2.2.2.2.1∧Out d y.2.2.2.2.1 a' b'
      ∧(∀p q,a'≤p→p≤q→q≤i→p≠y.2.2.2.1→q≠y.2.2.2.1→le ((y.2.2.2.2.1).getD (p).toNat default) ((y.2.2.2.2.1).getD (q).toNat default))∧(∀q,y.2.2.2.1<q→q≤i→le ((y.2.2.2.2.1).getD (y.2.2.2.1).toNat default) ((y.2.2.2.2.1).getD (q).toNat default))) (fun y=>y.2.2.2.1.toNat)
    ⟨rfl,rfl,rfl,by simp;omega,by simp,h6,h7,fun p q g1 g2 g3 g4 g5=>h8 p q g1 g2 (by dsimp only at g3 g5;omega),fun q g1 g2=>by dsimp only at g1;omega⟩ ?_
  rintro⟨(a'':Int),(b'':Int),(i':Int),(j:Int),(e':List aj),⟨⟩⟩ hI
  dsimp only at hI ⊢
  obtain⟨rfl,rfl,rfl,h10,h11,h12,h13,h14,h15⟩:=hI
  have hle':=h12.1
  have hs:=h12.sh hd
  simp (disch:=omega) only [RR,List.length_set,hp _ _ (hs.at _),hf _ _ (hs.at _)]
  have e1:(e'.set j.toNat ((e').getD (j-1).toNat default)).set (j-1).toNat ((e').getD (j).toNat default)=swp e' j (j-1):=rfl
  rw [e1]
  repeat' (refine And.intro ?_ ?_)
  all_goals try omega
  · intro ⟨g1,g2⟩
    repeat' (refine And.intro ?_ ?_)
    all_goals try omega
    · exact h12.trans (JO (by omega) (by omega) (by omega) (by omega))
    · intro k hk hk2
      rw [uD (by omega) (by omega) (by omega) (by omega) hk,if_neg (by omega),if_neg (by omega)]
      exact h13 k hk hk2
    · intro p q k1 k2 k3 k4 k5
      rw [uD (by omega) (by omega) (by omega) (by omega) (by omega),if_neg k4,uD (by omega) (by omega) (by omega) (by omega) (by omega),if_neg k5]
      by_cases c1:p=j
      · rw [if_pos c1]
        by_cases c2:q=j
        · rw [if_pos c2];exact le_refl _
        · rw [if_neg c2];exact h14 _ _ (by omega) (by omega) (by omega) (by omega) (by omega)
      · rw [if_neg c1]
        by_cases c2:q=j
        · rw [if_pos c2];exact h14 _ _ (by omega) (by omega) (by omega) (by omega) (by omega)
        · rw [if_neg c2];exact h14 _ _ (by omega) (by omega) (by omega) (by omega) (by omega)
    · intro q k1 k2
      rw [uD (by omega) (by omega) (by omega) (by omega) (by omega),if_pos rfl,uD (by omega) (by omega) (by omega) (by omega) (by omega),if_neg (by omega)]
      by_cases c2:q=j
      · rw [if_pos c2];exact le_of_lt g2
      · rw [if_neg c2];exact h15 q (by omega) k2
  · intro g
    refine⟨⟨by omega,by omega,h12,h13,?_⟩,by omega⟩
    have hj:a''<j→le ((e').getD (j-1).toNat default) ((e').getD (j).toNat default):=fun c=>qJ (by
      simp only [decide_eq_true c,Bool.true_and,decide_eq_false_iff_not]at g;exact g)
    intro p q k1 k2 k3
    by_cases c1:p=j
    · subst c1
      by_cases c2:q=p
      · rw [c2];exact le_refl _
      · exact h15 q (by omega) (by omega)
    · by_cases c2:q=j
      · subst c2
        by_cases c3:p=q-1
        · rw [c3];exact hj (by omega)
        · exact(h14 p (q-1) k1 (by omega) (by omega) c1 (by omega)).trans (hj (by omega))
      · exact h14 p q k1 k2 (by omega) c1 c2
end Go.TX.F
namespace Go.TX.F
open Go Go.AE Go.TX
theorem half {x:Int} (h1:0≤x) (h2:x≤4000000000):IntKind.i64.wrap (iR .shr .u64 (IntKind.u64.wrap x) 1)=x/2:=by
  have e1:IntKind.u64.wrap x=x:=by simp [IntKind.wrap,IntKind.bits,IntKind.signed];omega
  have e2:iR .shr .u64 x 1=x/2:=by
    show x.fdiv (2^ (min (Int.toNat 1) IntKind.u64.bits))=x/2
    rw [show(2:Int)^ (min (Int.toNat 1) IntKind.u64.bits)=2 by decide,Int.fdiv_eq_ediv_of_nonneg _ (by omega)]
  rw [e1,e2,w64 (by omega) (by omega)]
structure Mrg (d d':List aj) (a b:Int):Prop where
  sm:Sm d d'
  out:Out d d' a b
  ins:∀k,a≤k→k<b→∃j,a≤j∧j<b∧((d').getD (k).toNat default)=((d).getD (j).toNat default)
  srt:kX d' a b
structure AZ (a m b:Int) (d:List aj):Prop where
  sh:Sh d
  h1:0≤a
  h2:a<m
  h3:m<b
  h4:b≤d.length
  s1:kX d a m
  s2:kX d m b
theorem A8 {P Q:Prop} [Decidable P] [Decidable Q]:((decide P&&decide Q)=false)↔¬(P∧Q):=by by_cases h1:P<;>by_cases h2:Q<;>simp [h1,h2]
theorem Ns {p2:Int×Int×Int×List aj×Unit→Bool} {f2:Int×Int×Int×List aj×Unit→List aj×Unit}
    (hp2:∀(a m b:Int) (d:List aj),d.length<1000000000→0≤a→a<m→m<b→b≤d.length→p2 (a,m,b,d,())=true) (hf2:∀(a m b:Int) (d:List aj),d.length<1000000000→0≤a→a<m→m<b→b≤d.length→Rot d (f2 (a,m,b,d,())).1 a m b)
    {p3:Int×Int×Int×List aj×Unit→Bool} {f3:Int×Int×Int×List aj×Unit→List aj×Unit}
    (K:Int) (hp3:∀(a m b:Int) (d:List aj),AZ a m b d→b-a<K→p3 (a,m,b,d,())=true) (hf3:∀(a m b:Int) (d:List aj),AZ a m b d→b-a<K→Mrg d (f3 (a,m,b,d,())).1 a b)
    (a m b mid i E:Int) (d:List aj) (hd:AZ a m b d) (hK:b-a≤K) (hmid:mid=(a+b)/2) (hE:E=mid+m-i)
    (b1:a≤i) (b2:i≤m) (b3:m≤E) (b4:E≤b) (b5:a<mid) (b6:mid<b)
    (fA:i=a∨E=b∨le ((d).getD (i-1).toNat default) ((d).getD (E).toNat default)) (fB:E=m∨i=m∨le ((d).getD (E-1).toNat default) ((d).getD (i).toNat default)):
      (i<m∧m<E→
          p2 (i,m,E,d,())=true∧
            (a<i∧i<mid→
                p3 (a,i,mid,(f2 (i,m,E,d,())).fst,())=true∧
                  (mid<E∧E<b→
                      p3 (mid,E,b,(f3 (a,i,mid,(f2 (i,m,E,d,())).fst,())).fst,())=true∧
                        Mrg d (f3 (mid,E,b,(f3 (a,i,mid,(f2 (i,m,E,d,())).fst,())).fst,())).fst
                          a b)∧
                    ((decide (mid<E)&&decide (E<b))=false→
                      Mrg d (f3 (a,i,mid,(f2 (i,m,E,d,())).fst,())).fst a b))∧
              ((decide (a<i)&&decide (i<mid))=false→
                (mid<E∧E<b→
                    p3 (mid,E,b,(f2 (i,m,E,d,())).fst,())=true∧
                      Mrg d (f3 (mid,E,b,(f2 (i,m,E,d,())).fst,())).fst a b)∧
                  ((decide (mid<E)&&decide (E<b))=false→
                    Mrg d (f2 (i,m,E,d,())).fst a b)))∧
        ((decide (i<m)&&decide (m<E))=false→
          (a<i∧i<mid→
              p3 (a,i,mid,d,())=true∧
                (mid<E∧E<b→
                    p3 (mid,E,b,(f3 (a,i,mid,d,())).fst,())=true∧
                      Mrg d (f3 (mid,E,b,(f3 (a,i,mid,d,())).fst,())).fst a b)∧
                  ((decide (mid<E)&&decide (E<b))=false→
                    Mrg d (f3 (a,i,mid,d,())).fst a b))∧
            ((decide (a<i)&&decide (i<mid))=false→
              (mid<E∧E<b→
                  p3 (mid,E,b,d,())=true∧Mrg d (f3 (mid,E,b,d,())).fst a b)∧
                ((decide (mid<E)&&decide (E<b))=false→Mrg d d a b))):=by
  obtain⟨hs,h1,h2,h3,h4,hA,hB⟩:=hd
  have hlen:=hs.1
  have cross:∀x y,((a≤x∧x<i)∨(m≤x∧x<E))→((i≤y∧y<m)∨(E≤y∧y<b))→le ((d).getD (x).toNat default) ((d).getD (y).toNat default):=by
    rintro x y (hx | hx) (hy | hy)
    · exact hA x y hx.1 (by omega) hy.2
    · rcases fA with fA | fA | fA
      · omega
      · omega
      · exact((hA x (i-1) hx.1 (by omega) (by omega)).trans fA).trans (hB E y b3 hy.1 hy.2)
    · rcases fB with fB | fB | fB
      · omega
      · omega
      · exact((hB x (E-1) hx.1 (by omega) (by omega)).trans fB).trans (hA i y b1 hy.1 hy.2)
    · exact hB x y hx.1 (by omega) hy.2
  have alp : ∀ e, Rot d e i m E → ∀ R : Prop, R = Mrg d e a b → (a < i ∧ i < mid →
              p3 (a,i,mid,e,())=true∧
                (mid<E∧E<b→
                    p3 (mid,E,b,(f3 (a,i,mid,e,())).fst,())=true∧
                      Mrg d (f3 (mid,E,b,(f3 (a,i,mid,e,())).fst,())).fst a b)∧
                  ((decide (mid<E)&&decide (E<b))=false→
                    Mrg d (f3 (a,i,mid,e,())).fst a b))∧
            ((decide (a<i)&&decide (i<mid))=false→
              (mid<E∧E<b→
                  p3 (mid,E,b,e,())=true∧Mrg d (f3 (mid,E,b,e,())).fst a b)∧
                ((decide (mid<E)&&decide (E<b))=false→R)):=by
    rintro e ⟨r1,r2⟩ R rfl
    have hle:=r1.1
    have hes:=r1.sh hs
    have lo:∀k,a≤k→k<mid→∃x,((a≤x∧x<i)∨(m≤x∧x<E))∧((e).getD (k).toNat default)=((d).getD (x).toNat default):=by
      intro k k1 k2
      rw [r2 k (by omega)]
      by_cases c1:i≤k∧k<i+(E-m)
      · rw [if_pos c1];exact⟨k+(m-i),by omega,rfl⟩
      · rw [if_neg c1,if_neg (by omega)];exact⟨k,by omega,rfl⟩
    have hi:∀k,mid≤k→k<b→∃x,((i≤x∧x<m)∨(E≤x∧x<b))∧((e).getD (k).toNat default)=((d).getD (x).toNat default):=by
      intro k k1 k2
      rw [r2 k (by omega),if_neg (by omega)]
      by_cases c1:i+(E-m)≤k∧k<E
      · rw [if_pos c1];exact⟨k- (E-m),by omega,rfl⟩
      · rw [if_neg c1];exact⟨k,by omega,rfl⟩
    have S1:kX e a i:=by
      intro p q q1 q2 q3
      rw [r2 p (by omega),r2 q (by omega),if_neg (by omega),if_neg (by omega),if_neg (by omega),if_neg (by omega)]
      exact hA p q q1 q2 (by omega)
    have S2:kX e i mid:=by
      intro p q q1 q2 q3
      rw [r2 p (by omega),r2 q (by omega),if_pos (by omega),if_pos (by omega)]
      exact hB _ _ (by omega) (by omega) (by omega)
    have S3:kX e mid E:=by
      intro p q q1 q2 q3
      rw [r2 p (by omega),r2 q (by omega),if_neg (by omega),if_pos (by omega),if_neg (by omega),if_pos (by omega)]
      exact hA _ _ (by omega) (by omega) (by omega)
    have S4:kX e E b:=by
      intro p q q1 q2 q3
      rw [r2 p (by omega),r2 q (by omega),if_neg (by omega),if_neg (by omega),if_neg (by omega),if_neg (by omega)]
      exact hB _ _ (by omega) (by omega) (by omega)
    have fin:∀e1 e2,Mrg e e1 a mid→Mrg e1 e2 mid b→Mrg d e2 a b:=by
      intro e1 e2 m1 m2
      refine⟨(r1.trans m1.sm).trans m2.sm,fun k k1 k2=> ?_,fun k k1 k2=> ?_,fun p q q1 q2 q3=> ?_⟩
      · rw [m2.out k k1 (by omega),m1.out k k1 (by omega),r2 k k1,if_neg (by omega),if_neg (by omega)]
      · by_cases c:k<mid
        · rw [m2.out k (by omega) (by omega)]
          obtain⟨j,j1,j2,j3⟩:=m1.ins k k1 c
          obtain⟨x,x1,x2⟩:=lo j j1 j2
          rw [j3,x2];exact⟨x,by omega,by omega,rfl⟩
        · obtain⟨j,j1,j2,j3⟩:=m2.ins k (by omega) k2
          rw [j3,m1.out j (by omega) (by omega)]
          obtain⟨x,x1,x2⟩:=hi j j1 j2
          rw [x2];exact⟨x,by omega,by omega,rfl⟩
      · by_cases c:q<mid
        · rw [m2.out p (by omega) (by omega),m2.out q (by omega) (by omega)];exact m1.srt p q q1 q2 c
        · by_cases c2:mid≤p
          · exact m2.srt p q c2 q2 q3
          · rw [m2.out p (by omega) (by omega)]
            obtain⟨j,j1,j2,j3⟩:=m1.ins p q1 (by omega)
            obtain⟨x,x1,x2⟩:=lo j j1 j2
            obtain⟨j',j1',j2',j3'⟩:=m2.ins q (by omega) q3
            obtain⟨x',x1',x2'⟩:=hi j' j1' j2'
            rw [j3,x2,j3',m1.out j' (by omega) (by omega),x2']
            exact cross x x' x1 x1'
    have triv:∀e' a' b',kX e' a' b'→Mrg e' e' a' b':=fun e' a' b' h=>⟨Sm.refl _,fun _ _ _=>rfl,fun k k1 k2=>⟨k,k1,k2,rfl⟩,h⟩
    have last : ∀ e1, Mrg e e1 a mid → (mid < E ∧ E < b →
                    p3 (mid,E,b,e1,())=true∧
                      Mrg d (f3 (mid,E,b,e1,())).fst a b)∧
                  ((decide (mid<E)&&decide (E<b))=false→
                    Mrg d e1 a b):=by
      intro e1 m1
      have hle1:=m1.sm.1
      have O:∀a' b',mid≤a'→b'≤b→kX e a' b'→kX e1 a' b':=fun a' b' g1 g2 g p q q1 q2 q3=>by
        rw [m1.out p (by omega) (by omega),m1.out q (by omega) (by omega)];exact g p q q1 q2 q3
      refine⟨fun c=> ?_,fun c=> ?_⟩
      · have pre:AZ mid E b e1:=⟨m1.sm.sh hes,by omega,c.1,c.2,by omega,O _ _ (by omega) (by omega) S3,O _ _ (by omega) (by omega) S4⟩
        exact⟨hp3 _ _ _ _ pre (by omega),fin _ _ m1 (hf3 _ _ _ _ pre (by omega))⟩
      · rw [A8]at c
        refine fin _ _ m1 (triv _ _ _ ?_)
        by_cases c2:mid<E
        · have:E=b:=by omega
          subst this;exact O _ _ (by omega) (by omega) S3
        · have:E=mid:=by omega
          rw [this]at S4;exact O _ _ (by omega) (by omega) S4
    refine⟨fun c=> ?_,fun c=> ?_⟩
    · have pre:AZ a i mid e:=⟨hes,by omega,c.1,c.2,by omega,S1,S2⟩
      exact⟨hp3 _ _ _ _ pre (by omega),last _ (hf3 _ _ _ _ pre (by omega))⟩
    · rw [A8]at c
      refine last e (triv _ _ _ ?_)
      by_cases c2:a<i
      · have:i=mid:=by omega
        rw [←this];exact S1
      · have:i=a:=by omega
        rw [this]at S2;exact S2
  refine⟨fun c=>⟨hp2 _ _ _ _ hlen (by omega) c.1 c.2 (by omega),alp _ (hf2 _ _ _ _ hlen (by omega) c.1 c.2 (by omega)) _ rfl⟩,fun c=>alp d ?_ _ rfl⟩
  rw [A8]at c
  refine⟨Sm.refl _,fun k k1=> ?_⟩
  repeat' split
  all_goals first | rfl | (exfalso;omega) | (congr 2;omega)
theorem ahI {p:aj×aj×Unit→Bool} {f:aj×aj×Unit→Int×Unit} (hp:∀x y,x.atoms.length<1000000000→p (x,y,())=true) (hf:∀x y,x.atoms.length<1000000000→f (x,y,())=(fQ x.atoms y.atoms,()))
    {p2:Int×Int×Int×List aj×Unit→Bool} {f2:Int×Int×Int×List aj×Unit→List aj×Unit}
    (hp2:∀(a m b:Int) (d:List aj),d.length<1000000000→0≤a→a<m→m<b→b≤d.length→p2 (a,m,b,d,())=true) (hf2:∀(a m b:Int) (d:List aj),d.length<1000000000→0≤a→a<m→m<b→b≤d.length→Rot d (f2 (a,m,b,d,())).1 a m b)
    {p3:Int×Int×Int×List aj×Unit→Bool} {f3:Int×Int×Int×List aj×Unit→List aj×Unit}
    (K:Int) (hp3:∀(a m b:Int) (d:List aj),AZ a m b d→b-a<K→p3 (a,m,b,d,())=true) (hf3:∀(a m b:Int) (d:List aj),AZ a m b d→b-a<K→Mrg d (f3 (a,m,b,d,())).1 a b)
    (a m b:Int) (d:List aj) (hd:AZ a m b d) (hK:b-a≤K):
    FD (std 0) p f p2 f2 p3 f3 (a,m,b,d,()) (fun y=>Mrg d y.1 a b):=by
  obtain⟨hs,h1,h2,h3,h4,hA,hB⟩:=hd
  have hlen:=hs.1
  dsimp only [FD,Alg.cl,Alg.cg,Alg.rb,Alg.bd,Alg.l1,Tup.q,Tup.o]
  simp (disch:=omega) only [RR]
  refine⟨fun h5=> ?_,fun h5=>⟨fun h6=> ?_,fun h6=> ?_⟩⟩
  ·
    have hm:m=a+1:=by omega
    subst hm
    refine aA (fun(y:Int×Int×Int×List aj×Unit)=>y.1=a∧y.2.2.2.1=d∧a+1≤y.2.1∧y.2.1≤y.2.2.1∧y.2.2.1≤b∧(∀q,a+1≤q→q<y.2.1→fQ ((d).getD (q).toNat default).atoms ((d).getD (a).toNat default).atoms<0)∧(∀q,y.2.2.1≤q→q<b→¬fQ ((d).getD (q).toNat default).atoms ((d).getD (a).toNat default).atoms<0)) (fun y=>(y.2.2.1-y.2.1).toNat)
      ⟨rfl,rfl,by simp,by simp;omega,by simp,fun q g1 g2=>by dsimp only at g2;omega,fun q g1 g2=>by dsimp only at g1;omega⟩ ?_
    rintro⟨(a':Int),(i:Int),(j:Int),(d':List aj),⟨⟩⟩ hI
    dsimp only at hI ⊢
    obtain⟨rfl,rfl,g1,g2,g3,g4,g5⟩:=hI
    simp (disch:=omega) only [RR,half,hp _ _ (hs.at _),hf _ _ (hs.at _)]
    refine⟨fun g6=>⟨by omega,by omega,by omega,by omega,by omega,by omega,by omega,by omega,by omega,fun g7=>⟨⟨by omega,by omega,by omega,fun q k1 k2=> ?_,g5⟩,by omega⟩,fun g7=>⟨⟨by omega,by omega,by omega,g4,fun q k1 k2=> ?_⟩,by omega⟩⟩,fun g6=> ?_⟩
    · exact dw (hB q ((i+j)/2) k1 (by omega) (by omega)) g7
    · intro g8;exact g7 (dw (hB ((i+j)/2) q (by omega) (by omega) k2) g8)
    have hij:i=j:=by omega
    subst hij
    refine aA (fun(y:Int×Int×List aj×Unit)=>y.1=i∧a'≤y.2.1∧y.2.1≤i-1∧Sm d' y.2.2.1∧(∀k,0≤k→((y.2.2.1).getD (k).toNat default)=if a'≤k∧k<y.2.1 then((d').getD (k+1).toNat default)else if k=y.2.1 then((d').getD (a').toNat default)else((d').getD (k).toNat default))) (fun y=>(i-y.2.1).toNat)
      ⟨rfl,by simp,by simp;omega,Sm.refl _,fun k hk=>by dsimp only;rw [if_neg (by omega)];split;(· congr 2);(· rfl)⟩ ?_
    rintro⟨(i':Int),(k:Int),(e:List aj),⟨⟩⟩ hI
    dsimp only at hI ⊢
    obtain⟨rfl,k1,k2,k3,k4⟩:=hI
    have hle:=k3.1
    simp (disch:=omega) only [RR,List.length_set]
    have e1:(e.set k.toNat ((e).getD (k+1).toNat default)).set (k+1).toNat ((e).getD (k).toNat default)=swp e k (k+1):=rfl
    rw [e1]
    refine⟨fun g7=>⟨by omega,by omega,by omega,by omega,by omega,by omega,by omega,by omega,by omega,by omega,by omega,by omega,by omega,by omega,by omega,by omega,⟨by omega,by omega,k3.trans (JO (by omega) (by omega) (by omega) (by omega)),fun q hq=> ?_⟩,by omega⟩,fun g7=> ?_⟩
    · rw [uD (by omega) (by omega) (by omega) (by omega) hq,k4 _ (by omega),k4 _ (by omega),k4 _ hq]
      repeat' split
      all_goals first | rfl | (exfalso;omega) | (congr 2;omega)
    · have hk:k=i'-1:=by omega
      subst hk
      refine⟨k3,fun q hq hq2=> ?_,fun q hq hq2=> ?_,fun q r q1 q2 q3=> ?_⟩
      · rw [k4 q hq,if_neg (by omega),if_neg (by omega)]
      · rw [k4 q (by omega)]
        repeat' split
        · exact⟨q+1,by omega,by omega,rfl⟩
        · exact⟨a',by omega,by omega,rfl⟩
        · exact⟨q,by omega,by omega,rfl⟩
      · rw [k4 q (by omega),k4 r (by omega)]
        by_cases c1:a'≤q∧q<i'-1
        · rw [if_pos c1]
          by_cases c2:a'≤r∧r<i'-1
          · rw [if_pos c2];exact hB _ _ (by omega) (by omega) (by omega)
          · rw [if_neg c2]
            by_cases c3:r=i'-1
            · rw [if_pos c3];exact le_of_lt (g4 _ (by omega) (by omega))
            · rw [if_neg c3];exact hB _ _ (by omega) (by omega) (by omega)
        · rw [if_neg c1,if_neg (by omega:¬(a'≤r∧r<i'-1))]
          by_cases c3:q=i'-1
          · rw [if_pos c3]
            by_cases c4:r=i'-1
            · rw [if_pos c4];exact le_refl _
            · rw [if_neg c4];exact qJ (g5 r (by omega) (by omega))
          · rw [if_neg c3,if_neg (by omega)];exact hB _ _ (by omega) (by omega) (by omega)
  ·
    have hm:b=m+1:=by omega
    subst hm
    refine aA (fun(y:Int×Int×Int×List aj×Unit)=>y.1=m∧y.2.2.2.1=d∧a≤y.2.1∧y.2.1≤y.2.2.1∧y.2.2.1≤m∧(∀q,a≤q→q<y.2.1→¬fQ ((d).getD (m).toNat default).atoms ((d).getD (q).toNat default).atoms<0)∧(∀q,y.2.2.1≤q→q<m→fQ ((d).getD (m).toNat default).atoms ((d).getD (q).toNat default).atoms<0)) (fun y=>(y.2.2.1-y.2.1).toNat)
      ⟨rfl,rfl,by simp,by simp;omega,by simp,fun q g1 g2=>by dsimp only at g2;omega,fun q g1 g2=>by dsimp only at g1;omega⟩ ?_
    rintro⟨(m':Int),(i:Int),(j:Int),(d':List aj),⟨⟩⟩ hI
    dsimp only at hI ⊢
    obtain⟨rfl,rfl,g1,g2,g3,g4,g5⟩:=hI
    simp (disch:=omega) only [RR,half,hp _ _ (hs.at _),hf _ _ (hs.at _)]
    refine⟨fun g6=>⟨by omega,by omega,by omega,by omega,by omega,by omega,by omega,by omega,by omega,fun g7=>⟨⟨by omega,by omega,by omega,fun q k1 k2=> ?_,g5⟩,by omega⟩,fun g7=>⟨⟨by omega,by omega,by omega,g4,fun q k1 k2=> ?_⟩,by omega⟩⟩,fun g6=> ?_⟩
    · intro g8
      have:=hA q ((i+j)/2) k1 (by omega) (by omega)
      apply g7
      have h7:=jd g8 this
      exact h7
    · exact jd g7 (hA ((i+j)/2) q (by omega) (by omega) k2)
    have hij:i=j:=by omega
    subst hij
    refine aA (fun(y:Int×Int×List aj×Unit)=>y.1=i∧i≤y.2.1∧y.2.1≤m'∧Sm d' y.2.2.1∧(∀k,0≤k→((y.2.2.1).getD (k).toNat default)=if y.2.1<k∧k≤m' then((d').getD (k-1).toNat default)else if k=y.2.1 then((d').getD (m').toNat default)else((d').getD (k).toNat default))) (fun y=>(y.2.1-i).toNat)
      ⟨rfl,by simp;omega,by simp,Sm.refl _,fun k hk=>by dsimp only;rw [if_neg (by omega)];split;(· congr 2);(· rfl)⟩ ?_
    rintro⟨(i':Int),(k:Int),(e:List aj),⟨⟩⟩ hI
    dsimp only at hI ⊢
    obtain⟨rfl,k1,k2,k3,k4⟩:=hI
    have hle:=k3.1
    simp (disch:=omega) only [RR,List.length_set]
    have e1:(e.set k.toNat ((e).getD (k-1).toNat default)).set (k-1).toNat ((e).getD (k).toNat default)=swp e k (k-1):=rfl
    rw [e1]
    refine⟨fun g7=>⟨by omega,by omega,by omega,by omega,by omega,by omega,by omega,by omega,by omega,by omega,by omega,by omega,by omega,by omega,by omega,by omega,⟨by omega,by omega,k3.trans (JO (by omega) (by omega) (by omega) (by omega)),fun q hq=> ?_⟩,by omega⟩,fun g7=> ?_⟩
    · rw [uD (by omega) (by omega) (by omega) (by omega) hq,k4 _ (by omega),k4 _ (by omega),k4 _ hq]
      repeat' split
      all_goals first | rfl | (exfalso;omega) | (congr 2;omega)
    · have hk:k=i':=by omega
      subst hk
      refine⟨k3,fun q hq hq2=> ?_,fun q hq hq2=> ?_,fun q r q1 q2 q3=> ?_⟩
      · rw [k4 q hq,if_neg (by omega),if_neg (by omega)]
      · rw [k4 q (by omega)]
        repeat' split
        · exact⟨q-1,by omega,by omega,rfl⟩
        · exact⟨m',by omega,by omega,rfl⟩
        · exact⟨q,by omega,by omega,rfl⟩
      · rw [k4 q (by omega),k4 r (by omega)]
        by_cases c1:k<q∧q≤m'
        · rw [if_pos c1,if_pos (by omega)];exact hA _ _ (by omega) (by omega) (by omega)
        · rw [if_neg c1]
          by_cases c3:q=k
          · rw [if_pos c3]
            by_cases c2:k<r∧r≤m'
            · rw [if_pos c2];exact le_of_lt (g5 _ (by omega) (by omega))
            · rw [if_neg c2,if_pos (by omega)];exact le_refl _
          · rw [if_neg c3]
            by_cases c2:k<r∧r≤m'
            · rw [if_pos c2];exact hA _ _ (by omega) (by omega) (by omega)
            · rw [if_neg c2]
              by_cases c4:r=k
              · rw [if_pos c4];exact qJ (g4 _ (by omega) (by omega))
              · rw [if_neg c4];exact hA _ _ (by omega) (by omega) (by omega)
  ·
    simp (disch:=omega) only [RR,half]
    refine⟨by omega,fun h7=> ?_,fun h7=> ?_⟩
    · refine aA (fun(y:Int×Int×Int×Int×Int×Int×Int×Int×List aj×Unit)=>y.1=a∧y.2.1=m∧y.2.2.1=b∧y.2.2.2.1=(a+b)/2∧y.2.2.2.2.1=(a+b)/2+m∧y.2.2.2.2.2.2.2.1=(a+b)/2+m-1∧y.2.2.2.2.2.2.2.2.1=d∧(a+b)/2+m-b≤y.2.2.2.2.2.1∧y.2.2.2.2.2.1≤y.2.2.2.2.2.2.1∧y.2.2.2.2.2.2.1≤(a+b)/2
          ∧(∀q,(a+b)/2+m-b≤q→q<y.2.2.2.2.2.1→¬fQ ((d).getD ((a+b)/2+m-1-q).toNat default).atoms ((d).getD (q).toNat default).atoms<0)∧(∀q,y.2.2.2.2.2.2.1≤q→q< (a+b)/2→fQ ((d).getD ((a+b)/2+m-1-q).toNat default).atoms ((d).getD (q).toNat default).atoms<0)) (fun y=>(y.2.2.2.2.2.2.1-y.2.2.2.2.2.1).toNat)
        ⟨rfl,rfl,rfl,rfl,rfl,rfl,rfl,by simp,by simp;omega,by simp,fun q g1 g2=>by dsimp only at g2;omega,fun q g1 g2=>by dsimp only at g1;omega⟩ ?_
      rintro⟨(a':Int),(m':Int),(b':Int),(mid:Int),(n:Int),(i:Int),(j:Int),(r:Int),(d':List aj),⟨⟩⟩ hI
      dsimp only at hI ⊢
      obtain⟨rfl,rfl,rfl,hmid,hn,hr,rfl,g1,g2,g3,g4,g5⟩:=hI
      rw [←hmid]at g1 g3 g4 g5 h7
      simp (disch:=omega) only [RR,half,hp _ _ (hs.at _),hf _ _ (hs.at _)]
      refine⟨fun g6=>⟨by omega,by omega,by omega,by omega,by omega,by omega,by omega,by omega,by omega,fun g7=>⟨⟨hmid,hn,hr,by omega,by omega,by omega,fun q k1 k2=> ?_,by rw [←hmid];exact g5⟩,by omega⟩,fun g7=>⟨⟨hmid,hn,hr,by omega,by omega,by omega,by rw [←hmid];exact g4,fun q k1 k2=> ?_⟩,by omega⟩⟩,fun g6=> ?_⟩
      · rw [←hmid]at k1 ⊢
        intro g8
        apply g7
        rw [hr,←hmid]
        exact dw (hB _ _ (by omega) (by omega) (by omega)) (jd g8 (hA _ _ (by omega) (by omega) (by omega)))
      · rw [←hmid]at k2 ⊢
        rw [hr,←hmid]at g7
        exact dw (hB _ _ (by omega) (by omega) (by omega)) (jd g7 (hA _ _ (by omega) (by omega) (by omega)))
      · have hij:i=j:=by omega
        subst hij
        refine Ns hp2 hf2 K hp3 hf3 a' m' b' mid i (n-i) d' ⟨hs,h1,h2,h3,h4,hA,hB⟩ hK hmid (by omega) (by omega) (by omega) (by omega) (by omega) (by omega) (by omega) ?_ ?_
        · by_cases c:i=mid+m'-b'
          · first | exact Or.inl (by omega) | exact Or.inr (Or.inl (by omega))
          · refine Or.inr (Or.inr ?_)
            have:=g4 (i-1) (by omega) (by omega)
            rw [show mid+m'-1- (i-1)=n-i by omega]at this
            exact qJ this
        · by_cases c:i=mid
          · first | exact Or.inl (by omega) | exact Or.inr (Or.inl (by omega))
          · refine Or.inr (Or.inr ?_)
            have:=g5 i (by omega) (by omega)
            rw [show mid+m'-1-i=n-i-1 by omega]at this
            exact le_of_lt this
    · refine aA (fun(y:Int×Int×Int×Int×Int×Int×Int×Int×List aj×Unit)=>y.1=a∧y.2.1=m∧y.2.2.1=b∧y.2.2.2.1=(a+b)/2∧y.2.2.2.2.1=(a+b)/2+m∧y.2.2.2.2.2.2.2.1=(a+b)/2+m-1∧y.2.2.2.2.2.2.2.2.1=d∧a≤y.2.2.2.2.2.1∧y.2.2.2.2.2.1≤y.2.2.2.2.2.2.1∧y.2.2.2.2.2.2.1≤m
          ∧(∀q,a≤q→q<y.2.2.2.2.2.1→¬fQ ((d).getD ((a+b)/2+m-1-q).toNat default).atoms ((d).getD (q).toNat default).atoms<0)∧(∀q,y.2.2.2.2.2.2.1≤q→q<m→fQ ((d).getD ((a+b)/2+m-1-q).toNat default).atoms ((d).getD (q).toNat default).atoms<0)) (fun y=>(y.2.2.2.2.2.2.1-y.2.2.2.2.2.1).toNat)
        ⟨rfl,rfl,rfl,rfl,rfl,rfl,rfl,by simp,by simp;omega,by simp,fun q g1 g2=>by dsimp only at g2;omega,fun q g1 g2=>by dsimp only at g1;omega⟩ ?_
      rintro⟨(a':Int),(m':Int),(b':Int),(mid:Int),(n:Int),(i:Int),(j:Int),(r:Int),(d':List aj),⟨⟩⟩ hI
      dsimp only at hI ⊢
      obtain⟨rfl,rfl,rfl,hmid,hn,hr,rfl,g1,g2,g3,g4,g5⟩:=hI
      rw [←hmid]at g4 g5 h7
      simp (disch:=omega) only [RR,half,hp _ _ (hs.at _),hf _ _ (hs.at _)]
      refine⟨fun g6=>⟨by omega,by omega,by omega,by omega,by omega,by omega,by omega,by omega,by omega,fun g7=>⟨⟨hmid,hn,hr,by omega,by omega,by omega,fun q k1 k2=> ?_,by rw [←hmid];exact g5⟩,by omega⟩,fun g7=>⟨⟨hmid,hn,hr,by omega,by omega,by omega,by rw [←hmid];exact g4,fun q k1 k2=> ?_⟩,by omega⟩⟩,fun g6=> ?_⟩
      · rw [←hmid]
        intro g8
        apply g7
        rw [hr,←hmid]
        exact dw (hB _ _ (by omega) (by omega) (by omega)) (jd g8 (hA _ _ (by omega) (by omega) (by omega)))
      · rw [←hmid]
        rw [hr,←hmid]at g7
        exact dw (hB _ _ (by omega) (by omega) (by omega)) (jd g7 (hA _ _ (by omega) (by omega) (by omega)))
      · have hij:i=j:=by omega
        subst hij
        refine Ns hp2 hf2 K hp3 hf3 a' m' b' mid i (n-i) d' ⟨hs,h1,h2,h3,h4,hA,hB⟩ hK hmid (by omega) (by omega) (by omega) (by omega) (by omega) (by omega) (by omega) ?_ ?_
        · by_cases c:i=a'
          · first | exact Or.inl (by omega) | exact Or.inr (Or.inl (by omega))
          · refine Or.inr (Or.inr ?_)
            have:=g4 (i-1) (by omega) (by omega)
            rw [show mid+m'-1- (i-1)=n-i by omega]at this
            exact qJ this
        · by_cases c:i=m'
          · first | exact Or.inl (by omega) | exact Or.inr (Or.inl (by omega))
          · refine Or.inr (Or.inr ?_)
            have:=g5 i (by omega) (by omega)
            rw [show mid+m'-1-i=n-i-1 by omega]at this
            exact le_of_lt this
end Go.TX.F
namespace Go.TX.F
open Go Go.AE Go.TX
theorem u7 {s a x:Int} (h:s ∣ a) (h1:a<x) (h2:x<a+s):¬s ∣ x:=fun h3=>by
  have:=Int.le_of_dvd (by omega) (Int.dvd_sub h3 h);omega
theorem kX.adj {d:List aj} {a b:Int} (h:∀p,a≤p→p+1<b→le ((d).getD (p).toNat default) ((d).getD (p+1).toNat default)):kX d a b:=by
  intro p q h1 h2 h3
  obtain⟨n,hn⟩:∃n:Nat,q=p+n:=⟨(q-p).toNat,by omega⟩
  subst hn
  clear h2
  induction n with
  | zero=>rw [show p+((0:Nat):Int)=p by omega];exact le_refl _
  | succ n ih=>
    have:=h (p+n) (by omega) (by omega)
    rw [show p+((n+1:Nat):Int)=p+n+1 by omega]
    exact(ih (by omega)).trans this
theorem kX.at1 {d:List aj} {a b p:Int} (h:kX d a b) (h1:a≤p) (h2:p+1<b):le ((d).getD (p).toNat default) ((d).getD (p+1).toNat default):=h p (p+1) h1 (by omega) h2
def Bl (d:List aj) (s n:Int):Prop:=∀p,0≤p→p+1<n→¬s ∣ p+1→le ((d).getD (p).toNat default) ((d).getD (p+1).toNat default)
theorem WQ {p:Int×Int×List aj×Unit→Bool} {f:Int×Int×List aj×Unit→List aj×Unit}
    (hp:∀(a b:Int) (d:List aj),Sh d→0≤a→a≤b→b≤d.length→p (a,b,d,())=true) (hf:∀(a b:Int) (d:List aj),Sh d→0≤a→a≤b→b≤d.length→Sm d (f (a,b,d,())).1∧Out d (f (a,b,d,())).1 a b∧kX (f (a,b,d,())).1 a b)
    {p3:Int×Int×Int×List aj×Unit→Bool} {f3:Int×Int×Int×List aj×Unit→List aj×Unit}
    (hp3:∀(a m b:Int) (d:List aj),AZ a m b d→p3 (a,m,b,d,())=true) (hf3:∀(a m b:Int) (d:List aj),AZ a m b d→Mrg d (f3 (a,m,b,d,())).1 a b)
    (n:Int) (d:List aj) (hd:Sh d) (hn:n=d.length):
    FJ (std 0) p f p3 f3 (n,d,()) (fun y=>Sm d y.1∧kX y.1 0 n):=by
  have hlen:=hd.1
  dsimp only [FJ,Alg.cl,Alg.cg,Alg.rb,Alg.bd,Alg.l1,Tup.q,Tup.o]
  simp (disch:=omega) only [RR]
  refine aA (fun(y:Int×Int×Int×Int×List aj×Unit)=>y.1=n∧y.2.1=20∧0≤y.2.2.1∧y.2.2.1≤n∧(20:Int) ∣ y.2.2.1∧y.2.2.2.1=y.2.2.1+20∧Sm d y.2.2.2.2.1∧Bl y.2.2.2.2.1 20 y.2.2.1) (fun y=>(n+20-y.2.2.2.1).toNat)
    ⟨rfl,rfl,by simp,by simp;omega,⟨0,by simp⟩,rfl,Sm.refl _,fun p h1 h2=>by dsimp only at h2;omega⟩ ?_
  rintro⟨(n':Int),(s:Int),(a:Int),(b:Int),(e:List aj),⟨⟩⟩ hI
  dsimp only at hI ⊢
  obtain⟨rfl,rfl,h1,h2,h3,rfl,h5,h6⟩:=hI
  have hle:=h5.1
  have hs:=h5.sh hd
  simp (disch:=omega) only [RR]
  have bl:∀a c (e e':List aj),0≤a→(20:Int) ∣ a→c≤a+20→Bl e 20 a→Out e e' a c→kX e' a c→Bl e' 20 c:=by
    intro a c e e' c0 c1 c2 c3 c4 c5 q q1 q2 q3
    by_cases k1:q+1<a
    · rw [c4 q q1 (by omega),c4 (q+1) (by omega) (by omega)];exact c3 q q1 k1 q3
    · exact c5.at1 (by omega) q2
  refine⟨fun h7=> ?_,fun h7=> ?_⟩
  · obtain⟨t1,t2,t3⟩:=hf a (a+20) e hs h1 (by omega) (by omega)
    exact⟨hp a (a+20) e hs h1 (by omega) (by omega),⟨by omega,by omega,by omega,h5.trans t1,bl a (a+20) _ _ h1 h3 (by omega) h6 t2 t3⟩,by omega⟩
  obtain⟨t1,t2,t3⟩:=hf a n' e hs h1 (by omega) (by omega)
  refine⟨hp a n' e hs h1 (by omega) (by omega),?_⟩
  have t4:=bl a n' _ _ h1 h3 (by omega) h6 t2 t3
  generalize (f (a,n',e,())).1=e2 at t1 t2 t3 t4 ⊢
  have u1:=h5.trans t1
  clear t1 t2 t3 h5 h6
  refine aA (fun(y:Int×Int×List aj×Unit)=>y.1=n'∧0<y.2.1∧(y.2.1≤20∨y.2.1≤2*n')∧Sm d y.2.2.1∧Bl y.2.2.1 y.2.1 n') (fun y=>(n'-y.2.1).toNat)
    ⟨rfl,by simp,Or.inl (by simp),u1,t4⟩ ?_
  rintro⟨(n:Int),(s:Int),(e3:List aj),⟨⟩⟩ hI
  dsimp only at hI ⊢
  obtain⟨rfl,g1,g2,g3,g4⟩:=hI
  simp (disch:=omega) only [RR]
  refine⟨fun g5=> ?_,fun g5=>⟨g3,kX.adj fun q q1 q2=>g4 q q1 q2 (u7 (a:=0) ⟨0,by simp⟩ (by omega) (by omega))⟩⟩
  refine aA (fun(y:Int×Int×Int×Int×List aj×Unit)=>y.1=n∧y.2.1=s∧0≤y.2.2.1∧y.2.2.1≤n∧(2*s) ∣ y.2.2.1∧y.2.2.2.1=y.2.2.1+2*s∧Sm d y.2.2.2.2.1
      ∧∀p,0≤p→p+1<n→¬(2*s) ∣ p+1→(p+1<y.2.2.1∨¬s ∣ p+1)→le ((y.2.2.2.2.1).getD (p).toNat default) ((y.2.2.2.2.1).getD (p+1).toNat default)) (fun y=>(n+2*s-y.2.2.2.1).toNat)
    ⟨rfl,rfl,by simp,by simp;omega,⟨0,by simp⟩,by simp,g3,fun q q1 q2 q3 q4=>g4 q q1 q2 (by dsimp only at q4;rcases q4 with q4 | q4;(· omega);(· exact q4))⟩ ?_
  rintro⟨(n':Int),(s':Int),(a:Int),(b:Int),(e4:List aj),⟨⟩⟩ hI
  dsimp only at hI ⊢
  obtain⟨rfl,rfl,k1,k2,k3,rfl,k5,k6⟩:=hI
  have hle:=k5.1
  have hs:=k5.sh hd
  have ks:s' ∣ a:=Int.dvd_trans ⟨2,by omega⟩ k3
  simp (disch:=omega) only [RR]
  have blk:∀x,x≤n'→a+s'<x→x≤a+2*s'→AZ a (a+s') x e4:=fun x x1 x2 x3=>
    ⟨hs,k1,by omega,x2,by omega,kX.adj fun q q1 q2=>by
      refine k6 q (by omega) (by omega) (u7 k3 (by omega) (by omega)) (Or.inr (u7 ks (by omega) (by omega))),
      kX.adj fun q q1 q2=>by
      refine k6 q (by omega) (by omega) (u7 k3 (by omega) (by omega)) (Or.inr (u7 (Int.dvd_add ks (Int.dvd_refl s')) (by omega) (by omega)))⟩
  have stp:∀x e5,x≤n'→(x=a+2*s'∨x=n')→x≤a+2*s'→Mrg e4 e5 a x→∀p,0≤p→p+1<n'→¬(2*s') ∣ p+1→(p+1<x∨¬s' ∣ p+1)→le ((e5).getD (p).toNat default) ((e5).getD (p+1).toNat default):=by
    intro x e5 x1 x2 x3 m1 q q1 q2 q3 q4
    by_cases c1:q+1<a
    · rw [m1.out q q1 (by omega),m1.out (q+1) (by omega) (by omega)];exact k6 q q1 q2 q3 (Or.inl c1)
    · by_cases c2:q+1=a
      · rw [c2]at q3;exact absurd k3 q3
      · by_cases c3:q+1<x
        · exact m1.srt.at1 (by omega) c3
        · by_cases c4:q+1=x
          · exfalso
            rcases x2 with x2 | x2
            · rw [c4,x2]at q3;exact q3 (Int.dvd_add k3 (Int.dvd_refl _))
            · omega
          · rw [m1.out q q1 (by omega),m1.out (q+1) (by omega) (by omega)]
            refine k6 q q1 q2 q3 (Or.inr ?_)
            rcases q4 with q4 | q4
            · omega
            · exact q4
  refine⟨fun k7=> ?_,fun k7=>⟨fun k8=> ?_,fun k8=> ?_⟩⟩
  · have pre:=blk (a+2*s') k7 (by omega) (by omega)
    have m1:=hf3 _ _ _ _ pre
    exact⟨hp3 _ _ _ _ pre,⟨by omega,by omega,Int.dvd_add k3 (Int.dvd_refl _),k5.trans m1.sm,stp _ _ k7 (Or.inl rfl) (by omega) m1⟩,by omega⟩
  · have pre:=blk n' (by omega) k8 (by omega)
    have m1:=hf3 _ _ _ _ pre
    refine⟨hp3 _ _ _ _ pre,⟨by omega,Or.inr (by omega),k5.trans m1.sm,fun q q1 q2 q3=> ?_⟩,by omega⟩
    exact stp _ _ (by omega) (Or.inr rfl) (by omega) m1 q q1 q2 (by rw [Int.mul_comm];exact q3) (Or.inl q2)
  · refine⟨⟨by omega,Or.inr (by omega),k5,fun q q1 q2 q3=> ?_⟩,by omega⟩
    rw [Int.mul_comm]at q3
    by_cases c1:q+1<a
    · exact k6 q q1 q2 q3 (Or.inl c1)
    · by_cases c2:q+1=a
      · rw [c2]at q3;exact absurd k3 q3
      · exact k6 q q1 q2 q3 (Or.inr (u7 ks (by omega) (by omega)))
theorem WR {p:Int×List aj×Unit→Bool} {f:Int×List aj×Unit→List aj×Unit} (hp:∀(n:Int) (d:List aj),Sh d→n=d.length→p (n,d,())=true)
    (hf:∀(n:Int) (d:List aj),Sh d→n=d.length→Sm d (f (n,d,())).1∧kX (f (n,d,())).1 0 n) (d:List aj) (hd:Sh d):
    FK (std 0) p f (d,()) (fun y=>Sm d y.1∧kX y.1 0 d.length):=by
  have:=hf _ d hd rfl
  dsimp only [FK,Alg.cl,Alg.cg,Alg.rb,Alg.bd,Alg.l1,Tup.q,Tup.o]
  exact⟨hp _ d hd rfl,this⟩
end Go.TX.F
namespace Go.TX.F
open Go Go.AE Go.TX
def cf (l:List aj) (k:List Int):Int:=(l.map fun m=>if m.atoms=k then m.iw else 0).sum
theorem A9 (k:List Int):cf [] k=0:=rfl
theorem eP (m:aj) (l:List aj) (k:List Int):cf (m::l) k=(if m.atoms=k then m.iw else 0)+cf l k:=by simp [cf]
theorem vg (a b:List aj) (k:List Int):cf (a++b) k=cf a k+cf b k:=by simp [cf]
theorem iM {k:List Int}:∀ {l:List aj},(∀m∈l,m.atoms≠k)→cf l k=0
  | [],_=>rfl
  | m::l,h=>by rw [eP,if_neg (h m (by simp)),iM (fun m hm=>h m (by simp [hm]))];rfl
theorem Sm.cf {a b:List aj} (h:Sm a b) (k:List Int):cf b k=cf a k:=h.sum _
def lt (a b:aj):Prop:=fQ a.atoms b.atoms<0
theorem lt.ne {a b:aj} (h:lt a b):a.atoms≠b.atoms:=fun e=>by unfold lt at h;rw [e,kr.2 rfl]at h;omega
structure Nf (o:List aj):Prop where
  ss:o.Pairwise lt
  co:∀m∈o,1≤m.iw∧m.iw≤65535
theorem Rs:∀ {o1 o2:List aj},Nf o1→Nf o2→(∀k,cf o1 k=cf o2 k)→o1=o2
  | [],[],_,_,_=>rfl
  | [],m::o,_,h2,h=>by
    have:=h m.atoms
    rw [eP,if_pos rfl,iM (fun m' hm'=>((List.rel_of_pairwise_cons h2.ss hm').ne).symm),A9]at this
    have:=(h2.co m (by simp));omega
  | m::o,[],h1,_,h=>by
    have:=h m.atoms
    rw [eP,if_pos rfl,iM (fun m' hm'=>((List.rel_of_pairwise_cons h1.ss hm').ne).symm),A9]at this
    have:=(h1.co m (by simp));omega
  | m1::o1,m2::o2,h1,h2,h=>by
    have c1:=h1.co m1 (by simp)
    have c2:=h2.co m2 (by simp)
    have z1:cf o1 m1.atoms=0:=iM fun m' hm'=>((List.rel_of_pairwise_cons h1.ss hm').ne).symm
    have z2:cf o2 m2.atoms=0:=iM fun m' hm'=>((List.rel_of_pairwise_cons h2.ss hm').ne).symm
    have tr:∀ {a b c:aj},lt a b→lt b c→lt a c:=fun g1 g2=>dw (le_of_lt g1) g2
    have e:m1.atoms=m2.atoms:=by
      by_cases g1:lt m1 m2
      · have:=h m1.atoms
        rw [eP,if_pos rfl,z1,eP,if_neg (fun e=>g1.ne e.symm),iM (fun m' hm'=>((tr g1 (List.rel_of_pairwise_cons h2.ss hm')).ne).symm)]at this
        omega
      · by_cases g2:lt m2 m1
        · have:=h m2.atoms
          rw [eP,if_neg (fun e=>g2.ne e.symm),iM (fun m' hm'=>((tr g2 (List.rel_of_pairwise_cons h1.ss hm')).ne).symm),eP,if_pos rfl,z2]at this
          omega
        · unfold lt at g1 g2
          rw [uZ]at g2
          exact kr.1 (by omega)
    have ec:m1.iw=m2.iw:=by
      have:=h m1.atoms
      rw [eP,if_pos rfl,z1,eP,if_pos e.symm,e,z2]at this;omega
    have em:m1=m2:=by cases m1;cases m2;simp_all
    subst em
    refine congrArg _ (Rs ⟨h1.ss.tail,fun m hm=>h1.co m (by simp [hm])⟩ ⟨h2.ss.tail,fun m hm=>h2.co m (by simp [hm])⟩ (fun k=>by
      have:=h k;rw [eP,eP]at this;omega))
noncomputable def nf (l:List aj):List aj:= @dite _ (∃o,Nf o∧∀k,cf o k=cf l k%65536) (Classical.propDecidable _) (fun h=>Classical.choose h) (fun _=> [])
theorem WS {l o:List aj} (h:Nf o) (h2:∀k,cf o k=cf l k%65536):nf l=o:=by
  have he:∃o,Nf o∧∀k,cf o k=cf l k%65536:=⟨o,h,h2⟩
  unfold nf;rw [dif_pos he]
  have:=Classical.choose_spec he
  exact Rs this.1 h (fun k=>(this.2 k).trans (h2 k).symm)
noncomputable def uE (l:List aj):Bool×List aj:=(bp (aX (nf l)),if bp (aX (nf l))then nf l else [])
def Cb (l:List aj):Prop:=∀m∈l,0≤m.iw∧m.iw≤65535
theorem acy {p1:List Int×List Int×Unit→Bool} {f1:List Int×List Int×Unit→Int×Unit} (hp1:∀a b,a.length<1000000000→p1 (a,b,())=true) (hf1:∀a b,a.length<1000000000→f1 (a,b,())=(fQ a b,()))
    {p2:List aj×Unit→Bool} {f2:List aj×Unit→Bool×Unit} (hp2:∀a,Sh a→p2 (a,())=true) (hf2:∀a,Sh a→f2 (a,())=(bp (aX a),()))
    {p3:Int×Unit→Bool} {f3:Int×Unit→Int×Unit} (hp3:∀a,p3 (a,())=true) (hf3:∀a,f3 (a,())=(a%65536,()))
    {p4:List Int×Unit→Bool} {f4:List Int×Unit→List Int×Unit} (hp4:∀a,a.length≤1073741824→p4 (a,())=true) (hf4:∀a,a.length≤1073741824→f4 (a,())=(a,()))
    {p5:List aj×Unit→Bool} {f5:List aj×Unit→List aj×Unit} (hp5:∀d,Sh d→p5 (d,())=true) (hf5:∀d,Sh d→Sm d (f5 (d,())).1∧kX (f5 (d,())).1 0 d.length)
    (l:List aj) (hl:Sh l) (hc:Cb l):MZ (std 0) p1 f1 p2 f2 p3 f3 p4 f4 p5 f5 (l,()) (fun y=>y.1=(uE l).1∧y.2.2.1=(uE l).2):=by
  obtain⟨s1,s2⟩:=hf5 l hl
  dsimp only [MZ,Alg.cl,Alg.cg,Alg.rb,Alg.bd,Alg.l1,Tup.q,Tup.o]
  simp (disch:=omega) only [RR,hp5 l hl]
  generalize (f5 (l,())).1=d at s1 s2 ⊢
  have hle:=s1.1
  have hs:=s1.sh hl
  have hlen:=hs.1
  have hcd:Cb d:=fun m hm=>hc m (s1.mem hm)
  refine aA (fun(y:Int×List aj×List aj×Unit)=>0≤y.1∧y.1≤d.length∧y.2.1=d∧Nf y.2.2.1∧y.2.2.1.length≤y.1∧(∀k,cf y.2.2.1 k=cf (d.take y.1.toNat) k%65536)∧(∀m∈y.2.2.1,m∈y.2.2.1→m.atoms.length<1000000000)
      ∧(y.1<d.length→(∀m∈y.2.2.1,lt m ((d).getD (y.1).toNat default))∧(∀m∈d.take y.1.toNat,lt m ((d).getD (y.1).toNat default)))) (fun y=>(d.length-y.1).toNat)
    ⟨by simp,by simp,rfl,⟨List.Pairwise.nil,fun m hm=>absurd hm (by simp)⟩,by simp,fun k=>by simp [cf],fun m hm=>absurd hm (by simp),fun _=>⟨fun m hm=>absurd hm (by simp),fun m hm=>absurd hm (by simp)⟩⟩ ?_
  rintro⟨(i:Int),(d':List aj),(o:List aj),⟨⟩⟩ hI
  dsimp only at hI ⊢
  obtain⟨h1,h2,rfl,h4,h5,h6,h7,h8⟩:=hI
  have ho:Sh o:=⟨by omega,fun m hm=>h7 m hm hm⟩
  simp (disch:=omega) only [RR,hp2 o ho,hf2 o ho]
  refine⟨fun h9=>⟨by omega,by omega,by omega,by omega,?_⟩,fun h9=> ?_⟩
  · obtain⟨g1,g2⟩:=h8 h9
    have z:cf (d'.take i.toNat) ((d').getD (i).toNat default).atoms=0:=iM fun m hm=>(g2 m hm).ne
    refine aA (fun(y:Int×Int×List aj×aj×List aj×Unit)=>i≤y.1∧y.1≤d'.length∧y.2.2.1=d'∧y.2.2.2.1=((d').getD (i).toNat default)∧y.2.2.2.2.1=o∧y.2.1=cf (d'.take y.1.toNat) ((d').getD (i).toNat default).atoms%65536
        ∧(∀k,k≠((d').getD (i).toNat default).atoms→cf (d'.take y.1.toNat) k=cf (d'.take i.toNat) k)∧(∀m∈d'.take y.1.toNat,lt m ((d').getD (i).toNat default)∨m.atoms=((d').getD (i).toNat default).atoms)) (fun y=>(d'.length-y.1).toNat)
      ⟨by simp,by simp;omega,rfl,rfl,rfl,by rw [z];rfl,fun k _=>rfl,fun m hm=>Or.inl (g2 m hm)⟩ ?_
    rintro⟨(j:Int),(c:Int),(d'':List aj),(fi:aj),(o':List aj),⟨⟩⟩ hI
    dsimp only at hI ⊢
    obtain⟨k1,k2,rfl,rfl,rfl,k6,k7,k8⟩:=hI
    have hc0:0≤c∧c<65536:=by omega
    have hcj:j<d''.length→0≤((d'').getD (j).toNat default).iw∧((d'').getD (j).toNat default).iw≤65535:=fun h=>hcd _ (kQ (by omega) h)
    simp (disch:=omega) only [RR,hp1 _ _ (hs.at _),hf1 _ _ (hs.at _),hp3,hf3,hp4 _ (Nat.le_trans (Nat.le_of_lt (hs.at _)) (by omega)),hf4 _ (Nat.le_trans (Nat.le_of_lt (hs.at _)) (by omega))]
    refine⟨by omega,by omega,by omega,by omega,fun⟨m1,m2⟩=> ?_,fun m1=>⟨fun m2=>⟨?_,?_,?_⟩,fun m2=>⟨?_,?_⟩⟩⟩
    · have e:=kr.1 m2
      have:=hcj m1
      rw [w64 (by omega) (by omega)]
      have ts:d''.take (j+1).toNat=d''.take j.toNat++ [((d'').getD (j).toNat default)]:=(ko (by omega) m1 rfl).symm
      refine⟨by omega,by omega,by omega,by omega,⟨by omega,by omega,?_,fun k hk=> ?_,fun m hm=> ?_⟩,by omega⟩
      · rw [ts,vg,eP,if_pos e.symm,A9,k6];omega
      · rw [ts,vg,eP,if_neg (fun h=>hk (by rw [e,h])),A9,k7 k hk];omega
      · rw [ts,List.mem_append,List.mem_singleton]at hm
        rcases hm with hm | hm
        · exact k8 m hm
        · right;rw [hm,e]
    all_goals
      have hb:j<d''.length→lt ((d'').getD (i).toNat default) ((d'').getD (j).toNat default):=fun hj=>by
        rw [decide_eq_true hj,Bool.true_and,decide_eq_false_iff_not]at m1
        have:=s2 i j h1 k1 (by omega)
        unfold le at this;unfold lt;omega
      have hij:i<j:=by
        by_cases hj:j<d''.length
        · by_cases e:i=j
          · have:=(hb hj).ne;rw [e]at this;exact absurd rfl this
          · omega
        · omega
    · simp only [List.length_append,List.length_cons,List.length_nil];omega
    · have co:∀k,cf (o'++ [⟨c,((d'').getD (i).toNat default).atoms⟩]) k=cf (d''.take j.toNat) k%65536:=fun k=>by
        rw [vg,eP,A9]
        dsimp only
        by_cases hk:((d'').getD (i).toNat default).atoms=k
        · subst hk
          rw [if_pos rfl,iM (fun m hm=>(g1 m hm).ne),k6];omega
        · rw [if_neg hk,k7 k (fun e=>hk e.symm),h6 k];omega
      refine⟨by omega,by omega,⟨?_,?_⟩,?_,co,?_,fun hj=>⟨?_,?_⟩⟩
      · rw [List.pairwise_append]
        exact⟨h4.ss,List.pairwise_singleton _ _,fun a ha b hb=>by rw [List.mem_singleton]at hb;subst hb;exact g1 a ha⟩
      · intro m hm
        rw [List.mem_append,List.mem_singleton]at hm
        rcases hm with hm | rfl
        · exact h4.co m hm
        · dsimp only;omega
      · simp only [List.length_append,List.length_cons,List.length_nil];omega
      · intro m hm _
        rw [List.mem_append,List.mem_singleton]at hm
        rcases hm with hm | rfl
        · exact h7 m hm hm
        · exact hs.at _
      · intro m hm
        rw [List.mem_append,List.mem_singleton]at hm
        rcases hm with hm | rfl
        · exact dw (le_of_lt (g1 m hm)) (hb hj)
        · exact hb hj
      · intro m hm
        rcases k8 m hm with k | k
        · exact dw (le_of_lt k) (hb hj)
        · have:=hb hj;unfold lt at this ⊢;rw [k];exact this
    · omega
    · refine⟨by omega,by omega,h4,by omega,fun k=> ?_,h7,fun hj=>⟨?_,?_⟩⟩
      · by_cases hk:((d'').getD (i).toNat default).atoms=k
        · subst hk
          rw [iM (fun m hm=>(g1 m hm).ne)];omega
        · rw [k7 k (fun e=>hk e.symm),h6 k]
      · intro m hm
        exact dw (le_of_lt (g1 m hm)) (hb hj)
      · intro m hm
        rcases k8 m hm with k | k
        · exact dw (le_of_lt k) (hb hj)
        · have:=hb hj;unfold lt at this ⊢;rw [k];exact this
    · omega
  · have e:nf l=o:=WS h4 (fun k=>by rw [h6 k,List.take_of_length_le (by omega),s1.cf k])
    unfold uE
    rw [e]
    refine⟨fun h=> ?_,fun h=> ?_⟩
    · rw [h];exact⟨rfl,by simp⟩
    · rw [h];exact⟨rfl,by simp⟩
end Go.TX.F
namespace Go.TX.F
open Go Go.AE Go.TX
theorem WT (n:Int) (h1:0≤n) (h2:n≤1073741824):FL (std 0) (n,()) (fun y=>y=([],())):=by
  dsimp only [FL,Alg.cl,Alg.cg,Alg.rb,Alg.bd,Alg.l1,Tup.q,Tup.o]
  simp (disch:=omega) only [RR]
  refine⟨fun h=>by omega,fun _ h=>⟨by omega,by omega,by rw [List.length_replicate];omega,by omega,by omega,by omega,by omega,by omega,?_⟩⟩
  rfl
theorem acz {p:Int×Unit→Bool} {f:Int×Unit→List aj×Unit} (hp:∀n:Int,0≤n→n≤1073741824→p (n,())=true) (hf:∀n:Int,0≤n→n≤1073741824→f (n,())=([],()))
    (a b:List aj) (ha:a.length≤100000000) (hb:b.length≤100000000):M0 (std 0) p f ([a,b],()) (fun y=>y=(a++b,())):=by
  dsimp only [M0,Alg.cl,Alg.cg,Alg.rb,Alg.bd,Alg.l1,Tup.q,Tup.o]
  refine aA (fun(y:List (List aj)×Int×List (List aj)×Int×Int×Unit)=>y.1=[a,b]∧y.2.2.1=[a,b]∧y.2.2.2.1=2∧((y.2.2.2.2.1=0∧y.2.1=0)∨(y.2.2.2.2.1=1∧y.2.1=a.length)∨(y.2.2.2.2.1=2∧y.2.1=a.length+b.length))) (fun y=>(2-y.2.2.2.2.1).toNat)
    ⟨rfl,rfl,rfl,Or.inl ⟨rfl,rfl⟩⟩ ?_
  rintro⟨(l:List (List aj)),(s:Int),(l2:List (List aj)),(n:Int),(i:Int),⟨⟩⟩ hI
  dsimp only at hI ⊢
  obtain⟨rfl,rfl,rfl,h⟩:=hI
  simp (disch:=omega) only [RR]
  have g0: [a,b].getD (Int.toNat 0) default=a:=rfl
  have g1: [a,b].getD (Int.toNat 1) default=b:=rfl
  have gl:([a,b].length:Int)=2:=rfl
  refine⟨fun hi=> ?_,fun hi=> ?_⟩
  · rcases h with⟨rfl,rfl⟩ | ⟨rfl,rfl⟩ | ⟨rfl,rfl⟩
    · rw [g0,w64 (by omega) (by omega)]
      exact⟨by omega,by omega,fun h=>by omega,fun h=>⟨Or.inr (Or.inl ⟨by omega,by omega⟩),by omega⟩⟩
    · rw [g1,w64 (by omega) (by omega)]
      exact⟨by omega,by omega,fun h=>by omega,fun h=>⟨Or.inr (Or.inr ⟨by omega,by omega⟩),by omega⟩⟩
    · omega
  · have hs:0≤s∧s≤200000000:=by omega
    refine⟨hp s (by omega) (by omega),?_⟩
    rw [hf s (by omega) (by omega)]
    refine aA (fun(y:List (List aj)×Int×Int×List aj×Unit)=>y.1=[a,b]∧y.2.1=2∧((y.2.2.1=0∧y.2.2.2.1=[])∨(y.2.2.1=1∧y.2.2.2.1=a)∨(y.2.2.1=2∧y.2.2.2.1=a++b))) (fun y=>(2-y.2.2.1).toNat)
      ⟨rfl,rfl,Or.inl ⟨rfl,rfl⟩⟩ ?_
    rintro⟨(l:List (List aj)),(n:Int),(j:Int),(o:List aj),⟨⟩⟩ hI
    dsimp only at hI ⊢
    obtain⟨rfl,rfl,h3⟩:=hI
    simp (disch:=omega) only [RR]
    refine⟨fun hj=> ?_,fun hj=> ?_⟩
    · rcases h3 with⟨rfl,rfl⟩ | ⟨rfl,rfl⟩ | ⟨rfl,rfl⟩
      · rw [g0]
        exact⟨by omega,by omega,by simp only [List.length_nil];omega,Or.inr (Or.inl ⟨by omega,rfl⟩),by omega⟩
      · rw [g1]
        exact⟨by omega,by omega,by omega,Or.inr (Or.inr ⟨by omega,rfl⟩),by omega⟩
      · omega
    · rcases h3 with⟨rfl,rfl⟩ | ⟨rfl,rfl⟩ | ⟨rfl,rfl⟩
      · omega
      · omega
      · rfl
theorem WU (n:Int) (h1:0≤n) (h2:n≤1073741824):FN (std 0) (n,()) (fun y=>y=([],())):=by
  dsimp only [FN,Alg.cl,Alg.cg,Alg.rb,Alg.bd,Alg.l1,Tup.q,Tup.o]
  simp (disch:=omega) only [RR]
  refine⟨fun h=>by omega,fun _ h=>⟨by omega,by omega,by rw [List.length_replicate];omega,by omega,by omega,by omega,by omega,by omega,?_⟩⟩
  rfl
theorem acA {p:Int×Unit→Bool} {f:Int×Unit→List Int×Unit} (hp:∀n:Int,0≤n→n≤1073741824→p (n,())=true) (hf:∀n:Int,0≤n→n≤1073741824→f (n,())=([],()))
    (a b:List Int) (ha:a.length≤100000000) (hb:b.length≤100000000):M5 (std 0) p f ([a,b],()) (fun y=>y=(a++b,())):=by
  dsimp only [M5,Alg.cl,Alg.cg,Alg.rb,Alg.bd,Alg.l1,Tup.q,Tup.o]
  refine aA (fun(y:List (List Int)×Int×List (List Int)×Int×Int×Unit)=>y.1=[a,b]∧y.2.2.1=[a,b]∧y.2.2.2.1=2∧((y.2.2.2.2.1=0∧y.2.1=0)∨(y.2.2.2.2.1=1∧y.2.1=a.length)∨(y.2.2.2.2.1=2∧y.2.1=a.length+b.length))) (fun y=>(2-y.2.2.2.2.1).toNat)
    ⟨rfl,rfl,rfl,Or.inl ⟨rfl,rfl⟩⟩ ?_
  rintro⟨(l:List (List Int)),(s:Int),(l2:List (List Int)),(n:Int),(i:Int),⟨⟩⟩ hI
  dsimp only at hI ⊢
  obtain⟨rfl,rfl,rfl,h⟩:=hI
  simp (disch:=omega) only [RR]
  have g0: [a,b].getD (Int.toNat 0) default=a:=rfl
  have g1: [a,b].getD (Int.toNat 1) default=b:=rfl
  have gl:([a,b].length:Int)=2:=rfl
  refine⟨fun hi=> ?_,fun hi=> ?_⟩
  · rcases h with⟨rfl,rfl⟩ | ⟨rfl,rfl⟩ | ⟨rfl,rfl⟩
    · rw [g0,w64 (by omega) (by omega)]
      exact⟨by omega,by omega,fun h=>by omega,fun h=>⟨Or.inr (Or.inl ⟨by omega,by omega⟩),by omega⟩⟩
    · rw [g1,w64 (by omega) (by omega)]
      exact⟨by omega,by omega,fun h=>by omega,fun h=>⟨Or.inr (Or.inr ⟨by omega,by omega⟩),by omega⟩⟩
    · omega
  · have hs:0≤s∧s≤200000000:=by omega
    refine⟨hp s (by omega) (by omega),?_⟩
    rw [hf s (by omega) (by omega)]
    refine aA (fun(y:List (List Int)×Int×Int×List Int×Unit)=>y.1=[a,b]∧y.2.1=2∧((y.2.2.1=0∧y.2.2.2.1=[])∨(y.2.2.1=1∧y.2.2.2.1=a)∨(y.2.2.1=2∧y.2.2.2.1=a++b))) (fun y=>(2-y.2.2.1).toNat)
      ⟨rfl,rfl,Or.inl ⟨rfl,rfl⟩⟩ ?_
    rintro⟨(l:List (List Int)),(n:Int),(j:Int),(o:List Int),⟨⟩⟩ hI
    dsimp only at hI ⊢
    obtain⟨rfl,rfl,h3⟩:=hI
    simp (disch:=omega) only [RR]
    refine⟨fun hj=> ?_,fun hj=> ?_⟩
    · rcases h3 with⟨rfl,rfl⟩ | ⟨rfl,rfl⟩ | ⟨rfl,rfl⟩
      · rw [g0]
        exact⟨by omega,by omega,by simp only [List.length_nil];omega,Or.inr (Or.inl ⟨by omega,rfl⟩),by omega⟩
      · rw [g1]
        exact⟨by omega,by omega,by omega,Or.inr (Or.inr ⟨by omega,rfl⟩),by omega⟩
      · omega
    · rcases h3 with⟨rfl,rfl⟩ | ⟨rfl,rfl⟩ | ⟨rfl,rfl⟩
      · omega
      · omega
      · rfl
theorem mOk.le {m:aj} (h:mOk m):m.atoms.length≤4:=h.2.1
theorem aX.at {p:List aj} (h:aX p) {m:aj} (hm:m∈p):mOk m:=by
  obtain⟨i,hi,rfl⟩:=List.getElem_of_mem hm
  have:=(h.1 i (by omega) (by omega)).1
  rw [show(i:Int).toNat=i from rfl,getD_lt hi]at this;exact this
theorem aX.len {p:List aj} (h:aX p):p.length≤12:=h.2.1
noncomputable def yX (a b:List aj):Bool×List aj:=if bp (aX a)&&bp (aX b)then uE (a++b)else(false,[])
theorem acB {p1:List aj×Unit→Bool} {f1:List aj×Unit→Bool×Unit} (hp1:∀a,Sh a→p1 (a,())=true) (hf1:∀a,Sh a→f1 (a,())=(bp (aX a),()))
    {p2:List aj×Unit→Bool} {f2:List aj×Unit→Bool×List aj×List aj×Unit} (hp2:∀a,Sh a→Cb a→p2 (a,())=true) (hf2:∀a,Sh a→Cb a→(f2 (a,())).1=(uE a).1∧(f2 (a,())).2.2.1=(uE a).2)
    {p3:List (List aj)×Unit→Bool} {f3:List (List aj)×Unit→List aj×Unit} (hp3:∀a b:List aj,a.length≤100000000→b.length≤100000000→p3 ([a,b],())=true) (hf3:∀a b:List aj,a.length≤100000000→b.length≤100000000→f3 ([a,b],())=(a++b,()))
    (a b:List aj) (ha:Sh a) (hb:Sh b):M4 (std 0) p1 f1 p2 f2 p3 f3 (a,b,()) (fun y=>y=((yX a b).1,(yX a b).2,())):=by
  dsimp only [M4,Alg.cl,Alg.cg,Alg.rb,Alg.bd,Alg.l1,Tup.q,Tup.o]
  simp (disch:=omega) only [RR,hp1 a ha,hf1 a ha,hp1 b hb,hf1 b hb,bX,uj]
  unfold yX
  refine⟨fun h=> ?_,fun⟨h1,h2⟩=> ?_⟩
  · rw [if_neg]
    rw [Bool.and_eq_true,bX,bX];rintro⟨g1,g2⟩
    rcases h with h | h
    · exact h g1
    · exact h g2
  · have l1:=h1.len
    have l2:=h2.len
    rw [hp3 a b (by omega) (by omega),hf3 a b (by omega) (by omega)]
    have hs:Sh (a++b):=⟨by rw [List.length_append];omega,fun m hm=>by
      rw [List.mem_append]at hm
      rcases hm with hm | hm
      · exact ha.2 m hm
      · exact hb.2 m hm⟩
    have hc:Cb (a++b):=fun m hm=>by
      rw [List.mem_append]at hm
      rcases hm with hm | hm
      · have:=(h1.at hm).1;omega
      · have:=(h2.at hm).1;omega
    obtain⟨g1,g2⟩:=hf2 _ hs hc
    refine⟨rfl,hp2 _ hs hc,?_⟩
    rw [if_pos (by rw [iA h1,iA h2];rfl),g1,g2]
def wO (l:List Int):List Int:=l.mergeSort fun x y=>decide (x≤y)
theorem Uk (l:List Int):(wO l).length=l.length:=List.length_mergeSort l
def mulM (m n:aj):aj:=⟨m.iw*n.iw%65536,wO (m.atoms++n.atoms)⟩
def prods (a b:List aj):List aj:=a.flatMap fun m=>b.map (mulM m)
theorem Ph (a b:List aj) (m:aj):prods (a++ [m]) b=prods a b++b.map (mulM m):=by simp [prods]
noncomputable def uF (a b:List aj):Bool×List aj:=if bp (aX a)&&bp (aX b)then uE (prods a b)else(false,[])
theorem aa6 {a b:Int} (h1:0≤a) (h2:a≤65535) (h3:0≤b) (h4:b≤65535):0≤a*b∧a*b≤65535*65535:=⟨Int.mul_nonneg h1 h3,Int.mul_le_mul h2 h4 h3 (by omega)⟩
theorem acC {p1:List aj×Unit→Bool} {f1:List aj×Unit→Bool×Unit} (hp1:∀a,Sh a→p1 (a,())=true) (hf1:∀a,Sh a→f1 (a,())=(bp (aX a),()))
    {p0:Int×Unit→Bool} {f0:Int×Unit→Int×Unit} (hp0:∀a,p0 (a,())=true) (hf0:∀a,f0 (a,())=(a%65536,()))
    {p2:List aj×Unit→Bool} {f2:List aj×Unit→Bool×List aj×List aj×Unit} (hp2:∀a,Sh a→Cb a→p2 (a,())=true) (hf2:∀a,Sh a→Cb a→(f2 (a,())).1=(uE a).1∧(f2 (a,())).2.2.1=(uE a).2)
    {p3:List (List Int)×Unit→Bool} {f3:List (List Int)×Unit→List Int×Unit} (hp3:∀a b:List Int,a.length≤100000000→b.length≤100000000→p3 ([a,b],())=true) (hf3:∀a b:List Int,a.length≤100000000→b.length≤100000000→f3 ([a,b],())=(a++b,()))
    {p4:List Int×Unit→Bool} {f4:List Int×Unit→List Int×Unit} (hp4:∀a:List Int,a.length≤8→p4 (a,())=true) (hf4:∀a:List Int,a.length≤8→f4 (a,())=(wO a,()))
    (a b:List aj) (ha:Sh a) (hb:Sh b):M6 (std 0) p1 f1 p0 f0 p2 f2 p3 f3 p4 f4 (a,b,()) (fun y=>y=((uF a b).1,(uF a b).2,())):=by
  dsimp only [M6,Alg.cl,Alg.cg,Alg.rb,Alg.bd,Alg.l1,Tup.q,Tup.o]
  simp (disch:=omega) only [RR,hp1 a ha,hf1 a ha,hp1 b hb,hf1 b hb,bX,uj]
  unfold uF
  refine⟨fun h=> ?_,fun⟨h1,h2⟩=> ?_⟩
  · rw [if_neg]
    rw [Bool.and_eq_true,bX,bX];rintro⟨g1,g2⟩
    rcases h with h | h
    · exact h g1
    · exact h g2
  have l1:=h1.len
  have l2:=h2.len
  rw [if_pos (by rw [iA h1,iA h2];rfl)]
  have mm:∀i j:Int,0≤i→i<a.length→0≤j→j<b.length→mOk ((a).getD (i).toNat default)∧mOk ((b).getD (j).toNat default):=fun i j i1 i2 j1 j2=>⟨h1.at (kQ i1 i2),h2.at (kQ j1 j2)⟩
  refine aA (fun(y:List aj×Int×Int×List aj×List aj×Unit)=>y.1=a∧y.2.1=a.length∧0≤y.2.2.1∧y.2.2.1≤a.length∧y.2.2.2.1=b∧y.2.2.2.2.1=prods (a.take y.2.2.1.toNat) b∧y.2.2.2.2.1.length≤12*y.2.2.1∧Sh y.2.2.2.2.1∧Cb y.2.2.2.2.1) (fun y=>(a.length-y.2.2.1).toNat)
    ⟨rfl,rfl,by simp,by simp,rfl,rfl,by simp,⟨by simp,fun m hm=>absurd hm (by simp)⟩,fun m hm=>absurd hm (by simp)⟩ ?_
  rintro⟨(a':List aj),(n:Int),(i:Int),(b':List aj),(o:List aj),⟨⟩⟩ hI
  dsimp only at hI ⊢
  obtain⟨rfl,rfl,h3,h4,rfl,h5,h6,h7,h8⟩:=hI
  simp (disch:=omega) only [RR]
  refine⟨fun h9=>⟨by omega,by omega,?_⟩,fun h9=> ?_⟩
  · refine aA (fun(y:List aj×Int×Int×List aj×Int×Int×List aj×List aj×aj×Unit)=>y.1=a'∧y.2.1=a'.length∧y.2.2.1=i∧y.2.2.2.1=b'∧y.2.2.2.2.1=b'.length∧0≤y.2.2.2.2.2.1∧y.2.2.2.2.2.1≤b'.length∧y.2.2.2.2.2.2.1=b'∧y.2.2.2.2.2.2.2.2.1=((a').getD (i).toNat default)
        ∧y.2.2.2.2.2.2.2.1=o++(b'.take y.2.2.2.2.2.1.toNat).map (mulM ((a').getD (i).toNat default))∧Sh y.2.2.2.2.2.2.2.1∧Cb y.2.2.2.2.2.2.2.1) (fun y=>(b'.length-y.2.2.2.2.2.1).toNat)
      ⟨rfl,rfl,rfl,rfl,rfl,by simp,by simp,rfl,rfl,by simp,h7,h8⟩ ?_
    rintro⟨(a'':List aj),(n:Int),(i':Int),(b'':List aj),(nb:Int),(j:Int),(b3:List aj),(o':List aj),(m:aj),⟨⟩⟩ hI
    dsimp only at hI ⊢
    obtain⟨rfl,rfl,rfl,rfl,rfl,k1,k2,rfl,rfl,k3,k4,k5⟩:=hI
    have lo:(o'.length:Int)≤12*i'+j:=by
      rw [k3,List.length_append,List.length_map];have:=List.length_take_le j.toNat b3;omega
    by_cases hj:j<b3.length
    · obtain⟨m1,m2⟩:=mm i' j h3 h9 k1 hj
      have e1:=m1.le
      have e2:=m2.le
      have la:(((a'').getD (i').toNat default).atoms++((b3).getD (j).toNat default).atoms).length≤8:=by rw [List.length_append];omega
      have hm:=aa6 (show 0≤((a'').getD (i').toNat default).iw by have:=m1.1;omega) (by have:=m1.1;omega) (show 0≤((b3).getD (j).toNat default).iw by have:=m2.1;omega) (by have:=m2.1;omega)
      simp (disch:=omega) only [RR,hp3 ((a'').getD (i').toNat default).atoms ((b3).getD (j).toNat default).atoms (by omega) (by omega),hf3 ((a'').getD (i').toNat default).atoms ((b3).getD (j).toNat default).atoms (by omega) (by omega),hp4 _ la,hf4 _ la,hp0,hf0]
      refine⟨fun _=>⟨by omega,by omega,by simp only [List.length_cons,List.length_nil];omega,⟨by omega,by omega,?_,⟨?_,?_⟩,?_⟩,by omega⟩,fun h=>by omega⟩
      · rw [←ko (d:=default) k1 hj rfl,List.map_append,k3,List.append_assoc];rfl
      · rw [List.length_append];simp only [List.length_cons,List.length_nil];omega
      · intro m hm
        rw [List.mem_append,List.mem_singleton]at hm
        rcases hm with hm | rfl
        · exact k4.2 m hm
        · dsimp only;rw [Uk];omega
      · intro m hm
        rw [List.mem_append,List.mem_singleton]at hm
        rcases hm with hm | rfl
        · exact k5 m hm
        · dsimp only;omega
    · simp (disch:=omega) only [RR]
      refine⟨fun h=>absurd h hj,fun _=>⟨⟨by omega,by omega,?_,by omega,k4,k5⟩,by omega⟩⟩
      rw [←ko (d:=default) h3 h9 rfl,Ph,←h5,k3,List.take_of_length_le (by omega)]
  · obtain⟨g1,g2⟩:=hf2 _ h7 h8
    refine⟨hp2 _ h7 h8,?_⟩
    rw [g1,g2,h5,List.take_of_length_le (by omega)]
noncomputable def kY (a:List aj) (n:Int):List aj:=if bp (aX a)&&inB n 0 65535 then(uF a (eX n)).2 else []
theorem Ip (n:Int):Sh (eX n):=by
  unfold eX;split
  · exact⟨by simp,fun m hm=>by rw [List.mem_singleton]at hm;subst hm;simp⟩
  · exact⟨by simp,fun m hm=>absurd hm (by simp)⟩
theorem acD {p1:List aj×Unit→Bool} {f1:List aj×Unit→Bool×Unit} (hp1:∀a,Sh a→p1 (a,())=true) (hf1:∀a,Sh a→f1 (a,())=(bp (aX a),()))
    {p2:Int×Unit→Bool} {f2:Int×Unit→List aj×Unit} (hp2:∀n,p2 (n,())=true) (hf2:∀n,f2 (n,())=(eX n,()))
    {p3:Int×Unit→Bool} {f3:Int×Unit→Bool×Unit} (hp3:∀a,p3 (a,())=true) (hf3:∀a,f3 (a,())=(inB a 0 65535,()))
    {p4:List aj×List aj×Unit→Bool} {f4:List aj×List aj×Unit→Bool×List aj×Unit} (hp4:∀a b,Sh a→Sh b→p4 (a,b,())=true) (hf4:∀a b,Sh a→Sh b→f4 (a,b,())=((uF a b).1,(uF a b).2,()))
    (a:List aj) (n:Int) (ha:Sh a):M7 (std 0) p1 f1 p2 f2 p3 f3 p4 f4 (a,n,()) (fun y=>y=(kY a n,())):=by
  dsimp only [M7,Alg.cl,Alg.cg,Alg.rb,Alg.bd,Alg.l1,Tup.q,Tup.o]
  simp (disch:=omega) only [RR,hp1 a ha,hf1 a ha,hp2,hf2,hp3,hf3,hp4 a _ ha (Ip n),hf4 a _ ha (Ip n)]
  unfold kY
  refine⟨fun h=> ?_,fun⟨h1,h2⟩=> ?_⟩
  · rw [if_neg];rw [Bool.and_eq_true];rintro⟨g1,g2⟩
    rcases h with h | h
    · rw [g1]at h;cases h
    · rw [g2]at h;cases h
  · rw [h1,h2];rfl
end Go.TX.F
namespace Go.TX.F
open Go Go.AE Go.TX
noncomputable def aa7 (op:Int) (x y:List aj):List aj×Bool:=
  if(eY x).2&& (eY y).2 then(eX (wdo op (eY x).1 (eY y).1),true)
  else if jf x y=0∧op=4 then(x,true)
  else if jf x y=0 then([],true)
  else if(eY x).2 then
    (if op=4∧(eY x).1=0 then([],true)else if(op=4∧(eY x).1=65535)∨(op=5∧(eY x).1=0)then(y,true)else([],false))
  else if(eY y).2 then
    (if op=4∧(eY y).1=0 then([],true)else if(op=4∧(eY y).1=65535)∨(op=5∧(eY y).1=0)then(x,true)else([],false))
  else([],false)
noncomputable def kS (op:Int) (x y:List aj):List aj×Bool:=
  if op=1 then((yX x y).2,(yX x y).1)else if op=2 then((yX x (kY y 65535)).2,(yX x (kY y 65535)).1)else if op=3 then((uF x y).2,(uF x y).1)else aa7 op x y
theorem aX.sh {l:List aj}:aX l→Sh l:=fun h=>⟨by have:=h.len;omega,fun m hm=>by have:=(h.at hm).le;omega⟩
theorem aa8 (l:List aj):Sh (uE l).2:=by
  unfold uE
  by_cases h:aX (nf l)
  · rw [iA h];exact h.sh
  · rw [iI h];exact⟨by simp,fun m hm=>absurd hm (by simp)⟩
theorem mH:Sh []:=⟨by simp,fun m hm=>absurd hm (by simp)⟩
theorem aa9 (a b:List aj):Sh (uF a b).2:=by unfold uF;split;exact aa8 _;exact mH
theorem Iq (a:List aj) (n:Int):Sh (kY a n):=by unfold kY;split;exact aa9 _ _;exact mH
theorem acE {p1:List aj×List aj×Unit→Bool} {f1:List aj×List aj×Unit→Bool×Unit} (hp1:∀a b,Sh a→p1 (a,b,())=true) (hf1:∀a b,Sh a→f1 (a,b,())=(decide (jf a b=0),()))
    {p2:Int×Unit→Bool} {f2:Int×Unit→List aj×Unit} (hp2:∀n,p2 (n,())=true) (hf2:∀n,f2 (n,())=(eX n,()))
    {p3:Int×Int×Int×Unit→Bool} {f3:Int×Int×Int×Unit→Int×Unit} (hp3:∀op a b,p3 (op,a,b,())=true) (hf3:∀op a b,f3 (op,a,b,())=(wdo op a b,()))
    {p4:List aj×List aj×Unit→Bool} {f4:List aj×List aj×Unit→Bool×List aj×Unit} (hp4:∀a b,Sh a→Sh b→p4 (a,b,())=true) (hf4:∀a b,Sh a→Sh b→f4 (a,b,())=((yX a b).1,(yX a b).2,()))
    {p5:List aj×List aj×Unit→Bool} {f5:List aj×List aj×Unit→Bool×List aj×Unit} (hp5:∀a b,Sh a→Sh b→p5 (a,b,())=true) (hf5:∀a b,Sh a→Sh b→f5 (a,b,())=((uF a b).1,(uF a b).2,()))
    {p6:List aj×Int×Unit→Bool} {f6:List aj×Int×Unit→List aj×Unit} (hp6:∀a n,Sh a→p6 (a,n,())=true) (hf6:∀a n,Sh a→f6 (a,n,())=(kY a n,()))
    {p7:List aj×Unit→Bool} {f7:List aj×Unit→Int×Bool×Unit} (hp7:∀a,Sh a→p7 (a,())=true) (hf7:∀a,Sh a→f7 (a,())=((eY a).1,(eY a).2,()))
    (op:Int) (x y:List aj) (hx:Sh x) (hy:Sh y):Na (std 0) p1 f1 p2 f2 p3 f3 p4 f4 p5 f5 p6 f6 p7 f7 (op,x,y,()) (fun z=>z=((kS op x y).1,(kS op x y).2,())):=by
  dsimp only [Na,Alg.cl,Alg.cg,Alg.rb,Alg.bd,Alg.l1,Tup.q,Tup.o]
  simp (disch:=omega) only [RR,hp1 x y hx,hf1 x y hx,hp2,hf2,hp3,hf3,hp4 x y hx hy,hf4 x y hx hy,hp4 x _ hx (Iq y 65535),hf4 x _ hx (Iq y 65535),hp5 x y hx hy,hf5 x y hx hy,hp6 y _ hy,hf6 y _ hy,hp7 x hx,hf7 x hx,hp7 y hy,hf7 y hy]
  unfold kS
  refine⟨fun h=>by rw [if_pos h],fun h=>⟨fun h1=>by rw [if_neg h,if_pos h1],fun h1=>⟨fun h2=>by rw [if_neg h,if_neg h1,if_pos h2],fun h2=> ?_⟩⟩⟩
  rw [if_neg h,if_neg h1,if_neg h2]
  unfold aa7
  generalize eY x=nx
  generalize eY y=ny
  obtain⟨n,bn⟩:=nx
  obtain⟨m,bm⟩:=ny
  dsimp only
  by_cases e:jf x y=0<;>by_cases o4:op=4<;>cases bn<;>cases bm<;>simp [e,o4]
  · by_cases c:m=0<;>by_cases c2:m=65535<;>simp [c,c2]
  · by_cases c:n=0<;>by_cases c2:n=65535<;>simp [c,c2]
  · by_cases c:op=5<;>by_cases c2:m=0<;>simp [c,c2]
  · by_cases c:op=5<;>by_cases c2:n=0<;>simp [c,c2]
noncomputable def tDo (t:List Atom) (op:Int) (x y:List aj):List Atom×List aj:=
  if(kS op x y).2 then(t,(kS op x y).1)else
  if op≠2∧0<jf x y then(if(bL t ⟨4,op,y,x⟩).2<0 then([],[])else((bL t ⟨4,op,y,x⟩).1,gT (bL t ⟨4,op,y,x⟩).2))
  else(if(bL t ⟨4,op,x,y⟩).2<0 then([],[])else((bL t ⟨4,op,x,y⟩).1,gT (bL t ⟨4,op,x,y⟩).2))
noncomputable def tOk (t:List Atom) (op:Int) (x y:List aj):Bool:=(kS op x y).2 || !decide ((if op≠2∧0<jf x y then(bL t ⟨4,op,y,x⟩).2 else(bL t ⟨4,op,x,y⟩).2)<0)
theorem acF {p1:List aj×List aj×Unit→Bool} {f1:List aj×List aj×Unit→Int×Unit} (hp1:∀a b,Sh a→p1 (a,b,())=true) (hf1:∀a b,Sh a→f1 (a,b,())=(jf a b,()))
    {p2:Int×List aj×List aj×Unit→Bool} {f2:Int×List aj×List aj×Unit→List aj×Bool×Unit} (hp2:∀op x y,Sh x→Sh y→p2 (op,x,y,())=true) (hf2:∀op x y,Sh x→Sh y→f2 (op,x,y,())=((kS op x y).1,(kS op x y).2,()))
    {p3:List Atom×Atom×Unit→Bool} {f3:List Atom×Atom×Unit→List Atom×Int×Unit} (hp3:∀t a,t.length<1000000000→ShA a→p3 (t,a,())=true) (hf3:∀t a,t.length<1000000000→ShA a→f3 (t,a,())=((bL t a).1,(bL t a).2,()))
    {p4:Int×Unit→Bool} {f4:Int×Unit→List aj×Unit} (hp4:∀n,p4 (n,())=true) (hf4:∀n,f4 (n,())=(gT n,()))
    (t:List Atom) (op:Int) (x y:List aj) (ht:t.length<1000000000) (hx:Sh x) (hy:Sh y):Nb (std 0) p1 f1 p2 f2 p3 f3 p4 f4 (t,op,x,y,()) (fun z=>z.1=(tDo t op x y).1∧z.2.1=(tDo t op x y).2∧z.2.2.1=tOk t op x y):=by
  have s1:ShA ⟨4,op,x,y⟩:=⟨hx,hy⟩
  have s2:ShA ⟨4,op,y,x⟩:=⟨hy,hx⟩
  dsimp only [Nb,Alg.cl,Alg.cg,Alg.rb,Alg.bd,Alg.l1,Tup.q,Tup.o]
  simp (disch:=omega) only [RR,hp1 x y hx,hf1 x y hx,hp2 op x y hx hy,hf2 op x y hx hy,hp3 t _ ht s1,hf3 t _ ht s1,hp3 t _ ht s2,hf3 t _ ht s2,hp4,hf4]
  unfold tDo tOk
  refine⟨fun h=>by rw [if_pos h,h];exact⟨rfl,rfl,rfl⟩,fun h=> ?_⟩
  rw [if_neg (by rw [h];simp),h,Bool.false_or]
  generalize bL t ⟨4,op,y,x⟩=r1
  generalize bL t ⟨4,op,x,y⟩=r2
  generalize jf x y=o
  by_cases c1:op=2<;>by_cases c2:0<o<;>by_cases c3:r1.2<0<;>by_cases c4:r2.2<0<;>simp [c1,c2,c3,c4]
theorem abb:ShT []:=⟨by simp,fun m hm=>absurd hm (by simp)⟩
theorem acG {p1:Int×Unit→Bool} {f1:Int×Unit→Bool×Unit} (hp1:∀a,p1 (a,())=true) (hf1:∀a,f1 (a,())=(inB a 0 65535,())):Mi (std 0) p1 f1 () (fun z=>z=(true,())):=by
  dsimp only [Mi,Alg.cl,Alg.cg,Alg.rb,Alg.bd,Alg.l1,Tup.q,Tup.o]
  simp (disch:=omega) only [RR,hp1,hf1]
  rfl
theorem JQ {α:Type} {d:α} {a b:List α} (h:a.length=b.length) (h2:All a.length (fun i=>a.getD i.toNat d=b.getD i.toNat d)):a=b:=by
  refine List.ext_getElem h fun i h3 h4=> ?_
  have:=h2 i (by omega) (by omega)
  dsimp only at this
  rw [show(i:Int).toNat=i from rfl,getD_lt h3,getD_lt h4]at this;exact this
end Go.TX.F
namespace Go.TX.F
open Go Go.AE Go.TX
theorem WW {a b:Int}:or2 a b=0↔a=0∧b=0:=by unfold or2;split<;>omega
theorem Ir {a b:aj}:Nr a b=0↔a=b:=by
  unfold Nr;rw [WW,kr,lT]
  constructor
  · rintro⟨h1,h2⟩;cases a;cases b;simp_all
  · rintro rfl;exact⟨rfl,rfl⟩
theorem Iu:∀ {a b:List aj},a.length=b.length→FW a b=0→a=b
  | [],[],_,_=>rfl | [],_::_,h,_=>by simp at h
  | _::_,[],h,_=>by simp at h
  | a::az,b::bs,hl,h=>by
    simp only [FW]at h
    split at h
    · exact absurd h (by assumption)
    · rename_i h1
      rw [Ir.1 (Classical.not_not.1 h1),Iu (by simpa using hl) h]
theorem Iw:∀a:List aj,FW a a=0
  | []=>rfl
  | a::az=>by simp only [FW,Ir.2 rfl];simp [Iw az]
theorem lU {a b:List aj}:jf a b=0↔a=b:=by
  unfold jf
  constructor
  · intro h
    split at h
    · exact absurd h (by assumption)
    · rename_i h1
      have:=lT.1 (Classical.not_not.1 h1)
      exact Iu (by omega) h
  · rintro rfl;rw [if_neg (by rw [lT.2 rfl];simp),Iw]
theorem Iy {a b:Atom}:uz a b=true↔a=b:=by
  unfold uz
  rw [Bool.and_eq_true,Bool.and_eq_true,Bool.and_eq_true,decide_eq_true_eq,decide_eq_true_eq,decide_eq_true_eq,decide_eq_true_eq,lU,lU]
  constructor
  · rintro⟨⟨⟨h1,h2⟩,h3⟩,h4⟩;cases a;cases b;simp_all
  · rintro rfl;exact⟨⟨⟨rfl,rfl⟩,rfl⟩,rfl⟩
theorem yY {α:Type} {d:α} {l:List α} {G:α→Prop}:All l.length (fun i=>G (l.getD i.toNat d))↔∀m∈l,G m:=by
  constructor
  · intro h m hm
    obtain⟨i,hi,rfl⟩:=List.getElem_of_mem hm
    have:=h i (by omega) (by omega)
    dsimp only at this
    rw [show(i:Int).toNat=i from rfl,getD_lt hi]at this;exact this
  · intro h i h1 h2
    exact h _ (kQ h1 h2)
theorem bY {p:List aj} {n:Int}:bf p n↔∀m∈p,∀k∈m.atoms,k<n:=by
  unfold bf Pb
  rw [yY (d:=default) (G:=fun m:aj=>All m.atoms.length (fun i=>¬n≤m.atoms.getD i.toNat default))]
  refine forall_congr' fun m=>forall_congr' fun _=> ?_
  rw [yY (d:=default) (G:=fun k:Int=>¬n≤k)]
  exact forall_congr' fun k=>forall_congr' fun _=>by omega
theorem lS {α:Type} {d:α} {R:α→α→Prop} (tr:∀ {a b c},R a b→R b c→R a c) {l:List α}:l.Pairwise R↔∀i:Int,0<i→i<l.length→R (l.getD (i-1).toNat d) (l.getD i.toNat d):=by
  rw [List.pairwise_iff_getElem]
  constructor
  · intro h i h1 h2
    rw [getD_lt (by omega),getD_lt (by omega)]
    exact h _ _ (by omega) (by omega) (by omega)
  · intro h i j hi hj hij
    obtain⟨n,rfl⟩:∃n,j=i+1+n:=⟨j-i-1,by omega⟩
    clear hij
    induction n with
    | zero=>
      have:=h (i+1:Nat) (by omega) (by omega)
      rw [show(((i+1:Nat):Int)-1).toNat=i by omega,show(((i+1:Nat):Int)).toNat=i+1 by omega,getD_lt hi,getD_lt (by omega)]at this
      exact this
    | succ n ih=>
      have h1:=ih (by omega)
      have:=h (i+1+n+1:Nat) (by omega) (by omega)
      rw [show(((i+1+n+1:Nat):Int)-1).toNat=i+1+n by omega,show(((i+1+n+1:Nat):Int)).toNat=i+1+n+1 by omega,getD_lt (by omega),getD_lt (by omega)]at this
      exact tr h1 this
theorem JR {l:List Int}:Srt l↔l.Pairwise (· ≤ ·):=by
  rw [lS (d:=default) (R:=fun a b:Int=>a≤b) (fun h1 h2=>Int.le_trans h1 h2)]
  unfold Srt
  constructor
  · intro h i h1 h2
    have:=h (i-1) (by omega) (by omega)
    dsimp only at this
    rw [show i-1+1=i by omega]at this;exact this
  · intro h i h1 h2
    have:=h (i+1) (by omega) (by omega)
    rw [show i+1-1=i by omega]at this;exact this
theorem Iz {a b c:aj} (h1:lt a b) (h2:lt b c):lt a c:=dw (le_of_lt h1) h2
def aok (l:List Int):Prop:=l.Pairwise (· ≤ ·)∧∀k∈l,0≤k∧k≤199
theorem lV {p:List aj}:aX p↔Nf p∧p.length≤12∧∀m∈p,m.atoms.length≤4∧aok m.atoms:=by
  constructor
  · rintro⟨h1,h2,h3,h4⟩
    have h1':∀m∈p,mOk m:=yY (d:=default) (G:=mOk).1 (fun i g1 g2=>(h1 i g1 g2).1)
    have h4':∀m∈p,¬(0<m.atoms.length∧m.atoms.getD 0 default<0):=yY (d:=default) (G:=fun m:aj=>¬(0<m.atoms.length∧m.atoms.getD 0 default<0)).1 h4
    refine⟨⟨(lS (d:=default) (R:=lt) Iz).2 fun i g1 g2=>(h1 i (by omega) g2).2 g1,fun m hm=>(h1' m hm).1⟩,h2,fun m hm=>⟨(h1' m hm).2.1,JR.1 (h1' m hm).2.2,fun k hk=>⟨?_,by have:=bY.1 h3 m hm k hk;omega⟩⟩⟩
    have hs:=JR.1 (h1' m hm).2.2
    have hn:=h4' m hm
    cases ha:m.atoms with
    | nil=>rw [ha]at hk;exact absurd hk (by simp)
    | cons b l=>
      rw [ha]at hk hs hn
      simp at hn
      rcases List.mem_cons.1 hk with rfl | hk
      · exact hn
      · have:=List.rel_of_pairwise_cons hs hk;omega
  · rintro⟨h1,h2,h3⟩
    refine⟨fun i g1 g2=>⟨⟨h1.co _ (kQ g1 g2),(h3 _ (kQ g1 g2)).1,JR.2 (h3 _ (kQ g1 g2)).2.1⟩,fun g3=>(lS (d:=default) (R:=lt) Iz).1 h1.ss i g3 g2⟩,h2,bY.2 fun m hm k hk=>by have:=((h3 m hm).2.2 k hk);omega,?_⟩
    refine yY (d:=default) (G:=fun m:aj=>¬(0<m.atoms.length∧m.atoms.getD 0 default<0)).2 fun m hm=> ?_
    rintro⟨g1,g2⟩
    have:=(h3 m hm).2.2 _ (kQ (i:=0) (d:=default) (xs:=m.atoms) (by omega) (by omega))
    rw [show Int.toNat 0=0 from rfl]at this;omega
theorem WX {l:List aj} {k:List Int} (h:cf l k≠0):∃m∈l,m.atoms=k:=Classical.byContradiction fun h2=>h (iM fun m hm e=>h2 ⟨m,hm,e⟩)
theorem Nf.cf {o:List aj} (h:Nf o) {m:aj} (hm:m∈o):cf o m.atoms=m.iw:=by
  induction o with
  | nil=>exact absurd hm (by simp)
  | cons a o ih=>
    rw [eP]
    rcases List.mem_cons.1 hm with rfl | hm
    · rw [if_pos rfl,iM (fun m' hm'=>((List.rel_of_pairwise_cons h.ss hm').ne).symm)];omega
    · rw [if_neg (List.rel_of_pairwise_cons h.ss hm).ne,ih ⟨h.ss.tail,fun m hm=>h.co m (by simp [hm])⟩ hm];omega
theorem Nf.from {o l:List aj} (h:Nf o) (h2:∀k,F.cf o k=F.cf l k%65536) {m:aj} (hm:m∈o):∃m'∈l,m'.atoms=m.atoms:=by
  refine WX fun e=> ?_
  have:=h2 m.atoms
  rw [h.cf hm,e]at this
  have:=h.co m hm;omega
theorem Nf.bnd {o:List aj} (h:Nf o) (k:List Int):0≤F.cf o k∧F.cf o k≤65535:=by
  by_cases e:F.cf o k=0
  · omega
  · obtain⟨m,hm,rfl⟩:=WX e
    rw [h.cf hm];have:=h.co m hm;omega
end Go.TX.F
namespace Go.TX.F
open Go Go.AE Go.TX
theorem WY (a b c:Int):Ea (std 0) (a,b,c,()) (fun y=>y=(inB a b c,())):=by
  dsimp only [Ea,Alg.cl,Alg.cg,Alg.rb,Alg.bd,Alg.l1,Tup.q,Tup.o]
  simp (disch:=omega) only [RR]
  rfl
theorem WZ (a:Int):Ed (std 0) (a,()) (fun y=>y=(inB a 0 65535,())):=by
  dsimp only [Ed,Alg.cl,Alg.cg,Alg.rb,Alg.bd,Alg.l1,Tup.q,Tup.o]
  simp (disch:=omega) only [RR]
  refine congrArg (fun b=>(b,())) ?_
  rw [Bool.eq_iff_iff,dV,Bool.and_eq_true,decide_eq_true_eq,decide_eq_true_eq];omega
theorem W9 (a:Int):a.tmod 65536=if 0≤a then a%65536 else- (-a%65536):=by
  split
  · rw [Int.tmod_eq_emod_of_nonneg (by omega)]
  · have:=Int.neg_tmod (-a) 65536
    rw [Int.neg_neg]at this;rw [this,Int.tmod_eq_emod_of_nonneg (by omega)]
theorem Xa (a:Int):Ec (std 0) (a,()) (fun y=>y=(a%65536,())):=by
  dsimp only [Ec,Alg.cl,Alg.cg,Alg.rb,Alg.bd,Alg.l1,Tup.q,Tup.o]
  simp only [Wx]
  by_cases h:0≤a
  · rw [show a.tmod 65536=a%65536 by rw [W9,if_pos h]]
    simp (disch:=omega) only [RR]
    refine⟨by omega,fun h2=> ?_⟩
    exfalso;omega
  · rw [show a.tmod 65536= - (-a%65536) by rw [W9,if_neg h]]
    simp (disch:=omega) only [RR]
    refine⟨by omega,fun h2=> ?_,fun h2=> ?_⟩
    · rw [show-(-a%65536)+65536=a%65536 by omega]
    · rw [show-(-a%65536)=a%65536 by omega]
end Go.TX.F
namespace Go.TX.F
open Go Go.AE Go.TX
theorem Xb (G:Int→Prop):∀n:Nat,∃r,Idx n G r
  | 0=>⟨-1,Or.inl ⟨rfl,All.zero⟩⟩
  | n+1=>by
    obtain⟨r,h⟩:=Xb G n
    rcases h with⟨h1,h2⟩ | ⟨h1,h2,h3,h4⟩
    · by_cases g:G n
      · exact⟨n,Or.inr ⟨by omega,by omega,g,h2⟩⟩
      · exact⟨-1,Or.inl ⟨rfl,by have:=h2.snoc g;exact this.le (by omega)⟩⟩
    · exact⟨r,Or.inr ⟨h1,by omega,h3,h4⟩⟩
theorem Pj (G:Int→Prop) (n:Nat):Idx n G (idxOf n G):=by
  obtain⟨r,h⟩:=Xb G n
  rw [←h.eq];exact h
theorem mI (t:List Atom) (a:Atom):Idx t.length (fun i=>a=t.getD i.toNat default) (wN t a):=by
  have:=Pj (fun i=>uz a (t.getD i.toNat default)=true) t.length
  simp only [Iy]at this
  unfold wN;simp only [Iy];exact this
theorem vk {t:List Atom}:aJ t↔All t.length (fun i=>kR (t.getD i.toNat default) i∧All i (fun j=>¬t.getD i.toNat default=t.getD j.toNat default))∧t.length≤200:=by
  unfold aJ
  refine and_congr ⟨fun h i h1 h2=>⟨(h i h1 h2).1,?_⟩,fun h i h1 h2=>⟨(h i h1 h2).1,?_⟩⟩ Iff.rfl
  · have:=mI t (t.getD i.toNat default)
    rw [(h i h1 h2).2]at this
    rcases this with⟨g1,_⟩ | ⟨_,_,_,g⟩
    · omega
    · exact g
  · exact((mI t (t.getD i.toNat default)).uniq (Or.inr ⟨h1,h2,rfl,(h i h1 h2).2⟩))
theorem Xc {p1:Int×Unit→Bool} {f1:Int×Unit→Bool×Unit} (hp1:∀a,p1 (a,())=true) (hf1:∀a,f1 (a,())=(inB a 0 65535,()))
    {p2:Int×Unit→Bool} {f2:Int×Unit→Int×Unit} (hp2:∀a,p2 (a,())=true) (hf2:∀a,f2 (a,())=(a%65536,())) (op a b:Int):
    El (std 0) p2 f2 p1 f1 (op,a,b,()) (fun y=>y=(wdo op a b,())):=by
  dsimp only [El,Alg.cl,Alg.cg,Alg.rb,Alg.bd,Alg.l1,Tup.q,Tup.o]
  simp (disch:=omega) only [RR,hp1,hf1,hp2,hf2,Pf,Pg,dV,uw]
  by_cases ha:(0≤a∧a≤65535)∧(0≤b∧b≤65535)
  · have hm:0≤a*b∧a*b≤65535*65535:=⟨Int.mul_nonneg ha.1.1 ha.2.1,Int.mul_le_mul ha.1.2 ha.2.2 ha.2.1 (by omega)⟩
    rw [w64 (x:=a+b) (by omega) (by omega),w64 (x:=a-b) (by omega) (by omega),w64 (x:=a*b) (by omega) (by omega)]
    unfold wdo
    rw [if_pos ha]
    refine⟨fun h=>absurd h (by omega),fun _=>⟨fun h=> ?_,fun h=>⟨fun h1=> ?_,fun h1=>⟨fun h2=> ?_,fun h2=>⟨fun h3=> ?_,fun h3=>⟨fun h4=> ?_,fun h4=> ?_⟩⟩⟩⟩⟩⟩<;>(subst_vars;first | rfl | simp only [if_true,if_false, *])
  · refine⟨fun h=> ?_,fun h=>absurd h ?_⟩
    · unfold wdo;rw [if_neg ha]
    · exact ha
end Go.TX.F
namespace Go.TX.F
open Go Go.AE Go.TX
theorem IB {p:List aj} {n m:Int} (h:bf p n) (h2:n≤m):bf p m:=bY.2 fun a ha k hk=>by have:=bY.1 h a ha k hk;omega
end Go.TX.F
namespace Go.TX.F
open Go Go.AE Go.TX
structure Plus (l:List aj) (m:aj) (o:List aj):Prop where
  nf:Nf o
  cf:∀k,cf o k=F.cf (l++ [m]) k%65536
  len:o.length≤l.length+1
end Go.TX.F
namespace Go.TX.F
open Go Go.AE Go.TX
theorem FY {a o:List Int} (h:o.Pairwise (· ≤ ·)) (hp:o.Perm a):o=wO a:=by
  refine List.Perm.eq_of_pairwise (le:=fun x y:Int=>x≤y) (fun a b _ _ h1 h2=>Int.le_antisymm h1 h2) h ?_ (hp.trans (List.mergeSort_perm a _).symm)
  have:=List.pairwise_mergeSort (le:=fun x y:Int=>decide (x≤y)) (fun a b c h1 h2=>by simp at*;omega) (fun a b=>by simp;omega) a
  exact this.imp (fun h=>by simpa using h)
end Go.TX.F
namespace Go.TX.F
open Go Go.AE Go.TX
theorem aX.nf {p:List aj} (h:aX p):Nf p:=(lV.1 h).1
theorem aX.aok {p:List aj} (h:aX p) {m:aj} (hm:m∈p):m.atoms.length≤4∧F.aok m.atoms:=(lV.1 h).2.2 m hm
end Go.TX.F
namespace Go.TX.F
open Go Go.AE Go.TX
theorem Xd {m:aj} (n:Int) (h:aok m.atoms):mulM m ⟨n,[]⟩=⟨m.iw*n%65536,m.atoms⟩:=by
  unfold mulM
  rw [←FY (a:=m.atoms++ []) (o:=m.atoms) h.1 (by simp)]
theorem Ul (a:List aj) (n:aj):prods a [n]=a.map (fun m=>mulM m n):=by
  induction a with
  | nil=>rfl
  | cons x a ih=>simp only [prods,List.flatMap_cons,List.map_cons,List.map_nil]at ih ⊢;rw [ih];rfl
theorem dI:aX []:=lV.2 ⟨⟨List.Pairwise.nil,fun m hm=>absurd hm (by simp)⟩,by simp,fun m hm=>absurd hm (by simp)⟩
theorem uG (n:Int):aX (eX n):=by
  unfold eX;split
  · refine lV.2 ⟨⟨List.pairwise_singleton _ _,fun m hm=> ?_⟩,by simp,fun m hm=> ?_⟩
    · rw [List.mem_singleton]at hm;subst hm;assumption
    · rw [List.mem_singleton]at hm;subst hm;exact⟨by simp,List.Pairwise.nil,fun k hk=>absurd hk (by simp)⟩
  · exact dI
theorem rR (n:Int):aX (gT n):=by
  unfold gT;split
  · refine lV.2 ⟨⟨List.pairwise_singleton _ _,fun m hm=> ?_⟩,by simp,fun m hm=> ?_⟩
    · rw [List.mem_singleton]at hm;subst hm;dsimp only;omega
    · rw [List.mem_singleton]at hm;subst hm;exact⟨by simp,List.pairwise_singleton _ _,fun k hk=>by rw [List.mem_singleton]at hk;omega⟩
  · exact dI
theorem Xe (l:List aj):(Nf (nf l)∧∀k,cf (nf l) k=cf l k%65536)∨nf l=[]:=by
  by_cases he:∃o,Nf o∧∀k,cf o k=cf l k%65536
  · obtain⟨o,h1,h2⟩:=he
    rw [WS h1 h2];exact Or.inl ⟨h1,h2⟩
  · right;unfold nf;rw [dif_neg he]
theorem Xf {l:List aj} {n:Int} (h:bf l n):bf (nf l) n:=by
  rcases Xe l with⟨h1,h2⟩ | h1
  · refine bY.2 fun m hm k hk=> ?_
    obtain⟨m',g1,g2⟩:=h1.from h2 hm
    exact bY.1 h m' g1 k (g2▸hk)
  · rw [h1];exact bY.2 fun m hm=>absurd hm (by simp)
theorem iE (n:Int):bf [] n:=bY.2 fun m hm=>absurd hm (by simp)
theorem Rt (l:List aj):aX (uE l).2:=by
  unfold uE
  by_cases h:aX (nf l)
  · rw [iA h];exact h
  · rw [iI h];exact dI
theorem FZ {l:List aj} {n:Int} (h:bf l n):bf (uE l).2 n:=by
  unfold uE
  dsimp only
  split
  · exact Xf h
  · exact iE n
theorem Um {a b:List aj} {n:Int} (h1:bf a n) (h2:bf b n):bf (a++b) n:=bY.2 fun m hm k hk=>by
  rw [List.mem_append]at hm
  rcases hm with hm | hm
  · exact bY.1 h1 m hm k hk
  · exact bY.1 h2 m hm k hk
theorem Nt {a b:List aj} {n:Int} (h1:bf a n) (h2:bf b n):bf (prods a b) n:=bY.2 fun m hm k hk=>by
  unfold prods at hm
  rw [List.mem_flatMap]at hm
  obtain⟨x,hx,hm⟩:=hm
  rw [List.mem_map]at hm
  obtain⟨y,hy,rfl⟩:=hm
  have:k∈x.atoms++y.atoms:=List.mem_mergeSort.1 hk
  rw [List.mem_append]at this
  rcases this with hk | hk
  · exact bY.1 h1 x hx k hk
  · exact bY.1 h2 y hy k hk
theorem Rv (a b:List aj):aX (yX a b).2:=by unfold yX;split;exact Rt _;exact dI
theorem abd (a b:List aj):aX (uF a b).2:=by unfold uF;split;exact Rt _;exact dI
theorem F3 {a b:List aj} {n:Int} (h1:bf a n) (h2:bf b n):bf (yX a b).2 n:=by unfold yX;split;exact FZ (Um h1 h2);exact iE n
theorem F4 {a b:List aj} {n:Int} (h1:bf a n) (h2:bf b n):bf (uF a b).2 n:=by unfold uF;split;exact FZ (Nt h1 h2);exact iE n
theorem uH (c n:Int):bf (eX c) n:=bY.2 fun m hm k hk=>by
  unfold eX at hm;split at hm
  · rw [List.mem_singleton]at hm;subst hm;exact absurd hk (by simp)
  · exact absurd hm (by simp)
theorem rT {k n:Int} (h:k<n):bf (gT k) n:=bY.2 fun m hm j hj=>by
  unfold gT at hm;split at hm
  · rw [List.mem_singleton]at hm;subst hm;rw [List.mem_singleton]at hj;omega
  · exact absurd hm (by simp)
theorem aJ.sh {t:List Atom} (h:aJ t):ShT t:=⟨by have:=h.2;omega,fun a ha=>by
  obtain⟨i,hi,rfl⟩:=List.getElem_of_mem ha
  have:=(h.1 i (by omega) (by omega)).1
  rw [show(i:Int).toNat=i from rfl,getD_lt hi]at this
  unfold kR at this
  split at this
  · exact⟨this.2.1.sh,this.2.2.1.sh⟩
  · rw [ShA,this.1.1,this.1.2];exact⟨mH,mH⟩⟩
theorem Ch {t:List Atom} {a:Atom} (h:aJ t) (h2:t.length<200):aJ (bL t a).1∧t.length≤(bL t a).1.length∧(bL t a).1.length≤t.length+1∧(kR a t.length→0≤(bL t a).2):=by
  have hsp:=mI t a
  unfold bL
  split
  · rename_i h3;exact⟨h,Nat.le_refl _,Nat.le_succ _,fun _=>h3⟩
  · rename_i h3
    split
    · rename_i h4;exact⟨h,Nat.le_refl _,Nat.le_succ _,fun h5=>by rcases h4 with h4 | h4;exact absurd h5 h4;omega⟩
    · rename_i h4
      have h5:kR a t.length:=Classical.byContradiction fun h5=>h4 (Or.inl h5)
      refine⟨vk.2 ⟨?_,by rw [List.length_append];simp only [List.length_cons,List.length_nil];omega⟩,by rw [List.length_append];exact Nat.le_add_right _ _,by rw [List.length_append];exact Nat.le_refl _,fun _=>by dsimp only;omega⟩
      have hl:((t++ [a]).length:Int)=t.length+1:=by rw [List.length_append];rfl
      have g1:∀i:Int,0≤i→i<t.length→(t++ [a]).getD i.toNat default=t.getD i.toNat default:=fun i i1 i2=>by
        rw [getD_lt (show i.toNat< (t++ [a]).length by omega),getD_lt (show i.toNat<t.length by omega),List.getElem_append_left]
      have g2:(t++ [a]).getD ((t.length:Int)).toNat default=a:=by
        rw [getD_lt (show((t.length:Int)).toNat< (t++ [a]).length by omega)];simp
      rw [hl]
      intro i i1 i2
      dsimp only
      by_cases i3:i<t.length
      · rw [g1 i i1 i3]
        have:=(vk.1 h).1 i i1 i3
        exact⟨this.1,fun j j1 j2=>by dsimp only;rw [g1 j j1 (by omega)];exact this.2 j j1 j2⟩
      · have:i=t.length:=by omega
        subst this
        rw [g2]
        refine⟨h5,fun j j1 j2=> ?_⟩
        dsimp only;rw [g1 j j1 j2]
        rcases hsp with⟨_,g⟩ | ⟨g,_⟩
        · exact g j j1 j2
        · exact absurd g h3
end Go.TX.F
namespace Go.TX.F
open Go Go.AE Go.TX
def By (b:List Int):Prop:=∀z∈b,0≤z∧z≤255
structure Bt (b:List Int):Prop where
  len:b.length≤2000
  rng:By b
theorem By.at {b:List Int} (h:By b) (n:Nat):0≤b.getD n default∧b.getD n default≤255:=by
  by_cases h1:n<b.length
  · rw [getD_lt h1];exact h _ (List.getElem_mem _)
  · simp only [List.getD,List.getElem?_eq_none (by omega:b.length≤n)];decide
theorem Xg (b:List Int) (hb:By b) (hl:b.length<1000000000):D8 (std 0) (b,()) (fun y=>Bt y.1∧y.2.1=0):=by
  dsimp only [D8,Alg.cl,Alg.cg,Alg.rb,Alg.bd,Alg.l1,Tup.q,Tup.o]
  simp (disch:=omega) only [RR]
  refine⟨fun h=>⟨by omega,by omega,by omega,⟨?_,?_⟩⟩,fun h=>⟨by omega,hb⟩⟩
  · rw [List.length_drop,List.length_take];omega
  · intro z hz;exact hb z (List.mem_of_mem_take (List.mem_of_mem_drop hz))
theorem ahJ {a b:Int} (h1:0≤a) (h2:a<4611686018427387904) (h3:0≤b) (h4:b<4611686018427387904):0≤qd .xor .i64 a b∧qd .xor .i64 a b<4611686018427387904:=by
  have e:((2^IntKind.i64.bits:Nat):Int)=18446744073709551616:=by decide
  have e2:qd .xor .i64 a b=((a.toNat^^^b.toNat:Nat):Int):=by
    unfold qd;dsimp only
    rw [BitVec.toNat_xor,BitVec.toNat_ofInt,BitVec.toNat_ofInt,e,show a%18446744073709551616=a by omega,show b%18446744073709551616=b by omega]
    have:=Nat.xor_lt_two_pow (show a.toNat<2^62 by omega) (show b.toNat<2^62 by omega)
    rw [w64 (by omega) (by omega)]
  rw [e2]
  have:=Nat.xor_lt_two_pow (show a.toNat<2^62 by omega) (show b.toNat<2^62 by omega)
  omega
theorem Ci {a b:Int} (h:0≤a):a.tmod b=a%b:=Int.tmod_eq_emod_of_nonneg h
theorem Rw {a b:Int} (h:0≤a):a.tdiv b=a/b:=Int.tdiv_eq_ediv_of_nonneg h
def Pk (n:Int) (b:List Int) (p:Int) (y:Int×List Int×Int×Unit):Prop:=y.2.1=b∧y.2.2.1=p+1∧0≤y.1∧(y.1<n∨y.1=0)
theorem Xh (n:Int) (b:List Int) (p:Int) (hb:Bt b) (h1:0≤p) (h2:p<1000000000):D9 (std 0) (n,b,p,()) (fun y=>Pk n b p y):=by
  have hl:=hb.1
  have cvu:∀k:Nat,IntKind.i64.wrap (b.getD k default)=b.getD k default:=fun k=>by have:=hb.2.at k;exact w64 (by omega) (by omega)
  dsimp only [D9,Alg.cl,Alg.cg,Alg.rb,Alg.bd,Alg.l1,Tup.q,Tup.o]
  simp (disch:=omega) only [RR,cvu]
  refine⟨fun h=>⟨rfl,rfl,by omega,Or.inr rfl⟩,fun⟨h3,h4⟩=> ?_⟩
  have e1:p+1-1=p:=by omega
  rw [e1]
  refine⟨fun h=>⟨by omega,by omega,by omega,?_⟩,fun h=> ?_⟩
  · have:=hb.2.at p.toNat
    rw [Ci this.1]
    exact⟨rfl,rfl,Int.emod_nonneg _ (by omega),Or.inl (Int.emod_lt_of_pos _ (by omega))⟩
  · have hb0:(0:Int)<b.length:=by omega
    have k1:=Int.emod_nonneg p (show(b.length:Int)≠0 by omega)
    have k2:=Int.emod_lt_of_pos p hb0
    have k3:=Int.emod_nonneg (p*7+3) (show(b.length:Int)≠0 by omega)
    have k4:=Int.emod_lt_of_pos (p*7+3) hb0
    have k5:0≤p/b.length:=Int.ediv_nonneg h1 (by omega)
    have k6:p/b.length≤p:=Int.ediv_le_self _ h1
    simp (disch:=omega) only [w64,Ci,Rw]
    have q1:=hb.2.at (p%b.length).toNat
    have q2:=hb.2.at ((p*7+3)%b.length).toNat
    generalize (b.getD (p%b.length).toNat default)=u at q1 ⊢
    generalize (b.getD ((p*7+3)%b.length).toNat default)=v at q2 ⊢
    generalize p/b.length=w at k5 k6 ⊢
    simp (disch:=omega) only [w64,Ci,Rw]
    have q:=ahJ (a:=u*131+v*1117+p*29+w*53) (b:=(u*131+v*1117+p*29+w*53)/64) (by omega) (by omega) (by omega) (by omega)
    rw [Pg]
    generalize qd .xor .i64 (u*131+v*1117+p*29+w*53) ((u*131+v*1117+p*29+w*53)/64)=g at q ⊢
    rw [Ci q.1]
    exact⟨h4,k1,k2,h4,k3,k4,h4,by omega,by omega,rfl,rfl,Int.emod_nonneg _ (by omega),Or.inl (Int.emod_lt_of_pos _ (by omega))⟩
theorem Xi {p1:Int×List Int×Int×Unit→Bool} {f1:Int×List Int×Int×Unit→Int×List Int×Int×Unit} (hp1:∀n b p,Bt b→0≤p→p<1000000000→p1 (n,b,p,())=true) (hf1:∀n b p,Bt b→0≤p→p<1000000000→Pk n b p (f1 (n,b,p,())))
    (n:Int) (b:List Int) (p:Int) (hb:Bt b) (h1:0≤p) (h2:p<1000000000):Eb (std 0) p1 f1 (n,b,p,()) (fun y=>y.2.1=b∧y.2.2.1=p+1):=by
  obtain⟨e1,e2,_⟩:=hf1 n b p hb h1 h2
  dsimp only [Eb,Alg.cl,Alg.cg,Alg.rb,Alg.bd,Alg.l1,Tup.q,Tup.o]
  simp (disch:=omega) only [RR,hp1 n b p hb h1 h2,e1,e2]
end Go.TX.F
namespace Go.TX.F
open Go Go.AE Go.TX
structure am5 (n:Int) (b:List Int) (p:Int) (y:List Int×Int×List aj×Unit):Prop where
  b:y.1=b
  lo:p≤y.2.1
  hi:y.2.1≤p+200
  ok:aX y.2.2.1
  un:bf y.2.2.1 n
end Go.TX.F
namespace Go.TX.F
open Go Go.AE Go.TX
structure ana (b:List Int) (p n:Int) (y:List Int×Int×List Atom×Unit):Prop where
  b:y.1=b
  lo:p≤y.2.1
  hi:y.2.1≤p+10000
  sh:ShT y.2.2.1
  ne:0<y.2.2.1.length
  le:(y.2.2.1.length:Int)≤n
end Go.TX.F
namespace Go.TX.F
open Go Go.AE Go.TX
theorem Rx {l o:List aj} (h:aX o) (h2:∀k,cf o k=cf l k%65536):uE l=(true,o):=by
  unfold uE;rw [WS h.nf h2,iA h,if_pos rfl]
theorem Pm {x:List aj} (h:aX x):aX (kY x 65535)∧∀k,cf (kY x 65535) k=(65535*cf x k)%65536:=by
  have hc:∀(l:List aj) k,cf (l.map fun m=>(⟨m.iw*65535%65536,m.atoms⟩:aj)) k%65536=(65535*cf l k)%65536:=fun l k=>by
    induction l with
    | nil=>rfl
    | cons m l ih=>rw [List.map_cons,eP,eP];dsimp only;split<;>omega
  have no:Nf (x.map fun m=>(⟨m.iw*65535%65536,m.atoms⟩:aj)):=⟨by
    rw [List.pairwise_map];exact h.nf.ss,fun m hm=>by
    rw [List.mem_map]at hm
    obtain⟨n,hn,rfl⟩:=hm
    have:=h.nf.co n hn
    dsimp only;omega⟩
  have ok:aX (x.map fun m=>(⟨m.iw*65535%65536,m.atoms⟩:aj)):=lV.2 ⟨no,by rw [List.length_map];exact h.len,fun m hm=>by
    rw [List.mem_map]at hm
    obtain⟨n,hn,rfl⟩:=hm
    exact show n.atoms.length≤4∧aok n.atoms from h.aok hn⟩
  have pe:prods x (eX 65535)=x.map fun m=>(⟨m.iw*65535%65536,m.atoms⟩:aj):=by
    unfold eX;rw [if_pos (by omega),Ul]
    exact List.map_congr_left fun m hm=>Xd 65535 (h.aok hm).2
  have e:kY x 65535=x.map fun m=>(⟨m.iw*65535%65536,m.atoms⟩:aj):=by
    unfold kY uF
    rw [if_pos (by rw [iA h];rfl),if_pos (by rw [iA h,iA (uG _)];rfl),pe,Rx ok (fun k=>by have:=no.bnd k;omega)]
  rw [e]
  exact⟨ok,fun k=>by rw [←hc];have:=no.bnd k;omega⟩
theorem sub_self {x:List aj} (h:aX x):kS 2 x x=([],true):=by
  obtain⟨h1,h2⟩:=Pm h
  unfold kS yX
  rw [if_neg (by omega),if_pos rfl,if_pos (by rw [iA h,iA h1];rfl),Rx dI (fun k=>by rw [vg,h2,A9];omega)]
theorem F5 {x:List aj} (h:(eY x).2=true):aX x∧x=eX (eY x).1∧0≤(eY x).1∧(eY x).1≤65535:=by
  unfold eY at h ⊢
  by_cases c:aX x
  · rw [iA c,if_pos rfl]at h ⊢
    refine⟨c,?_⟩
    by_cases c1:x.length=0
    · rw [if_pos c1];exact⟨by rw [List.eq_nil_of_length_eq_zero c1];rfl,by omega,by omega⟩
    · rw [if_neg c1]at h ⊢
      by_cases c2:x.length=1∧(x.getD 0 default).atoms.length=0
      · rw [if_pos c2]
        match x,c,c2 with
        | [m],c,c2=>
          have hc:=c.nf.co m (by simp)
          have ha:m.atoms=[]:=List.eq_nil_of_length_eq_zero c2.2
          refine⟨?_,by show 0≤m.iw;omega,by show m.iw≤65535;omega⟩
          show [m]=eX m.iw
          unfold eX;rw [if_pos hc,←ha]
      · rw [if_neg c2]at h;exact absurd h (by simp)
  · rw [iI c]at h;exact absurd h (by simp)
end Go.TX.F
namespace Go.TX.F
open Go Go.AE Go.TX
end Go.TX.F
namespace Go.TX.F
open Go Go.AE Go.TX
theorem Ry {d:List Int} {i j x:Int} (h1:0≤i) (h2:i<d.length) (h3:0≤j):((d.set i.toNat x).getD (j).toNat default)=if j=i then x else((d).getD (j).toNat default):=by
  simp only [List.getD]
  by_cases h:j=i
  · subst h;rw [if_pos rfl,List.getElem?_set_self (by omega)];rfl
  · rw [if_neg h,List.getElem?_set_ne (by omega)]
theorem Un {d:List Int} {i j:Int} (h1:0≤i) (h2:i<d.length) (h3:0≤j) (h4:j<d.length) (h5:i≠j):((d.set i.toNat ((d).getD (j).toNat default)).set j.toNat ((d).getD (i).toNat default)).Perm d:=by
  rw [List.perm_iff_count]
  intro x
  rw [getD_lt (show i.toNat<d.length by omega),getD_lt (show j.toNat<d.length by omega),List.count_set (by simp;omega),List.count_set (by omega),List.getElem_set_ne (by omega)]
  have h6:(if d[i.toNat]==x then 1 else 0)≤List.count x d:=by
    split
    · rename_i h;exact List.count_pos_iff.2 (by rw [←eq_of_beq h];exact List.getElem_mem _)
    · omega
  split<;>split<;>simp_all<;>omega
theorem Xj {p:Int×Int×Unit→Bool} {f:Int×Int×Unit→Bool×Unit} (hp:∀a b,p (a,b,())=true) (hf:∀a b,f (a,b,())=(decide (a<b),()))
    (a b:Int) (d:List Int) (hd:d.length<1000000000) (h1:a=0) (h2:b=d.length):
    FP (std 0) p f (a,b,d,()) (fun y=>y.1=wO d):=by
  subst h1
  dsimp only [FP,Alg.cl,Alg.cg,Alg.rb,Alg.bd,Alg.l1,Tup.q,Tup.o]
  simp (disch:=omega) only [RR]
  have fin:∀e:List Int,e.Perm d→(∀q:Int,1≤q→q<e.length→((e).getD (q-1).toNat default)≤((e).getD (q).toNat default))→e=wO d:=fun e g1 g2=>
    FY ((lS (d:=default) (R:=fun a b:Int=>a≤b) (fun h1 h2=>Int.le_trans h1 h2)).2 g2) g1
  refine aA (fun(y:Int×Int×Int×List Int×Unit)=>y.1=0∧y.2.1=b∧1≤y.2.2.1∧(y.2.2.1≤b∨y.2.2.1=1)∧y.2.2.2.1.Perm d∧∀q,1≤q→q<y.2.2.1→((y.2.2.2.1).getD (q-1).toNat default)≤((y.2.2.2.1).getD (q).toNat default)) (fun y=>(b-y.2.2.1).toNat)
    ⟨rfl,rfl,by simp,Or.inr rfl,List.Perm.refl d,fun q g1 g2=>by dsimp only at g2;omega⟩ ?_
  rintro⟨(a':Int),(b':Int),(i:Int),(e:List Int),⟨⟩⟩ hI
  dsimp only at hI ⊢
  obtain⟨rfl,rfl,h4,h5,h6,h7⟩:=hI
  have hle:=h6.length_eq
  simp (disch:=omega) only [RR]
  refine⟨fun h9=> ?_,fun h9=>fin e h6 fun q g1 g2=>h7 q g1 (by omega)⟩
  refine aA (fun(y:Int×Int×Int×Int×List Int×Unit)=>y.1=0∧y.2.1=b'∧y.2.2.1=i∧0≤y.2.2.2.1∧y.2.2.2.1≤i∧y.2.2.2.2.1.Perm d
      ∧(∀q,1≤q→q≤i→q≠y.2.2.2.1→((y.2.2.2.2.1).getD (q-1).toNat default)≤((y.2.2.2.2.1).getD (q).toNat default))∧(1≤y.2.2.2.1→y.2.2.2.1+1≤i→((y.2.2.2.2.1).getD (y.2.2.2.1-1).toNat default)≤((y.2.2.2.2.1).getD (y.2.2.2.1+1).toNat default))) (fun y=>y.2.2.2.1.toNat)
    ⟨rfl,rfl,rfl,by simp;omega,by simp,h6,fun q g1 g2 g3=>h7 q g1 (by dsimp only at g3;omega),fun g1 g2=>by dsimp only at g2;omega⟩ ?_
  rintro⟨(a'':Int),(b'':Int),(i':Int),(j:Int),(e':List Int),⟨⟩⟩ hI
  dsimp only at hI ⊢
  obtain⟨rfl,rfl,rfl,h10,h11,h12,h13,h14⟩:=hI
  have hle':=h12.length_eq
  simp (disch:=omega) only [RR,List.length_set,hp,hf]
  repeat' (refine And.intro ?_ ?_)
  all_goals try omega
  · intro ⟨g1,g2⟩
    have at2:∀k,0≤k→(((e'.set j.toNat ((e').getD (j-1).toNat default)).set (j-1).toNat ((e').getD (j).toNat default)).getD (k).toNat default)=if k=j-1 then((e').getD (j).toNat default)else if k=j then((e').getD (j-1).toNat default)else((e').getD (k).toNat default):=fun k hk=>by
      rw [Ry (by omega) (by simp;omega) hk,Ry (by omega) (by omega) hk]
    repeat' (refine And.intro ?_ ?_)
    all_goals try omega
    · exact(Un (by omega) (by omega) (by omega) (by omega) (by omega)).trans h12
    · intro q k1 k2 k3
      rw [at2 _ (by omega),at2 _ (by omega)]
      by_cases c1:q=j
      · subst c1;rw [if_pos rfl,if_neg (by omega),if_pos rfl];omega
      · rw [if_neg (by omega)]
        by_cases c2:q=j+1
        · subst c2
          rw [if_pos (by omega),if_neg (by omega),if_neg (by omega)]
          exact h14 (by omega) (by omega)
        · rw [if_neg (by omega),if_neg (by omega),if_neg (by omega)]
          exact h13 q k1 k2 c1
    · intro k1 k2
      rw [at2 _ (by omega),at2 _ (by omega),if_neg (by omega),if_neg (by omega),if_neg (by omega),if_pos (by omega)]
      have:=h13 (j-1) (by omega) (by omega) (by omega)
      exact this
  · intro g
    refine⟨⟨by omega,by omega,h12,fun q k1 k2=> ?_⟩,by omega⟩
    by_cases c:q=j
    · subst c
      rw [Bool.and_eq_false_iff,decide_eq_false_iff_not,decide_eq_false_iff_not]at g
      omega
    · exact h13 q k1 (by omega) c
theorem Xk {p:Int×Int×Unit→Bool} {f:Int×Int×Unit→Bool×Unit}
    {p1:Int×Int×List Int×Unit→Bool} {f1:Int×Int×List Int×Unit→List Int×Unit} (hp1:∀(a b:Int) (d:List Int),d.length<1000000000→a=0→b=d.length→p1 (a,b,d,())=true) (hf1:∀(a b:Int) (d:List Int),d.length<1000000000→a=0→b=d.length→(f1 (a,b,d,())).1=wO d)
    (p2 p3 f2 f3 p4 f4 p5 f5 p6 f6 p7 f7 p8 f8 p9 f9) (a b k:Int) (d:List Int) (hd:d.length≤12) (h1:a=0) (h2:b=d.length):
    FQ (std 0) p f p1 f1 p2 f2 p3 f3 p4 f4 p5 f5 p6 f6 p7 f7 p8 f8 p9 f9 (a,b,k,d,()) (fun y=>y.1=wO d):=by
  subst h1
  dsimp only [FQ,Alg.cl,Alg.cg,Alg.rb,Alg.bd,Alg.l1,Tup.q,Tup.o]
  simp (disch:=omega) only [RR]
  refine aA (fun(y:Int×Int×Int×Bool×Bool×List Int×Unit)=>y.1=0∧y.2.1=b∧y.2.2.2.2.2.1=d) (fun y=>0) ⟨rfl,rfl,rfl⟩ ?_
  rintro⟨(a':Int),(b':Int),(k':Int),(u:Bool),(v:Bool),(e:List Int),⟨⟩⟩ hI
  dsimp only at hI ⊢
  obtain⟨rfl,rfl,rfl⟩:=hI
  simp (disch:=omega) only [RR]
  exact⟨fun _=>⟨hp1 0 b' e (by omega) rfl h2,hf1 0 b' e (by omega) rfl h2⟩,fun h=>absurd h (by omega)⟩
theorem Xl {p1:Int×Int×Int×List Int×Unit→Bool} {f1:Int×Int×Int×List Int×Unit→List Int×Unit} (hp1:∀(a b k:Int) (d:List Int),d.length≤12→a=0→b=d.length→p1 (a,b,k,d,())=true) (hf1:∀(a b k:Int) (d:List Int),d.length≤12→a=0→b=d.length→(f1 (a,b,k,d,())).1=wO d)
    {p2:Int×Unit→Bool} {f2:Int×Unit→Int×Unit} (hp2:∀n,0≤n→n≤18446744073709551615→p2 (n,())=true) (a:List Int) (ha:a.length≤8):
    FR (std 0) p1 f1 p2 f2 (a,()) (fun y=>y=(wO a,())):=by
  dsimp only [FR,Alg.cl,Alg.cg,Alg.rb,Alg.bd,Alg.l1,Tup.q,Tup.o]
  have e:IntKind.u64.wrap (a.length:Int)=(a.length:Int):=IntWalk.u64_in _ (by omega)
  refine⟨?_,hp1 _ _ _ _ (by omega) rfl rfl,by rw [hf1 _ _ _ _ (by omega) rfl rfl]⟩
  rw [e];exact hp2 _ (by omega) (by omega)
end Go.TX.F
namespace Go.TX.F
open Go Go.AE Go.TX
def wOK (l:List Int):Prop:=∀z∈l,0≤z∧z≤65535
theorem wOK.at {l:List Int} (h:wOK l) (n:Nat):0≤l.getD n default∧l.getD n default≤65535:=by
  by_cases hn:n<l.length
  · rw [getD_lt hn];exact h _ (List.getElem_mem _)
  · rw [List.getD,List.getElem?_eq_none (by omega)];decide
theorem wOK.snoc {l:List Int} (h:wOK l) {x:Int} (hx:0≤x∧x≤65535):wOK (l++ [x]):=fun z hz=>by
  rw [List.mem_append,List.mem_singleton]at hz
  rcases hz with hz | rfl
  · exact h z hz
  · exact hx
end Go.TX.F
namespace Go.TX.F
open Go Go.AE Go.TX
def ins (c:Int) (at_:List Int):List aj→List aj
  | []=>if c%65536=0 then []else [⟨c%65536,at_⟩]
  | m::o=>if fQ at_ m.atoms<0 then(if c%65536=0 then m::o else⟨c%65536,at_⟩::m::o)
    else if at_=m.atoms then(if(c+m.iw)%65536=0 then o else⟨(c+m.iw)%65536,at_⟩::o)else m::ins c at_ o
theorem Xm {op:Int} (hop:1≤op∧op≤5) {x y:List aj} (hx:aX x) (hy:aX y):aX (kS op x y).1:=by
  unfold kS
  split
  · exact Rv _ _
  · split
    · exact Rv _ _
    · split
      · exact abd _ _
      · unfold aa7
        repeat' split
        all_goals first | exact uG _ | exact dI | assumption
end Go.TX.F
namespace Go.TX.F
open Go Go.AE Go.TX
end Go.TX.F
namespace Go.TX.F
open Go Go.AE Go.TX
@[reducible] def hX (o : IOp) : Prop := o.kind ≠ 1 ∧ o.kind ≠ 2 ∧ o.kind ≠ 6
@[reducible] def hY (o : IOp) : Prop := o.kind = 3 ∨ o.kind = 5
@[reducible] def mkV (o : IOp) : Prop := (1 ≤ o.kind ∧ o.kind ≤ 4) ∨ o.kind = 6
@[reducible] def evO (o : IOp) : Prop := 4 ≤ o.kind ∧ o.kind ≤ 7
def Vl (ops:List IOp) (x n:Int):Prop:=0≤x∧x<n∧mkV ((ops).getD (x).toNat default)
structure JU (ops:List IOp) (len i:Int) (o:IOp):Prop where
  kd:1≤o.kind∧o.kind≤8
  x1:hX o→Vl ops o.x i
  x0:¬hX o→o.x=0
  y1:hY o→Vl ops o.y i
  y0:¬hY o→o.y=0
  k1:o.kind=1→0≤o.k∧o.k≤65535
  k2:o.kind=2∨o.kind=8→0≤o.k∧o.k≤3
  k3:o.kind=3→1≤o.k∧o.k≤5
  k0:4≤o.kind→o.kind≤7→o.k=0
  a1:evO o→0≤o.at_∧o.at_<len
  a0:¬evO o→o.at_=0
structure yZ (b:Blk):Prop where
  f:1≤b.fin∧b.fin≤4
  x1:b.fin≠1→Vl b.ops b.x b.ops.length
  x0:b.fin=1→b.x=0
  y1:3≤b.fin→Vl b.ops b.y b.ops.length
  y0:b.fin≤2→b.y=0
  k1:b.fin≠2→0≤b.k∧b.k≤65535
  k0:b.fin=2→b.k=0
structure gM (b:Blk):Prop where
  ln:1≤b.len∧b.len≤8
  pc:0≤b.pc∧b.pc≤64-b.len
  sz:b.ops.length≤48
  op:∀i:Int,0≤i→i<b.ops.length→JU b.ops b.len i ((b.ops).getD (i).toNat default)
  en:yZ b
structure SS where
  t:List Atom
  regs:List (List aj)
  vals:List (List aj)
  ld:Int
  inn:Int
  evs:List Ev
def xOf (s:SS) (o:IOp):List aj:=if hX o then((s.vals).getD (o.x).toNat default)else []
def yOf (s:SS) (o:IOp):List aj:=if hY o then((s.vals).getD (o.y).toNat default)else []
def aOf (s:SS) (o:IOp):Atom:=if o.kind=4 then⟨2,s.ld,[],[]⟩else⟨3,s.inn,[],[]⟩
noncomputable def nT (s:SS) (o:IOp):List Atom:=if o.kind=3 then(tDo s.t o.k (xOf s o) (yOf s o)).1 else if o.kind=4∨o.kind=6 then(bL s.t (aOf s o)).1 else s.t
noncomputable def nV (s:SS) (o:IOp):List aj:=if o.kind=1 then eX o.k else if o.kind=2 then((s.regs).getD (o.k).toNat default)else if o.kind=3 then(tDo s.t o.k (xOf s o) (yOf s o)).2 else if o.kind=4∨o.kind=6 then gT (bL s.t (aOf s o)).2 else []
def nR (s:SS) (o:IOp):List (List aj):=if o.kind=8 then s.regs.set o.k.toNat (xOf s o)else s.regs
def nE (s:SS) (o:IOp):List Ev:=if evO o then s.evs++ [⟨o.kind,o.at_,xOf s o,yOf s o,if o.kind=4∨o.kind=5 then s.regs else []⟩]else s.evs
noncomputable def stp (s:SS) (o:IOp):SS:=⟨nT s o,nR s o,s.vals++ [nV s o],if o.kind=4 then s.ld+1 else s.ld,if o.kind=6 then s.inn+1 else s.inn,nE s o⟩
noncomputable def rN (t:List Atom):Nat→List Atom×List (List aj)
  | 0=>(t,[])
  | n+1=>((bL (rN t n).1 ⟨1,n,[],[]⟩).1,(rN t n).2++ [gT (bL (rN t n).1 ⟨1,n,[],[]⟩).2])
noncomputable def s0 (t:List Atom):SS:=⟨(rN t 4).1,(rN t 4).2,[],0,0,[]⟩
noncomputable def ku (t:List Atom) (b:Blk):SS:=b.ops.foldl stp (s0 t)
def Gg (b:Blk) (s:SS):Sym:=⟨s.evs,s.regs,b.fin,if b.fin=1 then []else((s.vals).getD (b.x).toNat default),if 3≤b.fin then((s.vals).getD (b.y).toNat default)else [],b.k⟩
def Xn:Sym:=⟨[],[],0,[],[],0⟩
noncomputable def symEnd (s:Sym) (behind:Int):Sym:=
  if bp (aX s.x∧aX s.y)=false then Xn
  else if s.fin=2∧(eY s.x).2=true then⟨s.events,s.regs,1,[],[],(eY s.x).1⟩
  else if s.fin≠3∧s.fin≠4 then s
  else if s.x=s.y∨(eY s.x).2=true∧(eY s.y).2=true then
    ⟨s.events,s.regs,1,[],[],if s.x=s.y∧s.fin=3∨((eY s.x).2=true∧(eY s.y).2=true)∧(s.fin=3∧(eY s.x).1=(eY s.y).1∨s.fin=4∧(eY s.x).1< (eY s.y).1)then s.k else behind⟩
  else if s.fin=3∧0<jf s.x s.y then⟨s.events,s.regs,s.fin,s.y,s.x,s.k⟩else s
noncomputable def bU (t:List Atom) (b:Blk):List Atom×Sym:=if bp (aJ t∧t.length≤100∧gM b)=true then((ku t b).t,symEnd (Gg b (ku t b)) (b.pc+b.len))else([],Xn)
theorem uI (t:List Atom) (a:Atom):t<+:(bL t a).1:=by
  unfold bL
  split
  · exact List.prefix_refl _
  · split
    · exact List.prefix_refl _
    · exact List.prefix_append _ _
theorem Cj {α:Type} {a b:List α} (h:a<+:b):a.length≤b.length:=h.length_le
theorem ahK {α:Type} {d:α} {a b:List α} (h:a<+:b) {i:Int} (h1:i.toNat<a.length):b.getD i.toNat d=a.getD i.toNat d:=by
  obtain⟨c,rfl⟩:=h
  rw [getD_lt h1,getD_lt (by rw [List.length_append];omega),List.getElem_append_left h1]
theorem vo {t:List Atom} {a:Atom} (h:0≤(bL t a).2):(bL t a).2< (bL t a).1.length∧(((bL t a).1).getD ((bL t a).2).toNat default)=a:=by
  have hsp:=mI t a
  revert h
  unfold bL
  split
  · intro h
    rcases hsp with⟨h1,_⟩ | ⟨_,h2,h3,_⟩
    · exact absurd h (by dsimp only;omega)
    · exact⟨h2,h3.symm⟩
  · split
    · intro h;exact absurd h (by dsimp only;omega)
    · intro _
      dsimp only
      refine⟨by rw [List.length_append];simp only [List.length_cons,List.length_nil];omega,?_⟩
      rw [getD_lt (by rw [List.length_append];simp only [List.length_cons,List.length_nil];omega)]
      simp
theorem Pn {u:List Atom} {a:Atom} (hu:aJ u) {k:Int} (h0:0≤k) (h1:k<u.length) (h2:((u).getD (k).toNat default)=a):bL u a=(u,k):=by
  have hf:wN u a=k:=by
    refine(mI u a).uniq (Or.inr ⟨h0,h1,h2.symm,fun j j1 j2=> ?_⟩)
    have:=(vk.1 hu).1 k h0 h1
    have g:=this.2 j j1 j2
    dsimp only at g ⊢
    rw [h2]at g;exact g
  unfold bL
  rw [hf,if_pos h0]
theorem y7 {t u:List Atom} {a:Atom} (hu:aJ u) (h:0≤(bL t a).2) (hp:(bL t a).1<+:u):bL u a=(u,(bL t a).2):=by
  obtain⟨g1,g2⟩:=vo h
  have:=Cj hp
  exact Pn hu h (by omega) (by rw [ahK hp (by omega),g2])
theorem Nu {op n:Int} {x y:List aj} (ux:bf x n) (uy:bf y n):bf (kS op x y).1 n:=by
  unfold kS
  split
  · exact F3 ux uy
  · split
    · refine F3 ux ?_
      unfold kY
      split
      · exact F4 uy (uH _ _)
      · exact iE _
    · split
      · exact F4 ux uy
      · unfold aa7
        repeat' split
        all_goals first | exact ux | exact uy | exact iE _ | exact uH _ _
structure ahL (t:List Atom) (op:Int) (x y:List aj):Prop where
  tok:aJ (tDo t op x y).1
  pre:t<+:(tDo t op x y).1
  len:(tDo t op x y).1.length≤t.length+1
  pok:aX (tDo t op x y).2
  und:bf (tDo t op x y).2 (tDo t op x y).1.length
  ok:tOk t op x y=true
theorem abe {t:List Atom} {op:Int} {x y:List aj} (h:aJ t) (h2:t.length<200) (h3:1≤op∧op≤5) (hx:aX x) (hy:aX y) (ux:bf x t.length) (uy:bf y t.length):ahL t op x y:=by
  by_cases c:(kS op x y).2=true
  · have e:tDo t op x y=(t,(kS op x y).1):=by unfold tDo;rw [if_pos c]
    refine⟨?_,?_,?_,?_,?_,by unfold tOk;rw [c];rfl⟩<;>rw [e]
    · exact h
    · exact List.prefix_refl _
    · exact Nat.le_succ _
    · exact Xm h3 hx hy
    · exact Nu ux uy
  · have key:∀x' y',aX x'→aX y'→bf x' t.length→bf y' t.length→0≤(bL t ⟨4,op,x',y'⟩).2∧aJ (bL t ⟨4,op,x',y'⟩).1∧(bL t ⟨4,op,x',y'⟩).1.length≤t.length+1:=fun x' y' a1 a2 a3 a4=>by
      have p1:=Ch (a:=⟨4,op,x',y'⟩) h h2
      have q1:=p1.2.2.2 (by unfold kR;rw [if_pos rfl];exact⟨h3,a1,a2,a3,a4⟩)
      exact⟨q1,p1.1,p1.2.2.1⟩
    by_cases c2:op≠2∧0<jf x y
    · obtain⟨k1,k2,k3⟩:=key y x hy hx uy ux
      have e:tDo t op x y=((bL t ⟨4,op,y,x⟩).1,gT (bL t ⟨4,op,y,x⟩).2):=by unfold tDo;rw [if_neg c,if_pos c2,if_neg (by omega)]
      refine⟨?_,?_,?_,?_,?_,by unfold tOk;rw [if_pos c2,decide_eq_false (by omega),Bool.not_false,Bool.or_true]⟩<;>rw [e]
      · exact k2
      · exact uI _ _
      · exact k3
      · exact rR _
      · exact rT (vo k1).1
    · obtain⟨k1,k2,k3⟩:=key x y hx hy ux uy
      have e:tDo t op x y=((bL t ⟨4,op,x,y⟩).1,gT (bL t ⟨4,op,x,y⟩).2):=by unfold tDo;rw [if_neg c,if_neg c2,if_neg (by omega)]
      refine⟨?_,?_,?_,?_,?_,by unfold tOk;rw [if_neg c2,decide_eq_false (by omega),Bool.not_false,Bool.or_true]⟩<;>rw [e]
      · exact k2
      · exact uI _ _
      · exact k3
      · exact rR _
      · exact rT (vo k1).1
theorem Xo {t u:List Atom} {op:Int} {x y:List aj} (hu:aJ u) (h:tOk t op x y=true) (hp:(tDo t op x y).1<+:u):tDo u op x y=(u,(tDo t op x y).2):=by
  by_cases c:(kS op x y).2=true
  · unfold tDo;rw [if_pos c,if_pos c]
  · by_cases c2:op≠2∧0<jf x y
    · have k1:0≤(bL t ⟨4,op,y,x⟩).2:=by
        unfold tOk at h;rw [if_pos c2,Bool.or_eq_true,Bool.not_eq_true',decide_eq_false_iff_not]at h;have:=h.resolve_left c;omega
      have e:tDo t op x y=((bL t ⟨4,op,y,x⟩).1,gT (bL t ⟨4,op,y,x⟩).2):=by unfold tDo;rw [if_neg c,if_pos c2,if_neg (by omega)]
      rw [e]at hp ⊢
      have:=y7 hu k1 hp
      unfold tDo;rw [if_neg c,if_pos c2,this,if_neg (by dsimp only;omega)]
    · have k1:0≤(bL t ⟨4,op,x,y⟩).2:=by
        unfold tOk at h;rw [if_neg c2,Bool.or_eq_true,Bool.not_eq_true',decide_eq_false_iff_not]at h;have:=h.resolve_left c;omega
      have e:tDo t op x y=((bL t ⟨4,op,x,y⟩).1,gT (bL t ⟨4,op,x,y⟩).2):=by unfold tDo;rw [if_neg c,if_neg c2,if_neg (by omega)]
      rw [e]at hp ⊢
      have:=y7 hu k1 hp
      unfold tDo;rw [if_neg c,if_neg c2,this,if_neg (by dsimp only;omega)]
end Go.TX.F
namespace Go.TX.F
open Go Go.AE Go.TX
structure SI (n:Int) (i:Nat) (s:SS):Prop where
  tok:aJ s.t
  tl:(s.t.length:Int)≤n+i
  r4:s.regs.length=4
  rok:∀p∈s.regs,aX p∧bf p s.t.length
  vl:s.vals.length=i
  vok:∀p∈s.vals,aX p∧bf p s.t.length
  ld:0≤s.ld∧s.ld≤i
  inn:0≤s.inn∧s.inn≤i
theorem F6 {l:List (List aj)} {n:Int} (h:∀p∈l,aX p∧bf p n) (i:Int):aX ((l).getD (i).toNat default)∧bf ((l).getD (i).toNat default) n:=by
  by_cases c:i.toNat<l.length
  · rw [getD_lt c];exact h _ (List.getElem_mem _)
  · rw [List.getD_eq_getElem?_getD,List.getElem?_eq_none (by omega)];exact⟨dI,iE _⟩
theorem SI.x {n:Int} {i:Nat} {s:SS} (h:SI n i s) (o:IOp):aX (xOf s o)∧bf (xOf s o) s.t.length:=by
  unfold xOf;split
  · exact F6 h.vok _
  · exact⟨dI,iE _⟩
theorem SI.y {n:Int} {i:Nat} {s:SS} (h:SI n i s) (o:IOp):aX (yOf s o)∧bf (yOf s o) s.t.length:=by
  unfold yOf;split
  · exact F6 h.vok _
  · exact⟨dI,iE _⟩
theorem abf {n:Int} {i:Nat} {s:SS} (h:SI n i s) (hi:i<200) (o:IOp) (m:Int):kR (aOf s o) m:=by
  have h1:=h.ld
  have h2:=h.inn
  unfold aOf
  split
  · unfold kR;rw [if_neg (by simp)];exact⟨⟨rfl,rfl⟩,Or.inr ⟨Or.inl rfl,by dsimp only;omega,by dsimp only;omega⟩⟩
  · unfold kR;rw [if_neg (by simp)];exact⟨⟨rfl,rfl⟩,Or.inr ⟨Or.inr rfl,by dsimp only;omega,by dsimp only;omega⟩⟩
structure SOK (s:SS) (o:IOp):Prop where
  pre:s.t<+:(stp s o).t
  d:o.kind=3→ahL s.t o.k (xOf s o) (yOf s o)
  p:o.kind=4∨o.kind=6→0≤(bL s.t (aOf s o)).2
theorem JV {n:Int} {i:Nat} {s:SS} {o:IOp} (h:SI n i s) (hk:o.kind=3→1≤o.k∧o.k≤5) (hn:n+i<200) (hi:i<200):SI n (i+1) (stp s o)∧SOK s o:=by
  have hl:=h.tl
  have tl:s.t.length<200:=by omega
  have hd:o.kind=3→ahL s.t o.k (xOf s o) (yOf s o):=fun e=>abe h.tok tl (hk e) (h.x o).1 (h.y o).1 (h.x o).2 (h.y o).2
  have hput:=Ch (a:=aOf s o) h.tok tl
  have hp:=hput.2.2.2 (abf h hi o _)
  have T:aJ (nT s o)∧(nT s o).length≤s.t.length+1∧s.t<+:nT s o:=by
    unfold nT
    split
    · rename_i e;have:=hd e;exact⟨this.tok,this.len,this.pre⟩
    · split
      · exact⟨hput.1,hput.2.2.1,uI _ _⟩
      · exact⟨h.tok,Nat.le_succ _,List.prefix_refl _⟩
  have up:∀ {p:List aj},aX p∧bf p s.t.length→aX p∧bf p (nT s o).length:=fun hp=>⟨hp.1,IB hp.2 (by have:=Cj T.2.2;omega)⟩
  have V:aX (nV s o)∧bf (nV s o) (nT s o).length:=by
    unfold nV
    split
    · exact⟨uG _,uH _ _⟩
    · split
      · exact up (F6 h.rok _)
      · split
        · rename_i e
          have:=hd e
          refine⟨this.pok,?_⟩
          have e2:nT s o=(tDo s.t o.k (xOf s o) (yOf s o)).1:=by unfold nT;rw [if_pos e]
          rw [e2];exact this.und
        · split
          · rename_i e1 e2
            have e3:nT s o=(bL s.t (aOf s o)).1:=by unfold nT;rw [if_neg (by omega),if_pos e2]
            rw [e3]
            exact⟨rR _,rT (vo hp).1⟩
          · exact⟨dI,iE _⟩
  have g1:=h.ld
  have g2:=h.inn
  refine⟨⟨T.1,?_,?_,?_,?_,?_,?_,?_⟩,⟨T.2.2,hd,fun _=>hp⟩⟩
  · have:=T.2.1;show((nT s o).length:Int)≤_;omega
  · show(nR s o).length=4
    unfold nR;split
    · rw [List.length_set];exact h.r4
    · exact h.r4
  · show∀p∈nR s o,_
    intro p hp
    unfold nR at hp;split at hp
    · rcases List.mem_or_eq_of_mem_set hp with hp | rfl
      · exact up (h.rok p hp)
      · exact up (h.x o)
    · exact up (h.rok p hp)
  · show(s.vals++ [nV s o]).length=i+1
    rw [List.length_append,h.vl];rfl
  · show∀p∈s.vals++ [nV s o],_
    intro p hp
    rw [List.mem_append,List.mem_singleton]at hp
    rcases hp with hp | rfl
    · exact up (h.vok p hp)
    · exact V
  · show 0≤(if o.kind=4 then s.ld+1 else s.ld)∧(if o.kind=4 then s.ld+1 else s.ld)≤_
    split<;>omega
  · show 0≤(if o.kind=6 then s.inn+1 else s.inn)∧(if o.kind=6 then s.inn+1 else s.inn)≤_
    split<;>omega
theorem Ba {n:Int}:∀(ops:List IOp) (i:Nat) (s:SS),SI n i s→(∀o∈ops,o.kind=3→1≤o.k∧o.k≤5)→n+i+ops.length≤200→i+ops.length≤200→SI n (i+ops.length) (ops.foldl stp s)∧s.t<+:(ops.foldl stp s).t
  | [],i,s,h,_,_,_=>⟨h,List.prefix_refl _⟩
  | o::r,i,s,h,hk,h1,h2=>by
    rw [List.length_cons]at h1 h2
    obtain⟨a1,a2⟩:=JV h (hk o List.mem_cons_self) (by omega) (by omega)
    obtain⟨b1,b2⟩:=Ba r (i+1) (stp s o) a1 (fun o ho=>hk o (List.mem_cons_of_mem _ ho)) (by omega) (by omega)
    rw [List.foldl_cons,List.length_cons,show i+(r.length+1)=i+1+r.length by omega]
    exact⟨b1,a2.pre.trans b2⟩
structure RI (t:List Atom) (n:Nat) (r:List Atom×List (List aj)):Prop where
  tok:aJ r.1
  tl:r.1.length≤t.length+n
  pre:t<+:r.1
  r4:r.2.length=n
  rok:∀p∈r.2,aX p∧bf p r.1.length
theorem IC {t:List Atom} (h:aJ t) (hl:t.length≤196):∀n:Nat,n≤4→RI t n (rN t n)
  | 0,_=>⟨h,Nat.le_refl _,List.prefix_refl _,rfl,fun p hp=>absurd hp (by simp [rN])⟩
  | n+1,hn=>by
    have ih:=IC h hl n (by omega)
    have l:=ih.tl
    have hp:=Ch (a:=⟨1,n,[],[]⟩) ih.tok (by omega)
    have h0:=hp.2.2.2 (by unfold kR;rw [if_neg (by simp)];exact⟨⟨rfl,rfl⟩,Or.inl ⟨rfl,by dsimp only;omega,by dsimp only;omega⟩⟩)
    have pr:=uI (rN t n).1 ⟨1,n,[],[]⟩
    unfold rN
    refine⟨hp.1,?_,ih.pre.trans pr,?_,fun p h=> ?_⟩
    · have:=hp.2.2.1;dsimp only;omega
    · dsimp only;rw [List.length_append,ih.r4];rfl
    · dsimp only at h ⊢
      rw [List.mem_append,List.mem_singleton]at h
      rcases h with h | rfl
      · have:=ih.rok p h;exact⟨this.1,IB this.2 (by have:=Cj pr;omega)⟩
      · exact⟨rR _,rT (vo h0).1⟩
theorem JW {t:List Atom} (h:aJ t) (hl:t.length≤196) {n:Nat} (hn:n<4):0≤(bL (rN t n).1 ⟨1,n,[],[]⟩).2:=by
  have ih:=IC h hl n (by omega)
  have l:=ih.tl
  exact(Ch (a:=⟨1,n,[],[]⟩) ih.tok (by omega)).2.2.2 (by unfold kR;rw [if_neg (by simp)];exact⟨⟨rfl,rfl⟩,Or.inl ⟨rfl,by dsimp only;omega,by dsimp only;omega⟩⟩)
theorem Nv {t:List Atom} (h:aJ t) (hl:t.length≤196):SI (t.length+4) 0 (s0 t):=by
  have:=IC h hl 4 (by omega)
  have l:=this.tl
  exact⟨this.tok,by show((rN t 4).1.length:Int)≤_;omega,this.r4,this.rok,rfl,fun p hp=>absurd hp (by simp [s0]),by simp [s0],by simp [s0]⟩
theorem gM.k3 {b:Blk} (h:gM b):∀o∈b.ops,o.kind=3→1≤o.k∧o.k≤5:=fun o ho=>by
  obtain⟨i,hi,rfl⟩:=List.getElem_of_mem ho
  have:=(h.op i (by omega) (by omega)).k3
  rw [show(i:Int).toNat=i from rfl,getD_lt hi]at this
  exact this
theorem Rz {t:List Atom} {b:Blk} (h:aJ t) (hl:t.length≤100) (hb:gM b):SI (t.length+4) b.ops.length (ku t b)∧t<+:(ku t b).t:=by
  have sz:=hb.sz
  obtain⟨h1,h2⟩:=Ba b.ops 0 (s0 t) (Nv h (by omega)) hb.k3 (by omega) (by omega)
  rw [Nat.zero_add]at h1
  exact⟨h1,(IC h (by omega) 4 (by omega)).pre.trans h2⟩
def SS.on (s:SS) (u:List Atom):SS:=⟨u,s.regs,s.vals,s.ld,s.inn,s.evs⟩
theorem ahM {s:SS} {o:IOp} {u:List Atom} (hu:aJ u) (h:SOK s o) (hp:(stp s o).t<+:u):stp (s.on u) o=(stp s o).on u:=by
  have hp:nT s o<+:u:=hp
  have ex:xOf (s.on u) o=xOf s o:=rfl
  have ey:yOf (s.on u) o=yOf s o:=rfl
  have ea:aOf (s.on u) o=aOf s o:=rfl
  have eT:nT (s.on u) o=u:=by
    unfold nT
    split
    · rename_i e
      rw [ex,ey]
      have h3:=(h.d e).ok
      unfold nT at hp;rw [if_pos e]at hp
      rw [show(s.on u).t=u from rfl,Xo hu h3 hp]
    · split
      · rename_i e1 e2
        unfold nT at hp;rw [if_neg e1,if_pos e2]at hp
        rw [ea,show(s.on u).t=u from rfl,y7 hu (h.p e2) hp]
      · rfl
  have eV:nV (s.on u) o=nV s o:=by
    unfold nV
    split
    · rfl
    · split
      · rfl
      · split
        · rename_i e
          rw [ex,ey]
          have h3:=(h.d e).ok
          unfold nT at hp;rw [if_pos e]at hp
          rw [show(s.on u).t=u from rfl,Xo hu h3 hp]
        · split
          · rename_i e1 e2
            unfold nT at hp;rw [if_neg e1,if_pos e2]at hp
            rw [ea,show(s.on u).t=u from rfl,y7 hu (h.p e2) hp]
          · rfl
  show SS.mk (nT (s.on u) o) (nR (s.on u) o) ((s.on u).vals++ [nV (s.on u) o]) _ _ (nE (s.on u) o)=SS.mk u (nR s o) (s.vals++ [nV s o]) _ _ (nE s o)
  rw [eT,eV];rfl
theorem Xp {n:Int} {u:List Atom} (hu:aJ u):∀(ops:List IOp) (i:Nat) (s:SS),SI n i s→(∀o∈ops,o.kind=3→1≤o.k∧o.k≤5)→n+i+ops.length≤200→i+ops.length≤200→(ops.foldl stp s).t<+:u→ops.foldl stp (s.on u)=(ops.foldl stp s).on u
  | [],i,s,h,_,_,_,_=>rfl
  | o::r,i,s,h,hk,h1,h2,hp=>by
    rw [List.length_cons]at h1 h2
    obtain⟨a1,a2⟩:=JV h (hk o List.mem_cons_self) (by omega) (by omega)
    rw [List.foldl_cons]at hp
    obtain⟨_,b2⟩:=Ba r (i+1) (stp s o) a1 (fun o ho=>hk o (List.mem_cons_of_mem _ ho)) (by omega) (by omega)
    rw [List.foldl_cons,List.foldl_cons,ahM hu a2 (b2.trans hp)]
    exact Xp hu r (i+1) (stp s o) a1 (fun o ho=>hk o (List.mem_cons_of_mem _ ho)) (by omega) (by omega) hp
theorem acH {t u:List Atom} (h:aJ t) (hl:t.length≤196) (hu:aJ u):∀n:Nat,n≤4→(rN t n).1<+:u→rN u n=(u,(rN t n).2)
  | 0,_,_=>rfl
  | n+1,hn,hp=>by
    have h0:=JW h hl (n:=n) (by omega)
    have pr:=uI (rN t n).1 ⟨1,n,[],[]⟩
    have hp':(bL (rN t n).1 ⟨1,n,[],[]⟩).1<+:u:=hp
    have ih:=acH h hl hu n (by omega) (pr.trans hp')
    show((bL (rN u n).1 ⟨1,n,[],[]⟩).1,(rN u n).2++ [gT (bL (rN u n).1 ⟨1,n,[],[]⟩).2])=(u,(rN t n).2++ [gT (bL (rN t n).1 ⟨1,n,[],[]⟩).2])
    rw [ih]
    dsimp only
    rw [y7 hu h0 hp']
theorem abg {t u:List Atom} {b:Blk} (h:aJ t) (hl:t.length≤100) (hb:gM b) (hu:aJ u) (hp:(ku t b).t<+:u):ku u b=(ku t b).on u:=by
  have sz:=hb.sz
  have i0:=Nv h (by omega)
  obtain⟨_,h2⟩:=Ba b.ops 0 (s0 t) i0 hb.k3 (by omega) (by omega)
  have e:s0 u=(s0 t).on u:=by
    unfold s0 SS.on
    rw [acH h (by omega) hu 4 (by omega) (h2.trans hp)]
  unfold ku at hp ⊢
  rw [e]
  exact Xp hu b.ops 0 (s0 t) i0 hb.k3 (by omega) (by omega) hp
theorem xD {t:List Atom} {b:Blk} (h:aJ t) (hl:t.length≤100) (hb:gM b):bU t b=((ku t b).t,symEnd (Gg b (ku t b)) (b.pc+b.len)):=by
  unfold bU;rw [if_pos (iA ⟨h,hl,hb⟩)]
theorem Uo {t u:List Atom} {b:Blk} (h:aJ t) (hl:t.length≤100) (hb:gM b) (hu:aJ u) (hlu:u.length≤100) (hp:(bU t b).1<+:u):bU u b=(u,(bU t b).2):=by
  rw [xD h hl hb]at hp ⊢
  rw [xD hu hlu hb,abg h hl hb hu hp]
  rfl
theorem IE {t:List Atom} {b:Blk} (h:aJ t) (hl:t.length≤100) (hb:gM b):aJ (bU t b).1∧t<+:(bU t b).1∧(bU t b).1.length≤t.length+b.ops.length+4:=by
  unfold bU
  rw [if_pos (iA ⟨h,hl,hb⟩)]
  obtain⟨h1,h2⟩:=Rz h hl hb
  have:=h1.tl
  exact⟨h1.tok,h2,by dsimp only;omega⟩
end Go.TX.F
namespace Go.TX.F
open Go Go.AE Go.TX
def ShP (l:List (List aj)):Prop:=l.length<1000000000∧∀p∈l,Sh p
def ShE (e:Ev):Prop:=Sh e.x∧Sh e.y∧ShP e.regs
def Uq (l:List Ev):Prop:=l.length<1000000000∧∀e∈l,ShE e
structure ShY (s:Sym):Prop where
  e:Uq s.events
  r:ShP s.regs
  x:Sh s.x
  y:Sh s.y
theorem ShP.at {l:List (List aj)} (h:ShP l) (n:Nat):Sh (l.getD n default):=by
  by_cases c:n<l.length
  · rw [getD_lt c];exact h.2 _ (List.getElem_mem _)
  · rw [List.getD_eq_getElem?_getD,List.getElem?_eq_none (by omega)];exact mH
theorem JX:ShP []:=⟨by simp,fun p h=>absurd h (by simp)⟩
theorem Uq.at {l:List Ev} (h:Uq l) (n:Nat):ShE (l.getD n default):=by
  by_cases c:n<l.length
  · rw [getD_lt c];exact h.2 _ (List.getElem_mem _)
  · rw [List.getD_eq_getElem?_getD,List.getElem?_eq_none (by omega)];exact⟨mH,mH,JX⟩
theorem abh:ShY Xn:=⟨⟨by simp [Xn],fun e h=>absurd h (by simp [Xn])⟩,JX,mH,mH⟩
theorem SI.regs {n:Int} {i:Nat} {s:SS} (h:SI n i s):ShP s.regs:=⟨by have:=h.r4;omega,fun p hp=>(h.rok p hp).1.sh⟩
theorem abj {n:Int} {i:Nat} {s:SS} {o:IOp} (h:SI n i s) (h2:s.evs.length≤i∧∀e∈s.evs,ShE e):(stp s o).evs.length≤i+1∧∀e∈(stp s o).evs,ShE e:=by
  show(nE s o).length≤i+1∧∀e∈nE s o,ShE e
  unfold nE
  split
  · refine⟨by rw [List.length_append];have:=h2.1;simp only [List.length_cons,List.length_nil];omega,fun e he=> ?_⟩
    rw [List.mem_append,List.mem_singleton]at he
    rcases he with he | rfl
    · exact h2.2 e he
    · refine⟨(h.x o).1.sh,(h.y o).1.sh,?_⟩
      dsimp only
      split
      · exact h.regs
      · exact JX
  · exact⟨by have:=h2.1;omega,h2.2⟩
theorem Po {n:Int}:∀(ops:List IOp) (i:Nat) (s:SS),SI n i s→(∀o∈ops,o.kind=3→1≤o.k∧o.k≤5)→n+i+ops.length≤200→i+ops.length≤200→(s.evs.length≤i∧∀e∈s.evs,ShE e)→(ops.foldl stp s).evs.length≤i+ops.length∧∀e∈(ops.foldl stp s).evs,ShE e
  | [],i,s,h,_,_,_,h3=>h3
  | o::r,i,s,h,hk,h1,h2,h3=>by
    rw [List.length_cons]at h1 h2
    obtain⟨a1,a2⟩:=JV h (hk o List.mem_cons_self) (by omega) (by omega)
    have:=Po r (i+1) (stp s o) a1 (fun o ho=>hk o (List.mem_cons_of_mem _ ho)) (by omega) (by omega) (abj h h3)
    rw [List.foldl_cons,List.length_cons,show i+(r.length+1)=i+1+r.length by omega]
    exact this
def evT (e:Ev):Int×Int×Nat:=(e.kind,e.at_,e.regs.length)
def opT (o:IOp):Int×Int×Nat:=(o.kind,o.at_,if o.kind=4∨o.kind=5 then 4 else 0)
def BH (ops:List IOp):List IOp:=ops.filter fun o=>decide (evO o)
theorem RA:∀(ops:List IOp) (s:SS),s.regs.length=4→(ops.foldl stp s).evs.map evT=s.evs.map evT++(BH ops).map opT
  | [],s,_=>by simp [BH]
  | o::r,s,h=>by
    have h':(stp s o).regs.length=4:=by
      show(nR s o).length=4
      unfold nR;split
      · rw [List.length_set];exact h
      · exact h
    rw [List.foldl_cons,RA r (stp s o) h']
    show(nE s o).map evT++_=_
    unfold nE BH
    by_cases c:evO o
    · have e:evT ⟨o.kind,o.at_,xOf s o,yOf s o,if o.kind=4∨o.kind=5 then s.regs else []⟩=opT o:=by
        unfold evT opT
        dsimp only
        split
        · rw [h]
        · rfl
      rw [if_pos c,List.filter_cons_of_pos (by simpa using c),List.map_append,List.append_assoc]
      refine congrArg (s.evs.map evT++ ·) ?_
      show evT _::_=opT o::_
      rw [e];rfl
    · rw [if_neg c,List.filter_cons_of_neg (by simpa using c)]
theorem RD {n:Int} {i:Nat} {s:SS} {b:Blk} (h:SI n i s):aX (Gg b s).x∧aX (Gg b s).y:=by
  unfold Gg
  dsimp only
  constructor
  · split
    · exact dI
    · exact(F6 h.vok _).1
  · split
    · exact(F6 h.vok _).1
    · exact dI
theorem JY {s:Sym} {n:Int} (h:aX s.x∧aX s.y):(symEnd s n).events=s.events∧(symEnd s n).regs=s.regs∧aX (symEnd s n).x∧aX (symEnd s n).y:=by
  unfold symEnd
  rw [if_neg (by rw [iA h];simp)]
  repeat' split
  all_goals first | exact⟨rfl,rfl,h⟩ | exact⟨rfl,rfl,dI,dI⟩ | exact⟨rfl,rfl,h.2,h.1⟩
structure alq (t:List Atom) (b:Blk):Prop where
  evs:(bU t b).2.events.map evT=(BH b.ops).map opT
  r4:(bU t b).2.regs.length=4
  sh:ShY (bU t b).2
  ne:0< (bU t b).1.length
theorem uJ {t:List Atom} {b:Blk} (h:aJ t) (hl:t.length≤100) (hb:gM b):alq t b:=by
  have sz:=hb.sz
  have i0:=Nv h (by omega)
  obtain⟨h1,h2⟩:=Rz h hl hb
  have hs:=Po b.ops 0 (s0 t) i0 hb.k3 (by omega) (by omega) ⟨by simp [s0],fun e he=>absurd he (by simp [s0])⟩
  have he:=RA b.ops (s0 t) i0.r4
  have hk:=JY (n:=b.pc+b.len) (RD (b:=b) h1)
  have e:bU t b=((ku t b).t,symEnd (Gg b (ku t b)) (b.pc+b.len)):=by unfold bU;rw [if_pos (iA ⟨h,hl,hb⟩)]
  rw [Nat.zero_add]at hs
  refine⟨?_,?_,?_,?_⟩
  · rw [e];dsimp only;rw [hk.1];show(ku t b).evs.map evT=_;unfold ku;rw [he];rfl
  · rw [e];dsimp only;rw [hk.2.1];exact h1.r4
  · rw [e]
    refine⟨?_,?_,hk.2.2.1.sh,hk.2.2.2.sh⟩
    · rw [hk.1];exact⟨by have:=hs.1;show(b.ops.foldl stp (s0 t)).evs.length<_;omega,hs.2⟩
    · rw [hk.2.1];exact h1.regs
  · rw [e]
    have r:=Ba b.ops 0 (s0 t) i0 hb.k3 (by omega) (by omega)
    have:=Cj r.2
    have p:=vo (JW h (by omega) (n:=3) (by omega))
    have p0:=JW h (by omega) (n:=3) (by omega)
    show 0< (ku t b).t.length
    have:(s0 t).t.length=(bL (rN t 3).1 ⟨1,(3:Nat),[],[]⟩).1.length:=rfl
    unfold ku
    omega
theorem JZ (t:List Atom) (b:Blk):ShY (bU t b).2∧ShT (bU t b).1:=by
  by_cases c:aJ t∧t.length≤100∧gM b
  · exact⟨(uJ c.1 c.2.1 c.2.2).sh,(IE c.1 c.2.1 c.2.2).1.sh⟩
  · unfold bU;rw [iI c,if_neg (by simp)];exact⟨abh,abb⟩
noncomputable def t4:List Atom:=(rN [] 4).1
theorem Bb:aJ []:=vk.2 ⟨All.zero,by simp⟩
theorem RF:aJ t4∧t4.length≤4:=by
  have:=IC Bb (by simp) 4 (by omega)
  exact⟨this.tok,Nat.le_trans this.tl (by simp)⟩
noncomputable def chk (b c:Blk):Bool:=bp (gM b∧gM c∧b.pc=c.pc∧b.len=c.len∧(b=c∨(bU t4 b).2=(bU (bU t4 b).1 c).2))
structure Lk (b c:Blk):Prop where
  ob:gM b
  oc:gM c
  pc:b.pc=c.pc
  len:b.len=c.len
  run:∀u,aJ u→u.length≤100→(bU u b).1=u→bU u c=bU u b
theorem Lk.refl {b:Blk} (h:gM b):Lk b b:=⟨h,h,rfl,rfl,fun _ _ _ _=>rfl⟩
theorem Lk.trans {b c d:Blk} (h:Lk b c) (g:Lk c d):Lk b d:=⟨h.ob,g.oc,h.pc.trans g.pc,h.len.trans g.len,fun u h1 h2 h3=>by
  have e:=h.run u h1 h2 h3
  rw [g.run u h1 h2 (by rw [e];exact h3),e]⟩
theorem RG {b:Blk} (hb:gM b):aJ (bU t4 b).1∧(bU t4 b).1.length≤100∧bU (bU t4 b).1 b=bU t4 b:=by
  have h4:=RF
  have hr:=IE h4.1 (by omega) hb
  have sz:=hb.sz
  refine⟨hr.1,by omega,?_⟩
  have:=Uo h4.1 (by omega) hb hr.1 (by omega) (List.prefix_refl _)
  rw [this]
theorem Lk.chk {b c:Blk} (h:Lk b c):chk b c=true:=by
  obtain⟨h1,h2,h3⟩:=RG h.ob
  refine iA ⟨h.ob,h.oc,h.pc,h.len,Or.inr ?_⟩
  rw [h.run _ h1 h2 (by rw [h3]),h3]
def many (ops:List IOp) (k:Int):Int:=((ops.filter fun o=>decide (o.kind=k)).length:Int)
theorem abk {b c:Blk} (h:chk b c=true):(BH b.ops).map opT=(BH c.ops).map opT:=by
  obtain⟨h1,h2,_,_,h3⟩:=bX.1 h
  rcases h3 with h3 | h3
  · rw [h3]
  · have h4:=RF
    obtain⟨g1,g2,_⟩:=RG h1
    rw [←(uJ h4.1 (by omega) h1).evs,h3,(uJ g1 g2 h2).evs]
theorem F7 (k:Int) (hk:4≤k∧k≤7):∀ops:List IOp,many ops k=((((BH ops).map opT).filter fun x=>decide (x.1=k)).length:Int)
  | []=>rfl
  | o::r=>by
    have ih:=F7 k hk r
    unfold many BH at ih ⊢
    by_cases c:o.kind=k
    · rw [List.filter_cons_of_pos (by simpa using c),List.filter_cons_of_pos (p:=fun o=>decide (evO o)) (by simp only [decide_eq_true_eq];unfold evO;omega),List.map_cons,List.filter_cons_of_pos (by simp only [decide_eq_true_eq];exact c)]
      simp only [List.length_cons];omega
    · rw [List.filter_cons_of_neg (by simpa using c)]
      by_cases c2:evO o
      · rw [List.filter_cons_of_pos (p:=fun o=>decide (evO o)) (by simpa using c2),List.map_cons,List.filter_cons_of_neg (by simp only [decide_eq_true_eq];exact c)]
        exact ih
      · rw [List.filter_cons_of_neg (p:=fun o=>decide (evO o)) (by simpa using c2)]
        exact ih
theorem Xq {b c:Blk} (h:chk b c=true) {k:Int} (hk:4≤k∧k≤7):many b.ops k=many c.ops k:=by
  rw [F7 k hk,F7 k hk,abk h]
end Go.TX.F
namespace Go.TX.F
open Go Go.AE Go.TX
theorem Pp (f:SS→IOp→SS) (s:SS) {l:List IOp} {i:Nat} (h:i<l.length):(l.take (i+1)).foldl f s=f ((l.take i).foldl f s) l[i]:=by
  rw [List.take_succ_eq_append_getElem h,List.foldl_append];rfl
def ren (nm:List Int) (o:IOp):IOp:=⟨o.kind,if hX o then((nm).getD (o.x).toNat default)else o.x,if hY o then((nm).getD (o.y).toNat default)else o.y,o.k,o.at_⟩
def cpN (s:List Int×List Int) (i:Int) (o:IOp):Int:=if o.kind=2∧0≤((s.2).getD (o.k).toNat default)then((s.2).getD (o.k).toNat default)else i
def cpL (s:List Int×List Int) (i:Int) (o:IOp):List Int:=if o.kind=2 then(if 0≤((s.2).getD (o.k).toNat default)then s.2 else s.2.set o.k.toNat i)else if o.kind=8 then s.2.set o.k.toNat ((s.1).getD (o.x).toNat default)else s.2
def cpS (ops:List IOp):Nat→List Int×List Int
  | 0=>([],[-1, -1, -1, -1])
  | i+1=>((cpS ops i).1++ [cpN (cpS ops i) i (ops.getD i default)],cpL (cpS ops i) i (ops.getD i default))
structure CI (ops:List IOp) (i:Nat) (s:SS):Prop where
  nm:∀j:Int,0≤j→j<i→(0≤(((cpS ops i).1).getD (j).toNat default)∧(((cpS ops i).1).getD (j).toNat default)≤j)∧((s.vals).getD ((((cpS ops i).1).getD (j).toNat default)).toNat default)=((s.vals).getD (j).toNat default)∧(mkV ((ops).getD (j).toNat default)→mkV ((ops).getD ((((cpS ops i).1).getD (j).toNat default)).toNat default))
  la:∀r:Int,0≤r→r≤3→0≤(((cpS ops i).2).getD (r).toNat default)→(((cpS ops i).2).getD (r).toNat default)<i∧((s.vals).getD ((((cpS ops i).2).getD (r).toNat default)).toNat default)=((s.regs).getD (r).toNat default)∧mkV ((ops).getD ((((cpS ops i).2).getD (r).toNat default)).toNat default)
end Go.TX.F
namespace Go.TX.F
open Go Go.AE Go.TX
def fcO (f:List IOp) (o:IOp):IOp:=if o.kind=3∧(((f).getD (o.x).toNat default)).kind=1∧(((f).getD (o.y).toNat default)).kind=1 then⟨1,0,0,wdo o.k (((f).getD (o.x).toNat default)).k (((f).getD (o.y).toNat default)).k,0⟩else o
def fc (ops:List IOp):Nat→List IOp
  | 0=> []
  | i+1=>fc ops i++ [fcO (fc ops i) (ops.getD i default)]
structure FI (ops:List IOp) (i:Nat) (s:SS):Prop where
  c:∀j:Int,0≤j→j<i→((((fc ops i)).getD (j).toNat default)).kind=1→(0≤((((fc ops i)).getD (j).toNat default)).k∧((((fc ops i)).getD (j).toNat default)).k≤65535)∧((s.vals).getD (j).toNat default)=eX ((((fc ops i)).getD (j).toNat default)).k
  m:∀j:Int,0≤j→j<i→mkV ((ops).getD (j).toNat default)→mkV (((fc ops i)).getD (j).toNat default)
end Go.TX.F
namespace Go.TX.F
open Go Go.AE Go.TX
theorem RB:(∀o:IOp,je .iop 0 o=o.kind)∧(∀o:IOp,je .iop 1 o=o.x)∧(∀o:IOp,je .iop 2 o=o.y)∧(∀o:IOp,je .iop 3 o=o.k)∧(∀o:IOp,je .iop 4 o=o.at_)∧
    (∀b:Blk,je .blk 0 b=b.pc)∧(∀b:Blk,je .blk 1 b=b.len)∧(∀b:Blk,nH .blk 2 .iop b=b.ops)∧(∀b:Blk,je .blk 3 b=b.fin)∧(∀b:Blk,je .blk 4 b=b.x)∧(∀b:Blk,je .blk 5 b=b.y)∧(∀b:Blk,je .blk 6 b=b.k)∧
    (∀x,Co.mk .iop x=⟨x.1,x.2.1,x.2.2.1,x.2.2.2.1,x.2.2.2.2.1⟩)∧(∀x,Co.mk .blk x=⟨x.1,x.2.1,x.2.2.1,x.2.2.2.1,x.2.2.2.2.1,x.2.2.2.2.2.1,x.2.2.2.2.2.2.1⟩)∧
    (∀i:Ins,je .ins 0 i=i.op)∧(∀i:Ins,je .ins 1 i=i.d)∧(∀i:Ins,je .ins 2 i=i.a)∧(∀i:Ins,je .ins 3 i=i.k)∧(∀x,Co.mk .ins x=⟨x.1,x.2.1,x.2.2.1,x.2.2.2.1⟩)∧
    (∀e:Ev,je .ev 0 e=e.kind)∧(∀e:Ev,je .ev 1 e=e.at_)∧(∀e:Ev,nH .ev 2 .mono e=e.x)∧(∀e:Ev,nH .ev 3 .mono e=e.y)∧(∀e:Ev,nH .ev 4 .poly e=e.regs)∧(∀x,Co.mk .ev x=⟨x.1,x.2.1,x.2.2.1,x.2.2.2.1,x.2.2.2.2.1⟩)∧
    (∀s:Sym,nH .sym 0 .ev s=s.events)∧(∀s:Sym,nH .sym 1 .poly s=s.regs)∧(∀s:Sym,je .sym 2 s=s.fin)∧(∀s:Sym,nH .sym 3 .mono s=s.x)∧(∀s:Sym,nH .sym 4 .mono s=s.y)∧(∀s:Sym,je .sym 5 s=s.k)∧
    (∀x,Co.mk .sym x=⟨x.1,x.2.1,x.2.2.1,x.2.2.2.1,x.2.2.2.2.1,x.2.2.2.2.2.1⟩):=
  ⟨fun _=>rfl,fun _=>rfl,fun _=>rfl,fun _=>rfl,fun _=>rfl,fun _=>rfl,fun _=>rfl,fun _=>rfl,fun _=>rfl,fun _=>rfl,fun _=>rfl,fun _=>rfl,fun _=>rfl,fun _=>rfl,fun _=>rfl,fun _=>rfl,fun _=>rfl,fun _=>rfl,fun _=>rfl,fun _=>rfl,fun _=>rfl,fun _=>rfl,fun _=>rfl,fun _=>rfl,fun _=>rfl,fun _=>rfl,fun _=>rfl,fun _=>rfl,fun _=>rfl,fun _=>rfl,fun _=>rfl,fun _=>rfl⟩
@[reducible] def hK (o : IOp) : Prop := o.kind = 1 ∨ o.kind = 2 ∨ o.kind = 3 ∨ o.kind = 8
theorem acI {p1:Int×Int×Int×Unit→Bool} {f1:Int×Int×Int×Unit→Bool×Unit} (hp1:∀a b c,p1 (a,b,c,())=true) (hf1:∀a b c,f1 (a,b,c,())=(inB a b c,())) (o:IOp):
    Mv (std 0) p1 f1 (o,()) (fun y=>y=(decide (hX o),decide (hY o),decide (hK o),decide (evO o),())):=by
  dsimp only [Mv,Alg.cl,Alg.cg,Alg.rb,Alg.bd,Alg.l1,Tup.q,Tup.o]
  simp (disch:=omega) only [RR,RB,hp1,hf1]
  refine Prod.ext ?_ (Prod.ext ?_ (Prod.ext ?_ (Prod.ext ?_ rfl)))<;>rw [Bool.eq_iff_iff]<;>simp [hX,hY,hK,evO,inB,or_assoc,and_assoc]
theorem acJ {p1:Int×Int×Int×Unit→Bool} {f1:Int×Int×Int×Unit→Bool×Unit} (hp1:∀a b c,p1 (a,b,c,())=true) (hf1:∀a b c,f1 (a,b,c,())=(inB a b c,())) (o:IOp):
    Mw (std 0) p1 f1 (o,()) (fun y=>y=(decide (mkV o),())):=by
  dsimp only [Mw,Alg.cl,Alg.cg,Alg.rb,Alg.bd,Alg.l1,Tup.q,Tup.o]
  simp (disch:=omega) only [RR,RB,hp1,hf1]
  refine Prod.ext ?_ rfl
  rw [Bool.eq_iff_iff];simp [mkV,inB]
theorem acK {p1:Int×Int×Int×Unit→Bool} {f1:Int×Int×Int×Unit→Bool×Unit} (hp1:∀a b c,p1 (a,b,c,())=true) (hf1:∀a b c,f1 (a,b,c,())=(inB a b c,())) (o:IOp):
    MO (std 0) p1 f1 (o,()) (fun y=>y=(decide (evO o),())):=by
  dsimp only [MO,Alg.cl,Alg.cg,Alg.rb,Alg.bd,Alg.l1,Tup.q,Tup.o]
  simp (disch:=omega) only [RR,RB,hp1,hf1]
  refine Prod.ext ?_ rfl
  rw [Bool.eq_iff_iff];simp [evO,inB]
theorem acL {p2:IOp×Unit→Bool} {f2:IOp×Unit→Bool×Unit} (hp2:∀o,p2 (o,())=true) (hf2:∀o,f2 (o,())=(decide (mkV o),()))
    {p1:Int×Int×Int×Unit→Bool} {f1:Int×Int×Int×Unit→Bool×Unit} (hp1:∀a b c,p1 (a,b,c,())=true) (hf1:∀a b c,f1 (a,b,c,())=(inB a b c,())) (b:Blk) (x n:Int) (h0:0≤n) (h1:n≤b.ops.length) (h2:b.ops.length<1000000000):
    Mx (std 0) p2 f2 p1 f1 (b,x,n,()) (fun y=>y=(bp (Vl b.ops x n),())):=by
  dsimp only [Mx,Alg.cl,Alg.cg,Alg.rb,Alg.bd,Alg.l1,Tup.q,Tup.o]
  simp (disch:=omega) only [RR,RB,hp1,hf1,hp2,hf2,dV,uw]
  refine⟨by omega,by omega,?_⟩
  refine Prod.ext ?_ rfl
  dsimp only
  rw [Bool.eq_iff_iff,bX,Bool.and_eq_true,dV,decide_eq_true_eq]
  unfold Vl
  constructor
  · rintro⟨⟨a1,a2⟩,a3⟩;exact⟨a1,by omega,a3⟩
  · rintro⟨a1,a2,a3⟩;exact⟨⟨a1,by omega⟩,a3⟩
theorem Nw {ops:List IOp} {len i:Int} {o:IOp}:JU ops len i o↔(1≤o.kind∧o.kind≤8)∧(hX o∧Vl ops o.x i∨¬hX o∧o.x=0)∧(hY o∧Vl ops o.y i∨¬hY o∧o.y=0)∧
    (hK o∧(o.kind=1∧(0≤o.k∧o.k≤65535)∨(o.kind=2∨o.kind=8)∧(0≤o.k∧o.k≤3)∨o.kind=3∧(1≤o.k∧o.k≤5))∨¬hK o∧o.k=0)∧(evO o∧(0≤o.at_∧o.at_<len)∨¬evO o∧o.at_=0):=by
  constructor
  · rintro⟨kd,x1,x0,y1,y0,k1,k2,k3,k0,a1,a0⟩
    refine⟨kd,?_,?_,?_,?_⟩
    · by_cases h:hX o
      · exact Or.inl ⟨h,x1 h⟩
      · exact Or.inr ⟨h,x0 h⟩
    · by_cases h:hY o
      · exact Or.inl ⟨h,y1 h⟩
      · exact Or.inr ⟨h,y0 h⟩
    · unfold hK;omega
    · by_cases h:evO o
      · exact Or.inl ⟨h,a1 h⟩
      · exact Or.inr ⟨h,a0 h⟩
  · rintro⟨kd,x,y,k,a⟩
    refine⟨kd,fun h=> ?_,fun h=> ?_,fun h=> ?_,fun h=> ?_,fun h=> ?_,fun h=> ?_,fun h=> ?_,fun h h'=> ?_,fun h=> ?_,fun h=> ?_⟩
    · rcases x with x | x
      · exact x.2
      · exact absurd h x.1
    · rcases x with x | x
      · exact absurd x.1 h
      · exact x.2
    · rcases y with y | y
      · exact y.2
      · exact absurd h y.1
    · rcases y with y | y
      · exact absurd y.1 h
      · exact y.2
    · unfold hK at k;omega
    · unfold hK at k;omega
    · unfold hK at k;omega
    · unfold hK at k;omega
    · rcases a with a | a
      · exact a.2
      · exact absurd h a.1
    · rcases a with a | a
      · exact absurd a.1 h
      · exact a.2
theorem acM {p3:Blk×Int×Int×Unit→Bool} {f3:Blk×Int×Int×Unit→Bool×Unit} (hp3:∀b x n,0≤n→n≤b.ops.length→b.ops.length<1000000000→p3 (b,x,n,())=true) (hf3:∀b x n,0≤n→n≤b.ops.length→b.ops.length<1000000000→f3 (b,x,n,())=(bp (Vl b.ops x n),()))
    {p2:IOp×Unit→Bool} {f2:IOp×Unit→Bool×Bool×Bool×Bool×Unit} (hp2:∀o,p2 (o,())=true) (hf2:∀o,f2 (o,())=(decide (hX o),decide (hY o),decide (hK o),decide (evO o),()))
    {p4:Int×Unit→Bool} {f4:Int×Unit→Bool×Unit} (hp4:∀a,p4 (a,())=true) (hf4:∀a,f4 (a,())=(inB a 0 65535,()))
    {p1:Int×Int×Int×Unit→Bool} {f1:Int×Int×Int×Unit→Bool×Unit} (hp1:∀a b c,p1 (a,b,c,())=true) (hf1:∀a b c,f1 (a,b,c,())=(inB a b c,()))
    {p5:Int×Unit→Bool} {f5:Int×Unit→Bool×Unit} (hp5:∀a,p5 (a,())=true) (hf5:∀a,f5 (a,())=(inB a 1 5,()))
    {p6:Int×Unit→Bool} {f6:Int×Unit→Bool×Unit} (hp6:∀a,p6 (a,())=true) (hf6:∀a,f6 (a,())=(inB a 0 3,()))
    (b:Blk) (i:Int) (h0:0≤i) (h1:i<b.ops.length) (h2:b.ops.length<1000000000) (h3:1≤b.len∧b.len≤8):
    MB (std 0) p3 f3 p2 f2 p4 f4 p1 f1 p5 f5 p6 f6 (b,i,()) (fun y=>y=(bp (JU b.ops b.len i ((b.ops).getD (i).toNat default)),())):=by
  have Pq:=fun x=>hp3 b x i h0 (by omega) h2
  have Pv:=fun x=>hf3 b x i h0 (by omega) h2
  dsimp only [MB,Alg.cl,Alg.cg,Alg.rb,Alg.bd,Alg.l1,Tup.q,Tup.o]
  simp (disch:=omega) only [RR,RB,hp1,hf1,hp2,hf2,Pq,Pv,hp4,hf4,hp5,hf5,hp6,hf6,uw]
  refine⟨by omega,by omega,fun h=> ?_,fun h=> ?_⟩
  · rw [iI (fun g=>h g.kd)]
  · have h:=dV.1 h
    refine Prod.ext ?_ rfl
    dsimp only
    rw [Bool.eq_iff_iff,bX,Nw]
    generalize ((b.ops).getD (i).toNat default)=o at h ⊢
    simp only [Bool.and_eq_true,Bool.or_eq_true,Bool.not_eq_true',decide_eq_true_eq,decide_eq_false_iff_not,bX,dV,h,true_and,and_true]
    have e:∀ {a:Int},(0≤a∧a≤b.len-1)↔(0≤a∧a<b.len):=fun {a}=>by omega
    have k:(bif decide (o.kind=1)then inB o.k 0 65535 else bif decide (o.kind=2)then inB o.k 0 3 else bif decide (o.kind=3)then inB o.k 1 5 else(decide (o.kind=8)&&inB o.k 0 3))=true↔(o.kind=1∧(0≤o.k∧o.k≤65535)∨(o.kind=2∨o.kind=8)∧(0≤o.k∧o.k≤3)∨o.kind=3∧(1≤o.k∧o.k≤5)):=by
      rcases(by omega:o.kind=1∨o.kind=2∨o.kind=3∨o.kind=8∨(o.kind≠1∧o.kind≠2∧o.kind≠3∧o.kind≠8))with c | c | c | c | ⟨c1,c2,c3,c4⟩
      · simp [c,inB]
      · simp [c,inB]
      · simp [c,inB]
      · simp [c,inB]
      · simp [c1,c2,c3,c4]
    rw [k]
    simp only [e,and_assoc]
theorem acN (b:Blk):MF (std 0) (b,()) (fun y=>y=(decide (b.fin≠1),decide (3≤b.fin),decide (b.fin≠2),())):=by
  dsimp only [MF,Alg.cl,Alg.cg,Alg.rb,Alg.bd,Alg.l1,Tup.q,Tup.o]
  simp (disch:=omega) only [RR,RB]
  refine Prod.ext ?_ (Prod.ext rfl (Prod.ext ?_ rfl))<;>simp
theorem IG {b:Blk}:yZ b↔(1≤b.fin∧b.fin≤4)∧(b.fin≠1∧Vl b.ops b.x b.ops.length∨¬b.fin≠1∧b.x=0)∧(3≤b.fin∧Vl b.ops b.y b.ops.length∨¬3≤b.fin∧b.y=0)∧(b.fin≠2∧(0≤b.k∧b.k≤65535)∨¬b.fin≠2∧b.k=0):=by
  constructor
  · rintro⟨f,x1,x0,y1,y0,k1,k0⟩
    refine⟨f,?_,?_,by omega⟩
    · by_cases h:b.fin=1
      · exact Or.inr ⟨fun g=>g h,x0 h⟩
      · exact Or.inl ⟨h,x1 h⟩
    · by_cases h:3≤b.fin
      · exact Or.inl ⟨h,y1 h⟩
      · exact Or.inr ⟨h,y0 (by omega)⟩
  · rintro⟨f,x,y,k⟩
    refine⟨f,fun h=> ?_,fun h=> ?_,fun h=> ?_,fun h=> ?_,fun h=>by omega,fun h=>by omega⟩
    · rcases x with x | x
      · exact x.2
      · exact absurd h x.1
    · rcases x with x | x
      · exact absurd h x.1
      · exact x.2
    · rcases y with y | y
      · exact y.2
      · exact absurd h y.1
    · rcases y with y | y
      · exact absurd y.1 (by omega)
      · exact y.2
theorem acO {p2:Blk×Unit→Bool} {f2:Blk×Unit→Bool×Bool×Bool×Unit} (hp2:∀b,p2 (b,())=true) (hf2:∀b,f2 (b,())=(decide (b.fin≠1),decide (3≤b.fin),decide (b.fin≠2),()))
    {p3:Blk×Int×Int×Unit→Bool} {f3:Blk×Int×Int×Unit→Bool×Unit} (hp3:∀b x n,0≤n→n≤b.ops.length→b.ops.length<1000000000→p3 (b,x,n,())=true) (hf3:∀b x n,0≤n→n≤b.ops.length→b.ops.length<1000000000→f3 (b,x,n,())=(bp (Vl b.ops x n),()))
    {p4:Int×Unit→Bool} {f4:Int×Unit→Bool×Unit} (hp4:∀a,p4 (a,())=true) (hf4:∀a,f4 (a,())=(inB a 0 65535,()))
    {p1:Int×Int×Int×Unit→Bool} {f1:Int×Int×Int×Unit→Bool×Unit} (hp1:∀a b c,p1 (a,b,c,())=true) (hf1:∀a b c,f1 (a,b,c,())=(inB a b c,())) (b:Blk) (h2:b.ops.length<1000000000):
    MG (std 0) p2 f2 p3 f3 p4 f4 p1 f1 (b,()) (fun y=>y=(bp (yZ b),())):=by
  have Pq:=fun x=>hp3 b x b.ops.length (by omega) (Int.le_refl _) h2
  have Pv:=fun x=>hf3 b x b.ops.length (by omega) (Int.le_refl _) h2
  dsimp only [MG,Alg.cl,Alg.cg,Alg.rb,Alg.bd,Alg.l1,Tup.q,Tup.o]
  simp (disch:=omega) only [RR,RB,hp1,hf1,hp2,hf2,Pq,Pv,hp4,hf4]
  refine Prod.ext ?_ rfl
  dsimp only
  rw [Bool.eq_iff_iff,bX,IG]
  simp only [Bool.and_eq_true,Bool.or_eq_true,Bool.not_eq_true',decide_eq_true_eq,decide_eq_false_iff_not,bX,dV,and_assoc]
theorem acP {p2:Blk×Unit→Bool} {f2:Blk×Unit→Bool×Unit} (hp2:∀b,b.ops.length<1000000000→p2 (b,())=true) (hf2:∀b,b.ops.length<1000000000→f2 (b,())=(bp (yZ b),()))
    {p3:Blk×Int×Unit→Bool} {f3:Blk×Int×Unit→Bool×Unit} (hp3:∀(b:Blk) (i:Int),0≤i→i<b.ops.length→b.ops.length<1000000000→1≤b.len∧b.len≤8→p3 (b,i,())=true) (hf3:∀(b:Blk) (i:Int),0≤i→i<b.ops.length→b.ops.length<1000000000→1≤b.len∧b.len≤8→f3 (b,i,())=(bp (JU b.ops b.len i ((b.ops).getD (i).toNat default)),()))
    {p1:Int×Int×Int×Unit→Bool} {f1:Int×Int×Int×Unit→Bool×Unit} (hp1:∀a b c,p1 (a,b,c,())=true) (hf1:∀a b c,f1 (a,b,c,())=(inB a b c,())) (b:Blk) (h2:b.ops.length<1000000000):
    MH (std 0) p2 f2 p3 f3 p1 f1 (b,()) (fun y=>y=(bp (gM b),())):=by
  dsimp only [MH,Alg.cl,Alg.cg,Alg.rb,Alg.bd,Alg.l1,Tup.q,Tup.o]
  simp (disch:=omega) only [RR,RB,hp1,hf1]
  by_cases hl:1≤b.len∧b.len≤8
  · have hl':=dV.2 hl
    simp (disch:=omega) only [RR,hl',dV,uw]
    refine⟨fun h=> ?_,fun h=> ?_⟩
    · rw [iI (fun g=> ?_)]
      have g1:=g.pc
      have g2:=g.sz
      omega
    · refine aA (fun(y:Int×Int×Blk×Unit)=>y.1=b.ops.length∧y.2.2.1=b∧0≤y.2.1∧y.2.1≤b.ops.length∧All y.2.1 (fun i=>JU b.ops b.len i ((b.ops).getD (i).toNat default))) (fun y=>(b.ops.length-y.2.1).toNat) ⟨rfl,rfl,by simp,by simp,All.zero⟩ ?_
      rintro⟨(n:Int),(i:Int),(b':Blk),⟨⟩⟩ hI
      dsimp only at hI ⊢
      obtain⟨rfl,rfl,h3,h4,h5⟩:=hI
      simp (disch:=omega) only [RR,hp2 b' h2,hf2 b' h2]
      refine⟨fun h6=>⟨hp3 b' i h3 h6 h2 hl,?_⟩,fun h6=> ?_⟩
      · rw [hf3 b' i h3 h6 h2 hl]
        dsimp only
        refine⟨fun h7=> ?_,fun h7=>⟨⟨by omega,by omega,h5.snoc (bX.1 h7)⟩,by omega⟩⟩
        rw [iI (fun g=>uj.1 h7 (g.op i h3 h6))]
      · by_cases he:yZ b'
        · rw [iA he,iA (show gM b' from⟨hl,by omega,by omega,fun j j1 j2=>h5 j j1 (by omega),he⟩)]
        · rw [iI he,iI (fun g=>he g.en)]
  · have hl':=uw.2 hl
    simp (disch:=omega) only [RR,hl']
    rw [iI (fun g=>hl g.ln)]
    exact⟨rfl,fun h=>h.1.1.elim⟩
end Go.TX.F
namespace Go.TX.F
open Go Go.AE Go.TX
theorem Xr {p1:Int×Int×Int×Unit→Bool} {f1:Int×Int×Int×Unit→Bool×Unit} (hp1:∀a b c,p1 (a,b,c,())=true) (hf1:∀a b c,f1 (a,b,c,())=(inB a b c,())) (k:Int):
    Ee (std 0) p1 f1 (k,()) (fun y=>y=(decide ((1≤k∧k≤4)∨k=6),())):=by
  dsimp only [Ee,Alg.cl,Alg.cg,Alg.rb,Alg.bd,Alg.l1,Tup.q,Tup.o]
  simp (disch:=omega) only [RR,hp1,hf1]
  refine Prod.ext ?_ rfl
  rw [Bool.eq_iff_iff];simp [inB]
theorem Xt {p1:Int×Unit→Bool} {f1:Int×Unit→Bool×Unit} (hp1:∀k,p1 (k,())=true) (hf1:∀k,f1 (k,())=(decide ((1≤k∧k≤4)∨k=6),())) (ops:List IOp) (x n:Int) (h1:n≤ops.length):
    Ef (std 0) p1 f1 (ops,x,n,()) (fun y=>y=(bp (Vl ops x n),())):=by
  dsimp only [Ef,Alg.cl,Alg.cg,Alg.rb,Alg.bd,Alg.l1,Tup.q,Tup.o]
  simp (disch:=omega) only [RR,RB,hp1,hf1]
  refine⟨by simp only [Bool.and_eq_false_iff,decide_eq_false_iff_not];omega,by simp only [Bool.and_eq_false_iff,decide_eq_false_iff_not];omega,?_⟩
  refine Prod.ext ?_ rfl
  dsimp only
  rw [Bool.eq_iff_iff,bX,Bool.and_eq_true,Bool.and_eq_true,decide_eq_true_eq,decide_eq_true_eq,decide_eq_true_eq,and_assoc]
  rfl
theorem Xu {p4:Int×Unit→Bool} {f4:Int×Unit→Bool×Unit} (hp4:∀a,p4 (a,())=true) (hf4:∀a,f4 (a,())=(inB a 0 65535,()))
    {p1:Int×Int×Int×Unit→Bool} {f1:Int×Int×Int×Unit→Bool×Unit} (hp1:∀a b c,p1 (a,b,c,())=true) (hf1:∀a b c,f1 (a,b,c,())=(inB a b c,()))
    {p3:List IOp×Int×Int×Unit→Bool} {f3:List IOp×Int×Int×Unit→Bool×Unit} (hp3:∀(ops:List IOp) (x n:Int),n≤ops.length→p3 (ops,x,n,())=true) (hf3:∀(ops:List IOp) (x n:Int),n≤ops.length→f3 (ops,x,n,())=(bp (Vl ops x n),()))
    (ops:List IOp) (i len:Int) (h0:0≤i) (h1:i<ops.length) (h3:1≤len∧len≤8):Eh (std 0) p4 f4 p1 f1 p3 f3 (ops,i,len,()) (fun y=>y=(bp (JU ops len i ((ops).getD (i).toNat default)),())):=by
  have Pq:=fun x=>hp3 ops x i (by omega)
  have Pv:=fun x=>hf3 ops x i (by omega)
  have e:∀ {a:Int},(0≤a∧a≤len-1)↔(0≤a∧a<len):=fun {a}=>by omega
  dsimp only [Eh,Alg.cl,Alg.cg,Alg.rb,Alg.bd,Alg.l1,Tup.q,Tup.o]
  simp (disch:=omega) only [RR,RB,hp1,hf1,Pq,Pv,hp4,hf4]
  refine⟨by omega,by omega,?_⟩
  rw [show bp (JU ops len i ((ops).getD (i).toNat default))=bp (_)from uo Nw]
  generalize ((ops).getD (i).toNat default)=o
  have go:∀ {c:Bool} {P:Prop},(c=true↔P)→(c,())=(bp P,()):=fun {c P} h=>Prod.ext (by dsimp only;rw [Bool.eq_iff_iff,bX];exact h) rfl
  refine⟨fun c=> ?_,fun c1=>⟨fun c=> ?_,fun c2=>⟨fun c=> ?_,fun c3=> ?_⟩⟩⟩
  · refine go ?_
    simp only [Bool.and_eq_true,decide_eq_true_eq,bX,dV,c,hX,hY,hK,evO,e]
    simp [and_assoc]
  · refine go ?_
    simp only [Bool.and_eq_true,decide_eq_true_eq,bX,dV,c,hX,hY,hK,evO,e]
    simp [and_assoc]
  · refine go ?_
    simp only [Bool.and_eq_true,decide_eq_true_eq,bX,dV,c,hX,hY,hK,evO,e]
    simp [and_assoc]
  · by_cases c4:o.kind=4∨o.kind=7
    · have c5:o.kind≠8:=by omega
      rcases c4 with c | c<;>simp (disch:=omega) only [RR,c,Int.reduceEq]<;>(refine go ?_)<;>simp only [Bool.and_eq_true,decide_eq_true_eq,bX,dV,c,hX,hY,hK,evO,e]<;>simp [and_assoc]
    · by_cases c:o.kind=5
      · simp (disch:=omega) only [RR,c,Int.reduceEq]
        refine go ?_
        simp only [Bool.and_eq_true,decide_eq_true_eq,bX,dV,c,hX,hY,hK,evO,e]
        simp [and_assoc]
      · by_cases c':o.kind=6
        · simp (disch:=omega) only [RR,c',Int.reduceEq]
          refine go ?_
          simp only [Bool.and_eq_true,decide_eq_true_eq,bX,dV,c',hX,hY,hK,evO,e]
          simp [and_assoc]
        · by_cases c8:o.kind=8
          · simp (disch:=omega) only [RR,c8,Int.reduceEq]
            refine go ?_
            simp only [Bool.and_eq_true,decide_eq_true_eq,bX,dV,c8,hX,hY,hK,evO,e]
            simp [and_assoc]
          · have n4:¬o.kind=4:=fun h=>c4 (Or.inl h)
            have n7:¬o.kind=7:=fun h=>c4 (Or.inr h)
            simp (disch:=omega) only [RR,n4,n7,c,c',c8]
            rw [iI (fun h=>by have:=h.1;omega)]
theorem Xv {p4:Int×Unit→Bool} {f4:Int×Unit→Bool×Unit} (hp4:∀a,p4 (a,())=true) (hf4:∀a,f4 (a,())=(inB a 0 65535,()))
    {p3:List IOp×Int×Int×Unit→Bool} {f3:List IOp×Int×Int×Unit→Bool×Unit} (hp3:∀(ops:List IOp) (x n:Int),n≤ops.length→p3 (ops,x,n,())=true) (hf3:∀(ops:List IOp) (x n:Int),n≤ops.length→f3 (ops,x,n,())=(bp (Vl ops x n),()))
    (b:Blk):Ei (std 0) p4 f4 p3 f3 (b,()) (fun y=>y=(bp (yZ b),())):=by
  have Pq:=fun x=>hp3 b.ops x b.ops.length (Int.le_refl _)
  have Pv:=fun x=>hf3 b.ops x b.ops.length (Int.le_refl _)
  dsimp only [Ei,Alg.cl,Alg.cg,Alg.rb,Alg.bd,Alg.l1,Tup.q,Tup.o]
  simp (disch:=omega) only [RR,RB,Pq,Pv,hp4,hf4]
  rw [show bp (yZ b)=bp (_)from uo IG]
  have go:∀ {c:Bool} {P:Prop},(c=true↔P)→(c,())=(bp P,()):=fun {c P} h=>Prod.ext (by dsimp only;rw [Bool.eq_iff_iff,bX];exact h) rfl
  refine⟨fun c=> ?_,fun c1=>⟨fun c=> ?_,fun c2=> ?_⟩⟩
  · refine go ?_
    simp only [Bool.and_eq_true,decide_eq_true_eq,bX,dV,c]
    simp [and_assoc]
  · refine go ?_
    simp only [Bool.and_eq_true,decide_eq_true_eq,bX,dV,c]
    simp [and_assoc]
  · by_cases c:b.fin=3
    · simp (disch:=omega) only [RR,c,Int.reduceEq]
      refine go ?_
      simp only [Bool.and_eq_true,decide_eq_true_eq,bX,dV,c]
      simp [and_assoc]
    · by_cases c4:b.fin=4
      · simp (disch:=omega) only [RR,c4,Int.reduceEq]
        refine go ?_
        simp only [Bool.and_eq_true,decide_eq_true_eq,bX,dV,c4]
        simp [and_assoc]
      · simp (disch:=omega) only [RR,c,c4]
        rw [iI (fun h=>by have:=h.1;omega)]
theorem Xw {p1:Int×Int×Int×Unit→Bool} {f1:Int×Int×Int×Unit→Bool×Unit} (hp1:∀a b c,p1 (a,b,c,())=true) (hf1:∀a b c,f1 (a,b,c,())=(inB a b c,()))
    {p2:Blk×Unit→Bool} {f2:Blk×Unit→Bool×Unit} (hp2:∀b,p2 (b,())=true) (hf2:∀b,f2 (b,())=(bp (yZ b),()))
    {p3:List IOp×Int×Int×Unit→Bool} {f3:List IOp×Int×Int×Unit→Bool×Unit} (hp3:∀(ops:List IOp) (i len:Int),0≤i→i<ops.length→1≤len∧len≤8→p3 (ops,i,len,())=true) (hf3:∀(ops:List IOp) (i len:Int),0≤i→i<ops.length→1≤len∧len≤8→f3 (ops,i,len,())=(bp (JU ops len i ((ops).getD (i).toNat default)),())) (b:Blk) (h2:b.ops.length<1000000000):
    Ej (std 0) p1 f1 p2 f2 p3 f3 (b,()) (fun y=>y=(bp (gM b),())):=by
  dsimp only [Ej,Alg.cl,Alg.cg,Alg.rb,Alg.bd,Alg.l1,Tup.q,Tup.o]
  simp (disch:=omega) only [RR,RB,hp1,hf1]
  by_cases hl:1≤b.len∧b.len≤8
  · have hl':=dV.2 hl
    simp (disch:=omega) only [RR,hl',dV,uw]
    refine⟨fun h=> ?_,fun h=> ?_⟩
    · rw [iI (fun g=> ?_)]
      have g1:=g.pc
      have g2:=g.sz
      omega
    · refine aA (fun(y:Int×Blk×Unit)=>y.2.1=b∧0≤y.1∧y.1≤b.ops.length∧All y.1 (fun i=>JU b.ops b.len i ((b.ops).getD (i).toNat default))) (fun y=>(b.ops.length-y.1).toNat) ⟨rfl,by simp,by simp,All.zero⟩ ?_
      rintro⟨(i:Int),(b':Blk),⟨⟩⟩ hI
      dsimp only at hI ⊢
      obtain⟨rfl,h3,h4,h5⟩:=hI
      simp (disch:=omega) only [RR,hp2 b',hf2 b']
      refine⟨fun h6=>⟨hp3 b'.ops i b'.len h3 h6 hl,?_⟩,fun h6=> ?_⟩
      · rw [hf3 b'.ops i b'.len h3 h6 hl]
        dsimp only
        refine⟨fun h7=> ?_,fun h7=>⟨⟨by omega,by omega,h5.snoc (bX.1 h7)⟩,by omega⟩⟩
        rw [iI (fun g=>uj.1 h7 (g.op i h3 h6))]
      · by_cases he:yZ b'
        · rw [iA he,iA (show gM b' from⟨hl,by omega,by omega,fun j j1 j2=>h5 j j1 (by omega),he⟩)]
        · rw [iI he,iI (fun g=>he g.en)]
  · have hl':=uw.2 hl
    simp (disch:=omega) only [RR,hl']
    rw [iI (fun g=>hl g.ln)]
    exact⟨rfl,fun h=>h.1.1.elim⟩
theorem acQ {p4:Int×Unit→Bool} {f4:Int×Unit→Bool×Unit} (hp4:∀a,p4 (a,())=true) (hf4:∀a,f4 (a,())=(inB a 0 65535,())) (r a b:Int):
    Me (std 0) p4 f4 (r,a,b,()) (fun y=>y=(inB a 0 65535&&inB b 0 65535&& (decide (r=1∧a=b∨r=2∧a<b)),())):=by
  dsimp only [Me,Alg.cl,Alg.cg,Alg.rb,Alg.bd,Alg.l1,Tup.q,Tup.o]
  simp (disch:=omega) only [RR,hp4,hf4]
  refine Prod.ext ?_ rfl
  rw [Bool.eq_iff_iff];simp
theorem acR {p1:List aj×Unit→Bool} {f1:List aj×Unit→List aj×Unit} (hp1:∀a,Sh a→p1 (a,())=true) (hf1:∀a,Sh a→f1 (a,())=(a,())) (a:List (List aj)) (ha:ShP a):
    L6 (std 0) p1 f1 (a,()) (fun y=>y=(a,())):=by
  have hlen:=ha.1
  dsimp only [L6,Alg.cl,Alg.cg,Alg.rb,Alg.bd,Alg.l1,Tup.q,Tup.o]
  refine aA (fun(y:List (List aj)×Int×Int×List (List aj)×Unit)=>y.1=a∧y.2.1=a.length∧y.2.2.2.1=a.take y.2.2.1.toNat∧0≤y.2.2.1∧y.2.2.1≤a.length) (fun y=>(a.length-y.2.2.1).toNat) ⟨rfl,rfl,by simp,by simp,by simp⟩ ?_
  rintro⟨(l:List (List aj)),(m:Int),(i:Int),(o:List (List aj)),⟨⟩⟩ hI
  dsimp only at hI ⊢
  obtain⟨rfl,rfl,rfl,h1,h2⟩:=hI
  simp (disch:=omega) only [RR,hp1 _ (ha.at _),hf1 _ (ha.at _)]
  refine⟨fun h4=>⟨by omega,by omega,?_,⟨ko h1 h4 rfl,by omega,by omega⟩,by omega⟩,fun h4=>by rw [List.take_of_length_le (by omega)]⟩
  have:=List.length_take_le' i.toNat l
  simp only [List.length_cons,List.length_nil];omega
theorem acS {p1:List aj×Unit→Bool} {f1:List aj×Unit→List aj×Unit} (hp1:∀a,Sh a→p1 (a,())=true) (hf1:∀a,Sh a→f1 (a,())=(a,()))
    {p2:List (List aj)×Unit→Bool} {f2:List (List aj)×Unit→List (List aj)×Unit} (hp2:∀a,ShP a→p2 (a,())=true) (hf2:∀a,ShP a→f2 (a,())=(a,())) (s:Sym) (hs:ShY s):
    L8 (std 0) p1 f1 p2 f2 (s,()) (fun y=>y=(s.fin,s.k,s.events,s.regs,s.x,s.y,())):=by
  have hlen:=hs.e.1
  dsimp only [L8,Alg.cl,Alg.cg,Alg.rb,Alg.bd,Alg.l1,Tup.q,Tup.o]
  simp (disch:=omega) only [RR,RB,hp1 _ hs.x,hf1 _ hs.x,hp1 _ hs.y,hf1 _ hs.y,hp2 _ hs.r,hf2 _ hs.r]
  refine aA (fun(y:List Ev×Int×Int×Int×Int×Int×Int×List Ev×List (List aj)×List aj×List aj×Unit)=>y.1=s.events∧y.2.1=s.events.length∧y.2.2.2.2.2.1=s.fin∧y.2.2.2.2.2.2.1=s.k∧y.2.2.2.2.2.2.2.1=s.events.take y.2.2.1.toNat∧y.2.2.2.2.2.2.2.2.1=s.regs∧y.2.2.2.2.2.2.2.2.2.1=s.x∧y.2.2.2.2.2.2.2.2.2.2.1=s.y∧0≤y.2.2.1∧y.2.2.1≤s.events.length) (fun y=>(s.events.length-y.2.2.1).toNat) ⟨rfl,rfl,rfl,rfl,by simp,rfl,rfl,rfl,by simp,by simp⟩ ?_
  rintro⟨(l:List Ev),(m:Int),(i:Int),(q1:Int),(q2:Int),(q3:Int),(q4:Int),(o:List Ev),(r:List (List aj)),(u:List aj),(v:List aj),⟨⟩⟩ hI
  dsimp only at hI ⊢
  obtain⟨rfl,rfl,rfl,rfl,rfl,rfl,rfl,rfl,h1,h2⟩:=hI
  have he:=hs.e.at i.toNat
  simp (disch:=omega) only [RR,RB,hp1 _ he.1,hf1 _ he.1,hp1 _ he.2.1,hf1 _ he.2.1,hp2 _ he.2.2,hf2 _ he.2.2]
  refine⟨fun h4=>⟨by omega,by omega,?_,⟨ko h1 h4 rfl,by omega,by omega⟩,by omega⟩,fun h4=>by rw [List.take_of_length_le (by omega)]⟩
  have:=List.length_take_le' i.toNat s.events
  simp only [List.length_cons,List.length_nil];omega
end Go.TX.F
namespace Go.TX.F
open Go Go.AE Go.TX
theorem acT {p1:Int×Unit→Bool} {f1:Int×Unit→List aj×Unit} (hp1:∀n,p1 (n,())=true) (hf1:∀n,f1 (n,())=(gT n,()))
    {p2:List Atom×Atom×Unit→Bool} {f2:List Atom×Atom×Unit→List Atom×Int×Unit} (hp2:∀(t:List Atom) a,t.length<1000000000→ShA a→p2 (t,a,())=true) (hf2:∀(t:List Atom) a,t.length<1000000000→ShA a→f2 (t,a,())=((bL t a).1,(bL t a).2,()))
    (kd k:Int) (t:List Atom) (fl:Bool) (ht:t.length<1000000000):
    ML (std 0) p1 f1 p2 f2 (kd,k,t,fl,()) (fun y=>y=if(bL t ⟨kd,k,[],[]⟩).2<0 then([],t,true,())else(gT (bL t ⟨kd,k,[],[]⟩).2,(bL t ⟨kd,k,[],[]⟩).1,fl,())):=by
  have sa:ShA ⟨kd,k,[],[]⟩:=⟨mH,mH⟩
  dsimp only [ML,Alg.cl,Alg.cg,Alg.rb,Alg.bd,Alg.l1,Tup.q,Tup.o]
  simp (disch:=omega) only [RR,hp1,hf1,hp2 _ _ ht sa,hf2 _ _ ht sa]
  exact⟨fun h=>by rw [if_pos h],fun h=>by rw [if_neg h]⟩
theorem RH (t:List Atom) (n:Nat):rN t (n+1)=((bL (rN t n).1 ⟨1,n,[],[]⟩).1,(rN t n).2++ [gT (bL (rN t n).1 ⟨1,n,[],[]⟩).2]):=rfl
theorem acU {p1:Int×Int×List Atom×Bool×Unit→Bool} {f1:Int×Int×List Atom×Bool×Unit→List aj×List Atom×Bool×Unit} (hp1:∀kd k (t:List Atom) fl,t.length<1000000000→p1 (kd,k,t,fl,())=true)
    (hf1:∀kd k (t:List Atom) fl,t.length<1000000000→f1 (kd,k,t,fl,())=if(bL t ⟨kd,k,[],[]⟩).2<0 then([],t,true,())else(gT (bL t ⟨kd,k,[],[]⟩).2,(bL t ⟨kd,k,[],[]⟩).1,fl,()))
    (t:List Atom) (fl:Bool) (ht:aJ t) (hl:t.length≤196):MN (std 0) p1 f1 (t,fl,()) (fun y=>y=((rN t 4).1,fl,(rN t 4).2,())):=by
  dsimp only [MN,Alg.cl,Alg.cg,Alg.rb,Alg.bd,Alg.l1,Tup.q,Tup.o]
  refine aA (fun(y:Int×List Atom×Bool×List (List aj)×Unit)=>0≤y.1∧y.1≤4∧y.2.2.1=fl∧y.2.1=(rN t y.1.toNat).1∧y.2.2.2.1=(rN t y.1.toNat).2) (fun y=>(4-y.1).toNat) ⟨by simp,by simp,rfl,rfl,rfl⟩ ?_
  rintro⟨(i:Int),(u:List Atom),(g:Bool),(r:List (List aj)),⟨⟩⟩ hI
  dsimp only at hI ⊢
  obtain⟨h1,h2,rfl,rfl,rfl⟩:=hI
  have ok:=IC ht hl i.toNat (by omega)
  have l1:=ok.tl
  have l2:=ok.r4
  simp (disch:=omega) only [RR,hp1 _ _ (rN t i.toNat).1 _ (by omega),hf1 _ _ (rN t i.toNat).1 _ (by omega),List.length_cons,List.length_nil]
  refine⟨fun h3=> ?_,fun h3=> ?_⟩
  · have hp:=JW ht hl (n:=i.toNat) (by omega)
    rw [show((i.toNat:Nat):Int)=i by omega]at hp
    rw [if_neg (by omega)]
    have e:(i+1).toNat=i.toNat+1:=by omega
    have e2:((i.toNat:Nat):Int)=i:=by omega
    refine⟨by omega,⟨by omega,by omega,rfl,?_,?_⟩,by omega⟩
    · rw [e,RH,e2]
    · rw [e,RH,e2]
  · rw [show i.toNat=4 by omega]
theorem acV (a:List (List aj)) (h0:0<a.length) (h1:a.length<1000000000):MQ (std 0) (a,()) (fun y=>y=(a,a,())):=by
  dsimp only [MQ,Alg.cl,Alg.cg,Alg.rb,Alg.bd,Alg.l1,Tup.q,Tup.o]
  simp (disch:=omega) only [RR,List.length_nil]
  exact⟨by omega,by omega,rfl⟩
theorem acW {p2:List Atom×Unit→Bool} {f2:List Atom×Unit→List Atom×Unit} (hp2:∀a,ShT a→p2 (a,())=true) (hf2:∀a,ShT a→f2 (a,())=(a,()))
    {p1:List Atom×Bool×Unit→Bool} {f1:List Atom×Bool×Unit→List Atom×Bool×List (List aj)×Unit} (hp1:∀(t:List Atom) fl,aJ t→t.length≤196→p1 (t,fl,())=true) (hf1:∀(t:List Atom) fl,aJ t→t.length≤196→f1 (t,fl,())=((rN t 4).1,fl,(rN t 4).2,())):
    Ni (std 0) p2 f2 p1 f1 () (fun y=>y.1=t4):=by
  have s4:ShT t4:=RF.1.sh
  unfold t4 at s4 ⊢
  dsimp only [Ni,Alg.cl,Alg.cg,Alg.rb,Alg.bd,Alg.l1,Tup.q,Tup.o]
  simp (disch:=omega) only [RR,hp1 [] false Bb (by simp),hf1 [] false Bb (by simp),hp2 _ s4,hf2 _ s4]
theorem acX {p1:List aj×Unit→Bool} {f1:List aj×Unit→Int×Bool×Unit} (hp1:∀a,Sh a→p1 (a,())=true) (hf1:∀a,Sh a→f1 (a,())=((eY a).1,(eY a).2,()))
    {p2:List aj×Unit→Bool} {f2:List aj×Unit→Bool×Unit} (hp2:∀a,Sh a→p2 (a,())=true) (hf2:∀a,Sh a→f2 (a,())=(bp (aX a),()))
    {p3:List aj×List aj×Unit→Bool} {f3:List aj×List aj×Unit→Int×Unit} (hp3:∀a b,Sh a→p3 (a,b,())=true) (hf3:∀a b,Sh a→f3 (a,b,())=(jf a b,()))
    {p4:Sym×Unit→Bool} {f4:Sym×Unit→Int×Int×List Ev×List (List aj)×List aj×List aj×Unit} (hp4:∀s,ShY s→p4 (s,())=true) (hf4:∀s,ShY s→f4 (s,())=(s.fin,s.k,s.events,s.regs,s.x,s.y,()))
    {p5:List aj×List aj×Unit→Bool} {f5:List aj×List aj×Unit→Bool×Unit} (hp5:∀a b,Sh a→p5 (a,b,())=true) (hf5:∀a b,Sh a→f5 (a,b,())=(decide (jf a b=0),()))
    {p6:Int×Int×Int×Unit→Bool} {f6:Int×Int×Int×Unit→Bool×Unit} (hp6:∀r a b,p6 (r,a,b,())=true) (hf6:∀r a b,f6 (r,a,b,())=(inB a 0 65535&&inB b 0 65535&& (decide (r=1∧a=b∨r=2∧a<b)),()))
    (s:Sym) (n:Int) (hs:ShY s) (h0:0≤s.fin) (h1:s.fin≤4):Mf (std 0) p1 f1 p2 f2 p3 f3 p4 f4 p5 f5 p6 f6 (s,n,()) (fun y=>y=(symEnd s n,())):=by
  dsimp only [Mf,Alg.cl,Alg.cg,Alg.rb,Alg.bd,Alg.l1,Tup.q,Tup.o]
  simp (disch:=omega) only [RR,RB,hp1 _ hs.x,hf1 _ hs.x,hp1 _ hs.y,hf1 _ hs.y,hp2 _ hs.x,hf2 _ hs.x,hp2 _ hs.y,hf2 _ hs.y,hp3 _ _ hs.x,hf3 _ _ hs.x,hp4 s hs,hf4 s hs,hp5 _ _ hs.x,hf5 _ _ hs.x,hp6,hf6]
  have xy:jf s.x s.y=0↔s.x=s.y:=lU
  have rx:(eY s.x).2=true→inB (eY s.x).1 0 65535=true:=fun h=>dV.2 (F5 h).2.2
  have ry:(eY s.y).2=true→inB (eY s.y).1 0 65535=true:=fun h=>dV.2 (F5 h).2.2
  unfold symEnd
  refine⟨fun h=> ?_,fun h=>⟨fun g=> ?_,fun g=>⟨fun k=> ?_,fun k=>⟨fun l=>⟨fun m=> ?_,fun m=> ?_⟩,fun l=>⟨fun m=> ?_,fun m=> ?_⟩⟩⟩⟩⟩
  · rw [if_pos (by rw [um,Bool.and_eq_false_iff];exact h)];rfl
  all_goals rw [if_neg (by rw [um,h.1,h.2];simp)]
  · rw [if_pos g]
  all_goals rw [if_neg (show¬(s.fin=2∧(eY s.x).2=true) by
    rintro⟨a,b⟩;rw [decide_eq_true a,b]at g;cases g)]
  · rw [if_pos k]
  all_goals rw [if_neg (show¬(s.fin≠3∧s.fin≠4) by
    rintro⟨a,b⟩;rw [decide_eq_false a,decide_eq_false b]at k;cases k)]
  · rw [if_pos (by rw [←xy];exact l),if_neg]
    rintro(⟨q1,q2⟩ | ⟨⟨q1,q2⟩,q3⟩)
    · have:=m.1;rw [decide_eq_true (xy.2 q1),decide_eq_true q2]at this;cases this
    · have:=m.2
      rw [q1,q2,rx q1,ry q2,decide_eq_true (by omega)]at this;cases this
  · rw [if_pos (by rw [←xy];exact l),if_pos]
    rcases m with⟨q1,q2⟩ | ⟨q1,_,q3⟩
    · exact Or.inl ⟨xy.1 q1,q2⟩
    · exact Or.inr ⟨q1,by omega⟩
  all_goals rw [if_neg (show¬(s.x=s.y∨(eY s.x).2=true∧(eY s.y).2=true) by
    rintro(q | ⟨q1,q2⟩)
    · exact l.1 (xy.2 q)
    · have:=l.2;rw [q1,q2]at this;cases this)]
  · rw [if_pos m]
  · rw [if_neg]
    rintro⟨a,b⟩;rw [decide_eq_true a,decide_eq_true b]at m;cases m
end Go.TX.F
namespace Go.TX.F
open Go Go.AE Go.TX
noncomputable def SW (t:List Atom) (b:Blk) (i:Nat):SS:=(b.ops.take i).foldl stp (s0 t)
structure At (t:List Atom) (b:Blk) (i:Nat) (ld inn:Int) (tb:List Atom) (V:List (List aj)) (ev:List Ev) (rg:List (List aj)):Prop where
  ld:ld=(SW t b i).ld
  inn:inn=(SW t b i).inn
  tb:tb=(SW t b i).t
  V:V=(SW t b i).vals++List.replicate (b.ops.length-i) []
  ev:ev=(SW t b i).evs
  rg:rg=(SW t b i).regs
theorem At.amW {t:List Atom} {b:Blk} {i:Nat} {ld inn:Int} {tb:List Atom} {V:List (List aj)} {ev:List Ev} {rg:List (List aj)} (h:At t b i ld inn tb V ev rg) (hv:(SW t b i).vals.length=i) (hi:i≤b.ops.length):V.length=b.ops.length:=by
  rw [h.V,List.length_append,List.length_replicate,hv];omega
theorem RJ (t:List Atom):∀(l:List IOp) (s:SS),(l.foldl stp s).evs.length≤s.evs.length+l.length
  | [],s=>Nat.le_refl _
  | o::r,s=>by
    rw [List.foldl_cons,List.length_cons]
    have h1:=RJ t r (stp s o)
    have h2:(stp s o).evs.length≤s.evs.length+1:=by
      show(nE s o).length≤_
      unfold nE;split
      · rw [List.length_append];exact Nat.le_refl _
      · omega
    omega
theorem ahN {t:List Atom} {b:Blk} (i:Nat) (hi:i≤b.ops.length):(SW t b i).evs.length≤i:=by
  have:=RJ t (b.ops.take i) (s0 t)
  rw [List.length_take,Nat.min_eq_left hi]at this
  show((b.ops.take i).foldl stp (s0 t)).evs.length≤i
  have e:(s0 t).evs.length=0:=rfl
  omega
theorem abl {t:List Atom} {b:Blk} {i:Nat} (hi:i<b.ops.length):SW t b (i+1)=stp (SW t b i) (b.ops.getD i default):=by
  unfold SW;rw [Pp _ _ hi,getD_lt hi]
theorem At.next {t:List Atom} {b:Blk} {i:Nat} {ld inn:Int} {tb:List Atom} {V:List (List aj)} {ev:List Ev} {rg:List (List aj)} (h:At t b i ld inn tb V ev rg) (hv:(SW t b i).vals.length=i) (hi:i<b.ops.length) {o:IOp} (ho:b.ops.getD i default=o)
    {ld' Xx:Int} {tb':List Atom} {V':List (List aj)} {ev':List Ev} {rg':List (List aj)} (h1:ld'=if o.kind=4 then ld+1 else ld) (h2:Xx=if o.kind=6 then inn+1 else inn) (h3:tb'=nT (SW t b i) o) (h4:V'=V.set i (nV (SW t b i) o)) (h5:ev'=nE (SW t b i) o) (h6:rg'=nR (SW t b i) o):At t b (i+1) ld' Xx tb' V' ev' rg':=by
  have e:=abl (t:=t) hi
  rw [ho]at e
  refine⟨?_,?_,?_,?_,?_,?_⟩<;>rw [e]
  · rw [h1,h.ld];rfl
  · rw [h2,h.inn];rfl
  · exact h3
  · rw [h4,h.V]
    show _=((SW t b i).vals++ [nV (SW t b i) o])++_
    rw [List.set_append_right _ _ (by omega),hv,Nat.sub_self,show b.ops.length-i=(b.ops.length- (i+1))+1 by omega,List.replicate_succ,List.set_cons_zero,List.append_assoc];rfl
  · exact h5
  · exact h6
set_option maxHeartbeats 1000000 in
theorem acY {p1:Blk×Unit→Bool} {f1:Blk×Unit→Bool×Bool×Bool×Unit} (hp1:∀b,p1 (b,())=true) (hf1:∀b,f1 (b,())=(decide (b.fin≠1),decide (3≤b.fin),decide (b.fin≠2),()))
    {p2:Blk×Unit→Bool} {f2:Blk×Unit→Bool×Unit} (hp2:∀b,b.ops.length<1000000000→p2 (b,())=true) (hf2:∀b,b.ops.length<1000000000→f2 (b,())=(bp (gM b),()))
    {p3:IOp×Unit→Bool} {f3:IOp×Unit→Bool×Unit} (hp3:∀o,p3 (o,())=true) (hf3:∀o,f3 (o,())=(decide (evO o),()))
    {p4:IOp×Unit→Bool} {f4:IOp×Unit→Bool×Bool×Bool×Bool×Unit} (hp4:∀o,p4 (o,())=true) (hf4:∀o,f4 (o,())=(decide (hX o),decide (hY o),decide (hK o),decide (evO o),()))
    {p5:Int×Unit→Bool} {f5:Int×Unit→List aj×Unit} (hp5:∀n,p5 (n,())=true) (hf5:∀n,f5 (n,())=(eX n,()))
    {p6:Sym×Int×Unit→Bool} {f6:Sym×Int×Unit→Sym×Unit} (hp6:∀s n,ShY s→0≤s.fin→s.fin≤4→p6 (s,n,())=true) (hf6:∀s n,ShY s→0≤s.fin→s.fin≤4→f6 (s,n,())=(symEnd s n,()))
    {p7:List Atom×Unit→Bool} {f7:List Atom×Unit→Bool×Unit} (hp7:∀a,ShT a→p7 (a,())=true) (hf7:∀a,ShT a→f7 (a,())=(bp (aJ a),()))
    {p8:List Atom×Unit→Bool} {f8:List Atom×Unit→List Atom×Unit} (hp8:∀a,ShT a→p8 (a,())=true) (hf8:∀a,ShT a→f8 (a,())=(a,()))
    {p9:List Atom×Int×List aj×List aj×Unit→Bool} {f9:List Atom×Int×List aj×List aj×Unit→List Atom×List aj×Bool×Unit} (hp9:∀(t:List Atom) op x y,t.length<1000000000→Sh x→Sh y→p9 (t,op,x,y,())=true)
    (hf9:∀(t:List Atom) op x y,t.length<1000000000→Sh x→Sh y→(f9 (t,op,x,y,())).1=(tDo t op x y).1∧(f9 (t,op,x,y,())).2.1=(tDo t op x y).2∧(f9 (t,op,x,y,())).2.2.1=tOk t op x y)
    {p10:Int×Int×List Atom×Bool×Unit→Bool} {f10:Int×Int×List Atom×Bool×Unit→List aj×List Atom×Bool×Unit} (alr:∀kd k (t:List Atom) fl,t.length<1000000000→p10 (kd,k,t,fl,())=true)
    (amX:∀kd k (t:List Atom) fl,t.length<1000000000→f10 (kd,k,t,fl,())=if(bL t ⟨kd,k,[],[]⟩).2<0 then([],t,true,())else(gT (bL t ⟨kd,k,[],[]⟩).2,(bL t ⟨kd,k,[],[]⟩).1,fl,()))
    {p11:List Atom×Bool×Unit→Bool} {f11:List Atom×Bool×Unit→List Atom×Bool×List (List aj)×Unit} (amY:∀(t:List Atom) fl,aJ t→t.length≤196→p11 (t,fl,())=true) (amZ:∀(t:List Atom) fl,aJ t→t.length≤196→f11 (t,fl,())=((rN t 4).1,fl,(rN t 4).2,()))
    {p12:List (List aj)×Unit→Bool} {f12:List (List aj)×Unit→List (List aj)×List (List aj)×Unit} (als:∀a:List (List aj),0<a.length→a.length<1000000000→p12 (a,())=true) (alu:∀a:List (List aj),0<a.length→a.length<1000000000→f12 (a,())=(a,a,()))
    (t:List Atom) (b:Blk) (ht:ShT t) (hb:b.ops.length<1000000000):Ng (std 0) p1 f1 p2 f2 p3 f3 p4 f4 p5 f5 p6 f6 p7 f7 p8 f8 p9 f9 p10 f10 p11 f11 p12 f12 (t,b,()) (fun y=>y=((bU t b).1,(bU t b).2,())):=by
  have hlt:=ht.1
  dsimp only [Ng,Alg.cl,Alg.cg,Alg.rb,Alg.bd,Alg.l1,Tup.q,Tup.o]
  simp (disch:=omega) only [RR,RB,hp7 t ht,hf7 t ht,hp2 b hb,hf2 b hb]
  by_cases c:aJ t∧t.length≤100∧gM b
  case neg=>
    refine⟨fun _=> ?_,fun h=> ?_⟩
    · unfold bU;rw [iI c];rfl
    · exact absurd ⟨bX.1 h.1.1,by omega,bX.1 h.2⟩ c
  obtain⟨c1,c2,c3⟩:=c
  simp (disch:=omega) only [RR,iA c1,iA c3,amY t false c1 (by omega),amZ t false c1 (by omega)]
  have sz:=c3.sz
  have hop:=c3.op
  have hk3:=c3.k3
  have i0:=Nv c1 (by omega)
  have siw:∀j:Nat,j≤b.ops.length→SI (t.length+4) j (SW t b j):=fun j hj=>by
    have:=(Ba (b.ops.take j) 0 (s0 t) i0 (fun o ho=>hk3 o (List.mem_of_mem_take ho)) (by rw [List.length_take];omega) (by rw [List.length_take];omega)).1
    rw [List.length_take,Nat.min_eq_left hj,Nat.zero_add]at this;exact this
  refine⟨fun h=>absurd h (by omega),fun _=>⟨by omega,by omega,?_⟩⟩
  refine aA (fun(y:Int×Int×List IOp×Int×Int×Blk×Int×Int×List Atom×Bool×Int×Int×List (List aj)×List Ev×List (List aj)×Unit)=>y.2.2.2.2.2.1=b∧y.2.2.1=b.ops∧y.2.2.2.1=b.ops.length∧y.2.2.2.2.2.2.2.2.2.1=false∧y.2.2.2.2.2.2.2.2.2.2.1=b.fin∧y.2.2.2.2.2.2.2.2.2.2.2.1=b.k∧
      0≤y.2.2.2.2.1∧y.2.2.2.2.1≤b.ops.length∧At t b y.2.2.2.2.1.toNat y.1 y.2.1 y.2.2.2.2.2.2.2.2.1 y.2.2.2.2.2.2.2.2.2.2.2.2.1 y.2.2.2.2.2.2.2.2.2.2.2.2.2.1 y.2.2.2.2.2.2.2.2.2.2.2.2.2.2.1) (fun y=>(b.ops.length-y.2.2.2.2.1).toNat)
    ⟨rfl,rfl,rfl,rfl,rfl,rfl,by simp,by simp,⟨rfl,rfl,rfl,rfl,rfl,rfl⟩⟩ ?_
  rintro⟨(ld:Int),(inn:Int),(ops:List IOp),(n:Int),(i:Int),(b':Blk),(z1:Int),(z2:Int),(tb:List Atom),(fl:Bool),(fin:Int),(kk:Int),(V:List (List aj)),(ev:List Ev),(rg:List (List aj)),⟨⟩⟩ hI
  dsimp only at hI ⊢
  obtain⟨e1,e2,e3,e4,e5,e6,h1,h2,hA⟩:=hI
  subst e1 e2 e3 e4 e5 e6
  have hl:V.length=b'.ops.length:=hA.amW (siw i.toNat (by omega)).vl (by omega)
  have si:=siw i.toNat (by omega)
  obtain⟨a1,a2,a3,a4,a5,a6⟩:=hA
  have tl:tb.length<1000000000:=by rw [a3];have:=si.tl;omega
  have r4:rg.length=4:=by rw [a6];exact si.r4
  have evl:ev.length≤i.toNat:=by rw [a5];exact ahN i.toNat (by omega)
  by_cases h7:i<b'.ops.length
  case neg=>
    have en:=c3.en
    have hf:=en.f
    have hpc:=c3.pc
    have hln:=c3.ln
    have ein:i.toNat=b'.ops.length:=by omega
    have eS:SW t b' i.toNat=ku t b':=by unfold SW ku;rw [ein,List.take_of_length_le (Nat.le_refl _)]
    rw [eS]at a1 a2 a3 a4 a5 a6 si
    have eV:V=(ku t b').vals:=by rw [a4,ein,Nat.sub_self];simp
    clear a4
    have pk:=RD (b:=b') si
    have eR:=xD c1 c2 c3
    have sh:ShY (Gg b' (ku t b')):=by
      have i0:=Nv c1 (by omega)
      have hs:=Po b'.ops 0 (s0 t) i0 hk3 (by omega) (by omega) ⟨by simp [s0],fun e he=>absurd he (by simp [s0])⟩
      exact⟨⟨by have:=hs.1;show(b'.ops.foldl stp (s0 t)).evs.length<_;omega,hs.2⟩,si.regs,pk.1.sh,pk.2.sh⟩
    have st:=si.tok.sh
    have q6:=hp6 (Gg b' (ku t b')) (b'.pc+b'.len) sh (by show 0≤b'.fin;omega) hf.2
    have r6:=hf6 (Gg b' (ku t b')) (b'.pc+b'.len) sh (by show 0≤b'.fin;omega) hf.2
    subst a1 a2 a3 a5 a6 eV
    have x1:=en.x1
    have y1:=en.y1
    have sl:=si.vl
    have E:Gg b' (ku t b')=⟨(ku t b').evs,(ku t b').regs,b'.fin,if b'.fin=1 then []else(((ku t b').vals).getD (b'.x).toNat default),if 3≤b'.fin then(((ku t b').vals).getD (b'.y).toNat default)else [],b'.k⟩:=rfl
    rw [E]at q6 r6
    rcases(by omega:b'.fin=1∨b'.fin=2∨3≤b'.fin)with c | c | c
    · have n2:¬3≤b'.fin:=by omega
      rw [if_pos c,if_neg n2]at q6 r6
      simp (disch:=omega) only [RR,RB,h7,hp1,hf1,decide_eq_false n2,c,ne_eq,not_true_eq_false,decide_false,hp8 _ st,hf8 _ st]
      rw [c]at q6 r6
      rw [eR,E,if_pos c,if_neg n2,c]
      exact⟨fun h=>absurd h (by omega),fun _=>⟨q6,by rw [r6]⟩⟩
    · have n1:b'.fin≠1:=by omega
      have n2:¬3≤b'.fin:=by omega
      obtain⟨v1,v2,_⟩:=x1 n1
      rw [if_neg n1,if_neg n2]at q6 r6
      simp (disch:=omega) only [RR,RB,h7,hp1,hf1,decide_eq_true n1,decide_eq_false n2,hp8 _ st,hf8 _ st]
      rw [eR,E,if_neg n1,if_neg n2]
      exact⟨v1,by omega,v1,by omega,q6,by rw [r6]⟩
    · have n1:b'.fin≠1:=by omega
      obtain⟨v1,v2,_⟩:=x1 n1
      obtain⟨w1,w2,_⟩:=y1 c
      rw [if_neg n1,if_pos c]at q6 r6
      simp (disch:=omega) only [RR,RB,h7,hp1,hf1,decide_eq_true n1,decide_eq_true c,hp8 _ st,hf8 _ st]
      rw [eR,E,if_neg n1,if_pos c]
      exact⟨v1,by omega,v1,by omega,w1,by omega,w1,by omega,q6,by rw [r6]⟩
  have hok:=hop i h1 h7
  have nxt:=fun {ld' Xx:Int} {tb':List Atom} {V':List (List aj)} {ev':List Ev} {rg':List (List aj)}=>At.next (t:=t) (b:=b') (i:=i.toNat) (o:=((b'.ops).getD (i).toNat default)) ⟨a1,a2,a3,a4,a5,a6⟩ si.vl (by omega) rfl (ld':=ld') (Xx:=Xx) (tb':=tb') (V':=V') (ev':=ev') (rg':=rg')
  have ei:(i+1).toNat=i.toNat+1:=by omega
  have vx:∀j:Int,0≤j→j<i→((V).getD (j).toNat default)=(((SW t b' i.toNat).vals).getD (j).toNat default):=fun j j1 j2=>by
    have:=si.vl
    rw [a4,getD_lt (by rw [List.length_append];omega),getD_lt (by omega),List.getElem_append_left]
  have ex:hX ((b'.ops).getD (i).toNat default)→((V).getD ((((b'.ops).getD (i).toNat default)).x).toNat default)=xOf (SW t b' i.toNat) ((b'.ops).getD (i).toNat default):=fun h=>by
    unfold xOf;rw [if_pos h];exact vx _ (hok.x1 h).1 (hok.x1 h).2.1
  have ey:hY ((b'.ops).getD (i).toNat default)→((V).getD ((((b'.ops).getD (i).toNat default)).y).toNat default)=yOf (SW t b' i.toNat) ((b'.ops).getD (i).toNat default):=fun h=>by
    unfold yOf;rw [if_pos h];exact vx _ (hok.y1 h).1 (hok.y1 h).2.1
  have v0:V.set i.toNat []=V:=by
    have:=si.vl
    rw [a4,List.set_append_right _ _ (by omega),this,Nat.sub_self,show b'.ops.length-i.toNat=(b'.ops.length- (i.toNat+1))+1 by omega,List.replicate_succ,List.set_cons_zero]
  obtain⟨sn,so⟩:=JV (o:=((b'.ops).getD (i).toNat default)) si hok.k3 (by omega) (by omega)
  have gl:=si.ld
  have gi:=si.inn
  have shx:=(si.x ((b'.ops).getD (i).toNat default)).1.sh
  have shy:=(si.y ((b'.ops).getD (i).toNat default)).1.sh
  generalize hs:SW t b' i.toNat=s at*
  generalize ho:((b'.ops).getD (i).toNat default)=o at*
  have kd:=hok.kd
  subst a1 a2 a3 a5 a6
  have L0:o.kind≠4→s.ld=if o.kind=4 then s.ld+1 else s.ld:=fun h=>by rw [if_neg h]
  have I0:o.kind≠6→s.inn=if o.kind=6 then s.inn+1 else s.inn:=fun h=>by rw [if_neg h]
  have T0:o.kind≠3→o.kind≠4→o.kind≠6→s.t=nT s o:=fun h3 h4 h6=>by unfold nT;rw [if_neg h3,if_neg (by omega)]
  have R0:o.kind≠8→s.regs=nR s o:=fun h=>by unfold nR;rw [if_neg h]
  have E0:¬evO o→s.evs=nE s o:=fun h=>by unfold nE;rw [if_neg h]
  have V0:o.kind=5∨o.kind=7∨o.kind=8→V=V.set i.toNat (nV s o):=fun h=>by
    rw [show nV s o=[] by unfold nV;rw [if_neg (by omega),if_neg (by omega),if_neg (by omega),if_neg (by omega)],v0]
  have P0:∀kd k,0≤(bL s.t ⟨kd,k,[],[]⟩).2→f10 (kd,k,s.t,false,())=(gT (bL s.t ⟨kd,k,[],[]⟩).2,(bL s.t ⟨kd,k,[],[]⟩).1,false,()):=fun kd k h=>by
    rw [amX _ _ _ _ tl,if_neg (by omega)]
  have y0:¬hY o→yOf s o=[]:=fun h=>by unfold yOf;rw [if_neg h]
  have x0:¬hX o→xOf s o=[]:=fun h=>by unfold xOf;rw [if_neg h]
  rcases(by omega:o.kind=1∨o.kind=2∨o.kind=3∨o.kind=4∨o.kind=5∨o.kind=6∨o.kind=7∨o.kind=8)with c | c | c | c | c | c | c | c
  · have dX:decide (hX o)=false:=decide_eq_false (by unfold hX;omega)
    have dY:decide (hY o)=false:=decide_eq_false (by unfold hY;omega)
    have dE:decide (evO o)=false:=decide_eq_false (by unfold evO;omega)
    have N:At t b' (i.toNat+1) s.ld s.inn s.t (V.set i.toNat (eX o.k)) s.evs s.regs:=nxt (L0 (by omega)) (I0 (by omega)) (T0 (by omega) (by omega) (by omega)) (by unfold nV;rw [if_pos c]) (E0 (by unfold evO;omega)) (R0 (by omega))
    simp (disch:=omega) only [RR,RB,ho,h7,hp4,hf4,hp3,hf3,dX,dY,dE,c,Int.reduceEq,List.length_cons,List.length_nil,hp5,hf5]
    repeat' apply And.intro
    all_goals first | omega | (rw [ei];exact N)
  · have dX:decide (hX o)=false:=decide_eq_false (by unfold hX;omega)
    have dY:decide (hY o)=false:=decide_eq_false (by unfold hY;omega)
    have dE:decide (evO o)=false:=decide_eq_false (by unfold evO;omega)
    have k2:=hok.k2 (Or.inl c)
    have N:At t b' (i.toNat+1) s.ld s.inn s.t (V.set i.toNat ((s.regs).getD (o.k).toNat default)) s.evs s.regs:=nxt (L0 (by omega)) (I0 (by omega)) (T0 (by omega) (by omega) (by omega)) (by unfold nV;rw [if_neg (by omega),if_pos c]) (E0 (by unfold evO;omega)) (R0 (by omega))
    simp (disch:=omega) only [RR,RB,ho,h7,hp4,hf4,hp3,hf3,dX,dY,dE,c,Int.reduceEq,List.length_cons,List.length_nil,r4]
    repeat' apply And.intro
    all_goals first | omega | (rw [ei];exact N)
  · have dX:decide (hX o)=true:=decide_eq_true (by unfold hX;omega)
    have dY:decide (hY o)=true:=decide_eq_true (by unfold hY;omega)
    have dE:decide (evO o)=false:=decide_eq_false (by unfold evO;omega)
    have v1:=hok.x1 (by unfold hX;omega)
    have v2:=hok.y1 (by unfold hY;omega)
    have u1:=v1.2.1
    have u2:=v2.2.1
    have w1:=v1.1
    have w2:=v2.1
    obtain⟨d1,d2,d3⟩:=hf9 s.t o.k _ _ tl shx shy
    have d4:=(so.d c).ok
    have N:At t b' (i.toNat+1) s.ld s.inn (tDo s.t o.k (xOf s o) (yOf s o)).1 (V.set i.toNat (tDo s.t o.k (xOf s o) (yOf s o)).2) s.evs s.regs:=nxt (L0 (by omega)) (I0 (by omega)) (by unfold nT;rw [if_pos c]) (by unfold nV;rw [if_neg (by omega),if_neg (by omega),if_pos c]) (E0 (by unfold evO;omega)) (R0 (by omega))
    simp (disch:=omega) only [RR,RB,ho,h7,hp4,hf4,hp3,hf3,dX,dY,dE,c,Int.reduceEq,List.length_cons,List.length_nil,ex (by unfold hX;omega),ey (by unfold hY;omega),hp9 s.t o.k _ _ tl shx shy,d1,d2,d3,d4]
    repeat' apply And.intro
    all_goals first | omega | (rw [ei];exact N)
  · have dX:decide (hX o)=true:=decide_eq_true (by unfold hX;omega)
    have dY:decide (hY o)=false:=decide_eq_false (by unfold hY;omega)
    have dE:decide (evO o)=true:=decide_eq_true (by unfold evO;omega)
    have v1:=hok.x1 (by unfold hX;omega)
    have u1:=v1.2.1
    have w1:=v1.1
    have ea:aOf s o=⟨2,s.ld,[],[]⟩:=by unfold aOf;rw [if_pos c]
    have pp:=so.p (Or.inl c)
    rw [ea]at pp
    have N:At t b' (i.toNat+1) (s.ld+1) s.inn (bL s.t ⟨2,s.ld,[],[]⟩).1 (V.set i.toNat (gT (bL s.t ⟨2,s.ld,[],[]⟩).2)) (s.evs++ [⟨4,o.at_,xOf s o,[],s.regs⟩]) s.regs:=nxt (by rw [if_pos c]) (I0 (by omega)) (by unfold nT;rw [if_neg (by omega),if_pos (Or.inl c),ea]) (by unfold nV;rw [if_neg (by omega),if_neg (by omega),if_neg (by omega),if_pos (Or.inl c),ea]) (by unfold nE;rw [if_pos (by unfold evO;omega),if_pos (Or.inl c),c,y0 (by unfold hY;omega)]) (R0 (by omega))
    simp (disch:=omega) only [RR,RB,ho,h7,hp4,hf4,hp3,hf3,dX,dY,dE,c,Int.reduceEq,List.length_cons,List.length_nil,ex (by unfold hX;omega),als s.regs (by omega) (by omega),alu s.regs (by omega) (by omega),alr 2 s.ld s.t false tl,P0 2 s.ld pp]
    repeat' apply And.intro
    all_goals first | omega | (rw [ei];exact N)
  · have dX:decide (hX o)=true:=decide_eq_true (by unfold hX;omega)
    have dY:decide (hY o)=true:=decide_eq_true (by unfold hY;omega)
    have dE:decide (evO o)=true:=decide_eq_true (by unfold evO;omega)
    have v1:=hok.x1 (by unfold hX;omega)
    have v2:=hok.y1 (by unfold hY;omega)
    have u1:=v1.2.1
    have u2:=v2.2.1
    have w1:=v1.1
    have w2:=v2.1
    have N:At t b' (i.toNat+1) s.ld s.inn s.t V (s.evs++ [⟨5,o.at_,xOf s o,yOf s o,s.regs⟩]) s.regs:=nxt (L0 (by omega)) (I0 (by omega)) (T0 (by omega) (by omega) (by omega)) (V0 (by omega)) (by unfold nE;rw [if_pos (by unfold evO;omega),if_pos (Or.inr c),c]) (R0 (by omega))
    simp (disch:=omega) only [RR,RB,ho,h7,hp4,hf4,hp3,hf3,dX,dY,dE,c,Int.reduceEq,List.length_cons,List.length_nil,ex (by unfold hX;omega),ey (by unfold hY;omega),als s.regs (by omega) (by omega),alu s.regs (by omega) (by omega)]
    repeat' apply And.intro
    all_goals first | omega | (rw [ei];exact N)
  · have dX:decide (hX o)=false:=decide_eq_false (by unfold hX;omega)
    have dY:decide (hY o)=false:=decide_eq_false (by unfold hY;omega)
    have dE:decide (evO o)=true:=decide_eq_true (by unfold evO;omega)
    have ea:aOf s o=⟨3,s.inn,[],[]⟩:=by unfold aOf;rw [if_neg (by omega)]
    have pp:=so.p (Or.inr c)
    rw [ea]at pp
    have N:At t b' (i.toNat+1) s.ld (s.inn+1) (bL s.t ⟨3,s.inn,[],[]⟩).1 (V.set i.toNat (gT (bL s.t ⟨3,s.inn,[],[]⟩).2)) (s.evs++ [⟨6,o.at_,[],[],[]⟩]) s.regs:=nxt (L0 (by omega)) (by rw [if_pos c]) (by unfold nT;rw [if_neg (by omega),if_pos (Or.inr c),ea]) (by unfold nV;rw [if_neg (by omega),if_neg (by omega),if_neg (by omega),if_pos (Or.inr c),ea]) (by unfold nE;rw [if_pos (by unfold evO;omega),if_neg (by omega),c,x0 (by unfold hX;omega),y0 (by unfold hY;omega)]) (R0 (by omega))
    simp (disch:=omega) only [RR,RB,ho,h7,hp4,hf4,hp3,hf3,dX,dY,dE,c,Int.reduceEq,List.length_cons,List.length_nil,alr 3 s.inn s.t false tl,P0 3 s.inn pp]
    repeat' apply And.intro
    all_goals first | omega | (rw [ei];exact N)
  · have dX:decide (hX o)=true:=decide_eq_true (by unfold hX;omega)
    have dY:decide (hY o)=false:=decide_eq_false (by unfold hY;omega)
    have dE:decide (evO o)=true:=decide_eq_true (by unfold evO;omega)
    have v1:=hok.x1 (by unfold hX;omega)
    have u1:=v1.2.1
    have w1:=v1.1
    have N:At t b' (i.toNat+1) s.ld s.inn s.t V (s.evs++ [⟨7,o.at_,xOf s o,[],[]⟩]) s.regs:=nxt (L0 (by omega)) (I0 (by omega)) (T0 (by omega) (by omega) (by omega)) (V0 (by omega)) (by unfold nE;rw [if_pos (by unfold evO;omega),if_neg (by omega),c,y0 (by unfold hY;omega)]) (R0 (by omega))
    simp (disch:=omega) only [RR,RB,ho,h7,hp4,hf4,hp3,hf3,dX,dY,dE,c,Int.reduceEq,List.length_cons,List.length_nil,ex (by unfold hX;omega)]
    repeat' apply And.intro
    all_goals first | omega | (rw [ei];exact N)
  · have dX:decide (hX o)=true:=decide_eq_true (by unfold hX;omega)
    have dY:decide (hY o)=false:=decide_eq_false (by unfold hY;omega)
    have dE:decide (evO o)=false:=decide_eq_false (by unfold evO;omega)
    have v1:=hok.x1 (by unfold hX;omega)
    have u1:=v1.2.1
    have w1:=v1.1
    have k2:=hok.k2 (Or.inr c)
    have N:At t b' (i.toNat+1) s.ld s.inn s.t V s.evs (s.regs.set o.k.toNat (xOf s o)):=nxt (L0 (by omega)) (I0 (by omega)) (T0 (by omega) (by omega) (by omega)) (V0 (by omega)) (E0 (by unfold evO;omega)) (by unfold nR;rw [if_pos c])
    simp (disch:=omega) only [RR,RB,ho,h7,hp4,hf4,hp3,hf3,dX,dY,dE,c,Int.reduceEq,List.length_cons,List.length_nil,ex (by unfold hX;omega),r4]
    repeat' apply And.intro
    all_goals first | omega | (rw [ei];exact N)
end Go.TX.F
namespace Go.TX.F
open Go Go.AE Go.TX
theorem ahO (i:Ins):EI (std 0) (i,()) (fun _=>True):=by
  dsimp only [EI,Alg.cl,Alg.cg,Alg.rb,Alg.bd,Alg.l1,Tup.q,Tup.o]
  simp (disch:=omega) only [RR]
theorem ahP {p1:Int×Int×Int×Unit→Bool} {f1:Int×Int×Int×Unit→Bool×Unit} (hp1:∀a b c,p1 (a,b,c,())=true) (hf1:∀a b c,f1 (a,b,c,())=(inB a b c,())) {p2:Ins×Unit→Bool} {f2:Ins×Unit→Bool×Unit} (hp2:∀i,p2 (i,())=true) (i:Ins):EJ (std 0) p1 f1 p2 f2 (i,()) (fun _=>True):=by
  dsimp only [EJ,Alg.cl,Alg.cg,Alg.rb,Alg.bd,Alg.l1,Tup.q,Tup.o]
  simp (disch:=omega) only [RR,hp1,hp2]
theorem ahQ (i:Int):EK (std 0) (i,()) (fun _=>True):=by
  dsimp only [EK,Alg.cl,Alg.cg,Alg.rb,Alg.bd,Alg.l1,Tup.q,Tup.o]
theorem ahR {p1:Int×Unit→Bool} {f1:Int×Unit→Bool×Unit} (hp1:∀i,p1 (i,())=true) {p2:Ins×Unit→Bool} {f2:Ins×Unit→Bool×Unit} (hp2:∀i,p2 (i,())=true) (i:Ins):EL (std 0) p1 f1 p2 f2 (i,()) (fun _=>True):=by
  dsimp only [EL,Alg.cl,Alg.cg,Alg.rb,Alg.bd,Alg.l1,Tup.q,Tup.o]
  simp (disch:=omega) only [RR,hp1,hp2]
theorem ahS {p1:Int×Unit→Bool} {f1:Int×Unit→Bool×Unit} (hp1:∀i,p1 (i,())=true) {p2:Ins×Unit→Bool} {f2:Ins×Unit→Bool×Unit} (hp2:∀i,p2 (i,())=true) {p3:Int×Int×Int×Unit→Bool} {f3:Int×Int×Int×Unit→Bool×Unit} (hp3:∀a b c,p3 (a,b,c,())=true) (hf3:∀a b c,f3 (a,b,c,())=(inB a b c,())) {p4:Ins×Unit→Bool} {f4:Ins×Unit→Bool×Unit} (hp4:∀i,p4 (i,())=true) (pc:Int) (l:List Ins) (hl:(l.length:Int)<1000):EO (std 0) p1 f1 p2 f2 p3 f3 p4 f4 (pc,l,()) (fun _=>True):=by
  dsimp only [EO,Alg.cl,Alg.cg,Alg.rb,Alg.bd,Alg.l1,Tup.q,Tup.o]
  simp (disch:=omega) only [RR,hp1,hp2,hp3,hp4]
  refine fun _=> ?_
  refine aA (fun(y:List Ins×Int×Unit)=>y.1=l∧0≤y.2.1) (fun y=>((l.length:Int)-y.2.1).toNat) ⟨rfl,by simp⟩ ?_
  rintro⟨(l':List Ins),(j:Int),⟨⟩⟩ hI
  dsimp only at hI ⊢
  obtain⟨rfl,h1⟩:=hI
  simp (disch:=omega) only [RR,hp1,hp2,hp3,hp4,or_true]
  refine fun h=>⟨h1,h,by omega,by omega,by omega,by omega,fun _=> ?_⟩
  rw [w64 (by omega) (by omega)];constructor<;>omega
theorem Xy (a1 a2 a3 a4 a5 a6:Int) (o:IOp) (ops:List IOp) (hl:(ops.length:Int)<1000000):EP (std 0) (a1,a2,a3,a4,a5,a6,o,ops,()) (fun y=>(y.2.2.2.2.2.2.2.1.length:Int)=ops.length+1):=by
  dsimp only [EP,Alg.cl,Alg.cg,Alg.rb,Alg.bd,Alg.l1,Tup.q,Tup.o]
  simp (disch:=omega) only [RR,List.length_append,List.length_cons,List.length_nil]
  omega
theorem Xz {p1:Int×Int×Int×Int×Int×Int×IOp×List IOp×Unit→Bool} {f1:Int×Int×Int×Int×Int×Int×IOp×List IOp×Unit→Int×Int×Int×Int×Int×Int×Int×List IOp×Unit} (hp1:∀a1 a2 a3 a4 a5 a6 o ops,(ops.length:Int)<1000000→p1 (a1,a2,a3,a4,a5,a6,o,ops,())=true) (hf1:∀a1 a2 a3 a4 a5 a6 o ops,(ops.length:Int)<1000000→((f1 (a1,a2,a3,a4,a5,a6,o,ops,())).2.2.2.2.2.2.2.1.length:Int)=ops.length+1) (a1 a2 a3 a4 a5 a6:Int) (k:Int) (ops:List IOp) (hl:(ops.length:Int)<1000000):ET (std 0) p1 f1 (a1,a2,a3,a4,a5,a6,k,ops,()) (fun y=>(y.2.2.2.2.2.2.2.1.length:Int)=ops.length+1):=by
  dsimp only [ET,Alg.cl,Alg.cg,Alg.rb,Alg.bd,Alg.l1,Tup.q,Tup.o]
  simp (disch:=omega) only [RR,hp1,hf1]
theorem XA {p1:Int×Int×Int×Int×Int×Int×IOp×List IOp×Unit→Bool} {f1:Int×Int×Int×Int×Int×Int×IOp×List IOp×Unit→Int×Int×Int×Int×Int×Int×Int×List IOp×Unit} (hp1:∀a1 a2 a3 a4 a5 a6 o ops,(ops.length:Int)<1000000→p1 (a1,a2,a3,a4,a5,a6,o,ops,())=true) (hf1:∀a1 a2 a3 a4 a5 a6 o ops,(ops.length:Int)<1000000→((f1 (a1,a2,a3,a4,a5,a6,o,ops,())).2.2.2.2.2.2.2.1.length:Int)=ops.length+1) (a1 a2 a3 a4 a5 a6:Int) (k x:Int) (ops:List IOp) (hl:(ops.length:Int)<1000000):ER (std 0) p1 f1 (a1,a2,a3,a4,a5,a6,k,x,ops,()) (fun y=>(y.2.2.2.2.2.2.1.length:Int)=ops.length+1):=by
  dsimp only [ER,Alg.cl,Alg.cg,Alg.rb,Alg.bd,Alg.l1,Tup.q,Tup.o]
  simp (disch:=omega) only [RR,hp1,hf1]
theorem XB {p1:Int×Int×Int×Int×Int×Int×Int×List IOp×Unit→Bool} {f1:Int×Int×Int×Int×Int×Int×Int×List IOp×Unit→Int×Int×Int×Int×Int×Int×Int×List IOp×Unit} (hp1:∀a1 a2 a3 a4 a5 a6 k ops,(ops.length:Int)<1000000→p1 (a1,a2,a3,a4,a5,a6,k,ops,())=true) (hf1:∀a1 a2 a3 a4 a5 a6 k ops,(ops.length:Int)<1000000→((f1 (a1,a2,a3,a4,a5,a6,k,ops,())).2.2.2.2.2.2.2.1.length:Int)=ops.length+1) {p2:Int×Int×Int×Int×Int×Int×IOp×List IOp×Unit→Bool} {f2:Int×Int×Int×Int×Int×Int×IOp×List IOp×Unit→Int×Int×Int×Int×Int×Int×Int×List IOp×Unit} (hp2:∀a1 a2 a3 a4 a5 a6 o ops,(ops.length:Int)<1000000→p2 (a1,a2,a3,a4,a5,a6,o,ops,())=true) (hf2:∀a1 a2 a3 a4 a5 a6 o ops,(ops.length:Int)<1000000→((f2 (a1,a2,a3,a4,a5,a6,o,ops,())).2.2.2.2.2.2.2.1.length:Int)=ops.length+1) (a1 a2 a3 a4 a5 a6:Int) (k a:Int) (o:IOp) (ops:List IOp) (hl:(ops.length:Int)<999000):EU (std 0) p1 f1 p2 f2 (a1,a2,a3,a4,a5,a6,k,a,o,ops,()) (fun y=>(y.2.2.2.2.2.2.2.1.length:Int)=ops.length+3):=by
  dsimp only [EU,Alg.cl,Alg.cg,Alg.rb,Alg.bd,Alg.l1,Tup.q,Tup.o]
  simp (disch:=(first | omega | (simp (disch:=(first | omega | (simp (disch:=(first | omega | (simp (disch:=omega) only [hf1,hf2];omega))) only [hf1,hf2];omega))) only [hf1,hf2];omega))) only [RR,hp1,hp2,hf1,hf2]
  omega
theorem XC {p1:Int×Int×Int×Int×Int×Int×Int×List IOp×Unit→Bool} {f1:Int×Int×Int×Int×Int×Int×Int×List IOp×Unit→Int×Int×Int×Int×Int×Int×Int×List IOp×Unit} (hp1:∀a1 a2 a3 a4 a5 a6 k ops,(ops.length:Int)<1000000→p1 (a1,a2,a3,a4,a5,a6,k,ops,())=true) (hf1:∀a1 a2 a3 a4 a5 a6 k ops,(ops.length:Int)<1000000→((f1 (a1,a2,a3,a4,a5,a6,k,ops,())).2.2.2.2.2.2.2.1.length:Int)=ops.length+1) {p2:Int×Int×Int×Int×Int×Int×IOp×List IOp×Unit→Bool} {f2:Int×Int×Int×Int×Int×Int×IOp×List IOp×Unit→Int×Int×Int×Int×Int×Int×Int×List IOp×Unit} (hp2:∀a1 a2 a3 a4 a5 a6 o ops,(ops.length:Int)<1000000→p2 (a1,a2,a3,a4,a5,a6,o,ops,())=true) (hf2:∀a1 a2 a3 a4 a5 a6 o ops,(ops.length:Int)<1000000→((f2 (a1,a2,a3,a4,a5,a6,o,ops,())).2.2.2.2.2.2.2.1.length:Int)=ops.length+1) {p3:Int×Int×Int×Int×Int×Int×Int×Int×IOp×List IOp×Unit→Bool} {f3:Int×Int×Int×Int×Int×Int×Int×Int×IOp×List IOp×Unit→Int×Int×Int×Int×Int×Int×Int×List IOp×Unit} (hp3:∀a1 a2 a3 a4 a5 a6 k a o ops,(ops.length:Int)<999000→p3 (a1,a2,a3,a4,a5,a6,k,a,o,ops,())=true) (hf3:∀a1 a2 a3 a4 a5 a6 k a o ops,(ops.length:Int)<999000→((f3 (a1,a2,a3,a4,a5,a6,k,a,o,ops,())).2.2.2.2.2.2.2.1.length:Int)=ops.length+3) {p4:Int×Int×Int×Int×Int×Int×Int×Int×List IOp×Unit→Bool} {f4:Int×Int×Int×Int×Int×Int×Int×Int×List IOp×Unit→Int×Int×Int×Int×Int×Int×List IOp×Unit} (hp4:∀a1 a2 a3 a4 a5 a6 k x ops,(ops.length:Int)<1000000→p4 (a1,a2,a3,a4,a5,a6,k,x,ops,())=true) (hf4:∀a1 a2 a3 a4 a5 a6 k x ops,(ops.length:Int)<1000000→((f4 (a1,a2,a3,a4,a5,a6,k,x,ops,())).2.2.2.2.2.2.1.length:Int)=ops.length+1) (a1 a2 a3 a4 a5 a6:Int) (i:Ins) (k:Int) (ops:List IOp) (hl:(ops.length:Int)<998000):EX (std 0) p1 f1 p2 f2 p3 f3 p4 f4 (a1,a2,a3,a4,a5,a6,i,k,ops,()) (fun y=>(y.2.2.2.2.2.2.1.length:Int)=ops.length+5):=by
  dsimp only [EX,Alg.cl,Alg.cg,Alg.rb,Alg.bd,Alg.l1,Tup.q,Tup.o]
  simp (disch:=(first | omega | (simp (disch:=(first | omega | (simp (disch:=(first | omega | (simp (disch:=omega) only [hf1,hf2,hf3,hf4];omega))) only [hf1,hf2,hf3,hf4];omega))) only [hf1,hf2,hf3,hf4];omega))) only [RR,hp1,hp2,hp3,hp4,hf1,hf2,hf3,hf4]
  constructor<;>intro _<;>omega
theorem XD {p1:Int×Int×Int×Int×Int×Int×Int×List IOp×Unit→Bool} {f1:Int×Int×Int×Int×Int×Int×Int×List IOp×Unit→Int×Int×Int×Int×Int×Int×Int×List IOp×Unit} (hp1:∀a1 a2 a3 a4 a5 a6 k ops,(ops.length:Int)<1000000→p1 (a1,a2,a3,a4,a5,a6,k,ops,())=true) (hf1:∀a1 a2 a3 a4 a5 a6 k ops,(ops.length:Int)<1000000→((f1 (a1,a2,a3,a4,a5,a6,k,ops,())).2.2.2.2.2.2.2.1.length:Int)=ops.length+1) (a1 a2 a3 a4 a5 a6:Int) (i:Ins) (ops:List IOp) (hl:(ops.length:Int)<999000):EY (std 0) p1 f1 (a1,a2,a3,a4,a5,a6,i,ops,()) (fun y=>(y.2.2.2.2.2.2.1.length:Int)≤ops.length+5):=by
  dsimp only [EY,Alg.cl,Alg.cg,Alg.rb,Alg.bd,Alg.l1,Tup.q,Tup.o]
  simp (disch:=(first | omega | (simp (disch:=(first | omega | (simp (disch:=(first | omega | (simp (disch:=omega) only [hf1];omega))) only [hf1];omega))) only [hf1];omega))) only [RR,hp1,hf1]
  refine⟨fun _=>by omega,fun _=>⟨fun _=>by omega,fun _=>by omega⟩⟩
theorem ahT (k:Int) (hk:k<1000):EW (std 0) (k,()) (fun _=>True):=by
  dsimp only [EW,Alg.cl,Alg.cg,Alg.rb,Alg.bd,Alg.l1,Tup.q,Tup.o]
  simp (disch:=omega) only [RR]
  refine aA (fun(y:Int×Int×Int×Unit)=>y.1=k∧0≤y.2.2.1) (fun y=>(k-y.2.2.1).toNat) ⟨rfl,by simp⟩ ?_
  rintro⟨(k':Int),(z:Int),(j:Int),⟨⟩⟩ hI
  dsimp only at hI ⊢
  obtain⟨rfl,h1⟩:=hI
  simp (disch:=omega) only [RR]
  refine fun h=> ?_
  rw [w64 (by omega) (by omega)];constructor<;>omega
theorem XE {p1:Int×Int×Int×Int×Int×Int×Int×List IOp×Unit→Bool} {f1:Int×Int×Int×Int×Int×Int×Int×List IOp×Unit→Int×Int×Int×Int×Int×Int×Int×List IOp×Unit} (hp1:∀a1 a2 a3 a4 a5 a6 k ops,(ops.length:Int)<1000000→p1 (a1,a2,a3,a4,a5,a6,k,ops,())=true) (hf1:∀a1 a2 a3 a4 a5 a6 k ops,(ops.length:Int)<1000000→((f1 (a1,a2,a3,a4,a5,a6,k,ops,())).2.2.2.2.2.2.2.1.length:Int)=ops.length+1) {p2:Int×Int×Int×Int×Int×Int×Ins×List IOp×Unit→Bool} {f2:Int×Int×Int×Int×Int×Int×Ins×List IOp×Unit→Int×Int×Int×Int×Int×Int×List IOp×Unit} (hp2:∀a1 a2 a3 a4 a5 a6 i ops,(ops.length:Int)<999000→p2 (a1,a2,a3,a4,a5,a6,i,ops,())=true) (hf2:∀a1 a2 a3 a4 a5 a6 i ops,(ops.length:Int)<999000→((f2 (a1,a2,a3,a4,a5,a6,i,ops,())).2.2.2.2.2.2.1.length:Int)≤ops.length+5) {p3:Int×Int×Int×Int×Int×Int×IOp×List IOp×Unit→Bool} {f3:Int×Int×Int×Int×Int×Int×IOp×List IOp×Unit→Int×Int×Int×Int×Int×Int×Int×List IOp×Unit} (hp3:∀a1 a2 a3 a4 a5 a6 o ops,(ops.length:Int)<1000000→p3 (a1,a2,a3,a4,a5,a6,o,ops,())=true) (hf3:∀a1 a2 a3 a4 a5 a6 o ops,(ops.length:Int)<1000000→((f3 (a1,a2,a3,a4,a5,a6,o,ops,())).2.2.2.2.2.2.2.1.length:Int)=ops.length+1) {p4:Int×Int×Int×Int×Int×Int×Ins×Int×List IOp×Unit→Bool} {f4:Int×Int×Int×Int×Int×Int×Ins×Int×List IOp×Unit→Int×Int×Int×Int×Int×Int×List IOp×Unit} (hp4:∀a1 a2 a3 a4 a5 a6 i k ops,(ops.length:Int)<998000→p4 (a1,a2,a3,a4,a5,a6,i,k,ops,())=true) (hf4:∀a1 a2 a3 a4 a5 a6 i k ops,(ops.length:Int)<998000→((f4 (a1,a2,a3,a4,a5,a6,i,k,ops,())).2.2.2.2.2.2.1.length:Int)=ops.length+5) {p5:Int×Int×Int×Int×Int×Int×Int×Int×IOp×List IOp×Unit→Bool} {f5:Int×Int×Int×Int×Int×Int×Int×Int×IOp×List IOp×Unit→Int×Int×Int×Int×Int×Int×Int×List IOp×Unit} (hp5:∀a1 a2 a3 a4 a5 a6 k a o ops,(ops.length:Int)<999000→p5 (a1,a2,a3,a4,a5,a6,k,a,o,ops,())=true) (hf5:∀a1 a2 a3 a4 a5 a6 k a o ops,(ops.length:Int)<999000→((f5 (a1,a2,a3,a4,a5,a6,k,a,o,ops,())).2.2.2.2.2.2.2.1.length:Int)=ops.length+3) {p6:Int×Int×Int×Int×Int×Int×Int×Int×List IOp×Unit→Bool} {f6:Int×Int×Int×Int×Int×Int×Int×Int×List IOp×Unit→Int×Int×Int×Int×Int×Int×List IOp×Unit} (hp6:∀a1 a2 a3 a4 a5 a6 k x ops,(ops.length:Int)<1000000→p6 (a1,a2,a3,a4,a5,a6,k,x,ops,())=true) (hf6:∀a1 a2 a3 a4 a5 a6 k x ops,(ops.length:Int)<1000000→((f6 (a1,a2,a3,a4,a5,a6,k,x,ops,())).2.2.2.2.2.2.1.length:Int)=ops.length+1) {p7:Int×Unit→Bool} {f7:Int×Unit→Int×Unit} (hp7:∀k,k<1000→p7 (k,())=true) (a1 a2 a3 a4 a5 a6:Int) (i:Ins) (k:Int) (ops:List IOp) (hk:i.k<1000) (hl:(ops.length:Int)<997000):EZ (std 0) p1 f1 p2 f2 p3 f3 p4 f4 p5 f5 p6 f6 p7 f7 (a1,a2,a3,a4,a5,a6,i,k,ops,()) (fun y=>(y.2.2.2.2.2.2.1.length:Int)≤ops.length+5):=by
  have e4:=fun i k=>hf4 a1 a2 a3 a4 a5 a6 i k ops (by omega)
  have e2:=fun i=>hf2 a1 a2 a3 a4 a5 a6 i ops (by omega)
  dsimp only [EZ,Alg.cl,Alg.cg,Alg.rb,Alg.bd,Alg.l1,Tup.q,Tup.o]
  simp (disch:=(first | omega | (simp (disch:=(first | omega | (simp (disch:=(first | omega | (simp (disch:=omega) only [hf1,hf3,hf5,RB];omega))) only [hf1,hf3,hf5,RB];omega))) only [hf1,hf3,hf5,RB];omega))) only [RR,RB,hp1,hp2,hp3,hp4,hp5,hp6,hp7,hf1,hf3,hf4,hf5,hf6]
  have:=e2 i
  repeat' (first | (refine⟨?_,?_⟩) | intro _)
  all_goals omega
def KB (l:List Ins):Prop:=∀i∈l,i.k<1000
theorem KB.at {l:List Ins} (h:KB l) (n:Nat):(l.getD n default).k<1000:=by
  by_cases h1:n<l.length
  · rw [getD_lt h1];exact h _ (List.getElem_mem _)
  · simp only [List.getD,List.getElem?_eq_none (by omega:l.length≤n)];decide
theorem XF {p1:Int×List Ins×Unit→Bool} {f1:Int×List Ins×Unit→Bool×Unit} (hp1:∀pc l,(l.length:Int)<1000→p1 (pc,l,())=true) {p2:Int×Int×Int×Int×Int×Int×Ins×Int×List IOp×Unit→Bool} {f2:Int×Int×Int×Int×Int×Int×Ins×Int×List IOp×Unit→Int×Int×Int×Int×Int×Int×List IOp×Unit} (hp2:∀a1 a2 a3 a4 a5 a6 i k ops,i.k<1000→(ops.length:Int)<997000→p2 (a1,a2,a3,a4,a5,a6,i,k,ops,())=true) (hf2:∀a1 a2 a3 a4 a5 a6 i k ops,i.k<1000→(ops.length:Int)<997000→((f2 (a1,a2,a3,a4,a5,a6,i,k,ops,())).2.2.2.2.2.2.1.length:Int)≤ops.length+5) (pc:Int) (l:List Ins) (hl:(l.length:Int)<1000) (hk:KB l):E5 (std 0) p1 f1 p2 f2 (pc,l,()) (fun y=>(y.2.2.2.2.2.2.1.length:Int)≤5000):=by
  dsimp only [E5,Alg.cl,Alg.cg,Alg.rb,Alg.bd,Alg.l1,Tup.q,Tup.o]
  simp (disch:=omega) only [RR,hp1,List.length_nil]
  refine⟨fun _=>by omega,fun _=> ?_⟩
  refine aA (fun(y:List Ins×Int×Int×Int×Int×Int×Int×Int×Int×Int×Int×Int×Int×Int×List IOp×Unit)=>y.1=l∧0≤y.2.1∧y.2.1≤l.length∧(y.2.2.2.2.2.2.2.2.2.2.2.2.2.2.1.length:Int)≤5*y.2.1) (fun y=>((l.length:Int)-y.2.1).toNat) ⟨rfl,by simp,by simp,by simp⟩ ?_
  rintro⟨(l':List Ins),(j:Int),u1,u2,u3,u4,u5,u6,b1,b2,b3,b4,b5,b6,(ops:List IOp),⟨⟩⟩ hI
  dsimp only at hI ⊢
  obtain⟨rfl,h1,h2,h3⟩:=hI
  have hk':=hk.at j.toNat
  simp (disch:=omega) only [RR,hp2]
  refine⟨fun h=> ?_,fun h=>by omega⟩
  have:=hf2 b1 b2 b3 b4 b5 b6 ((l').getD (j).toNat default) j ops hk' (by omega)
  exact⟨h1,h,⟨by omega,by omega,by omega⟩,by omega⟩
end Go.TX.F
namespace Go.TX.F
open Go Go.AE Go.TX
structure InD (m:Int) (b:List Int) (p:Int) (y:Int×Int×Int×Int×List Int×Int×Unit):Prop where
  b:y.2.2.2.2.1=b
  lo:p≤y.2.2.2.2.2.1
  hi:y.2.2.2.2.2.1≤p+m
  k:0≤y.2.2.2.1∧y.2.2.2.1≤255
@[reducible] def ahU : List Int → Prop
  | []=>True
  | x::l=>(0≤x∧x≤255)∧ahU l
theorem Ny:∀(l:List Int) (n:Nat),ahU l→0≤l.getD n default∧l.getD n default≤255
  | [],n,_=>by simp only [List.getD_nil];decide
  | x::l,0,h=>h.1
  | x::l,n+1,h=>Ny l n h.2
theorem pkR {f1:Int×List Int×Int×Unit→Int×List Int×Int×Unit} {b:List Int} (hb:Bt b) (hf1:∀n b p,Bt b→0≤p→p<1000000000→Pk n b p (f1 (n,b,p,()))):
    (∀n p,0≤p→p<1000000000→(f1 (n,b,p,())).2.1=b)∧(∀n p,0≤p→p<1000000000→(f1 (n,b,p,())).2.2.1=p+1)∧
    (∀n p,0≤p→p<1000000000→(0≤(f1 (n,b,p,())).1)=True)∧(∀n p k,0≤p→p<1000000000→n≤k→0<k→((f1 (n,b,p,())).1<k)=True)∧
    (∀n p k,0≤p→p<1000000000→n≤k+1→0≤k→((f1 (n,b,p,())).1≤k)=True):=
  ⟨fun n p h1 h2=>(hf1 n b p hb h1 h2).1,fun n p h1 h2=>(hf1 n b p hb h1 h2).2.1,fun n p h1 h2=>eq_true (hf1 n b p hb h1 h2).2.2.1,
    fun n p k h1 h2 h3 h4=>eq_true (by have:=(hf1 n b p hb h1 h2).2.2;omega),fun n p k h1 h2 h3 h4=>eq_true (by have:=(hf1 n b p hb h1 h2).2.2;omega)⟩
theorem XG {p1:Int×List Int×Int×Unit→Bool} {f1:Int×List Int×Int×Unit→Int×List Int×Int×Unit} (hp1:∀n b p,Bt b→0≤p→p<1000000000→p1 (n,b,p,())=true) (hf1:∀n b p,Bt b→0≤p→p<1000000000→Pk n b p (f1 (n,b,p,()))) (b:List Int) (p:Int) (hb:Bt b) (h1:0≤p) (h2:p<900000000):EH (std 0) p1 f1 (b,p,()) (fun y=>InD 20 b p y):=by
  have R:=pkR hb hf1
  have P:=fun n p h1 h2=>hp1 n b p hb h1 h2
  dsimp only [EH,Alg.cl,Alg.cg,Alg.rb,Alg.bd,Alg.l1,Tup.q,Tup.o]
  simp (disch:=omega) only [RR,R,P,List.length_cons,List.length_nil]
  repeat' (first | (refine⟨?_,?_⟩) | intro _)
  all_goals try omega
  all_goals refine⟨rfl,by dsimp only;omega,by dsimp only;omega,?_⟩
  all_goals dsimp only
  all_goals first | omega | (refine Ny _ _ ?_;simp (disch:=omega) only [ahU,R,Int.reduceLE,and_self,true_and,and_true]) | (simp (disch:=omega) only [R,Int.reduceLE,and_self,true_and,and_true])
theorem XH {p1:List Int×Int×Unit→Bool} {f1:List Int×Int×Unit→Int×Int×Int×Int×List Int×Int×Unit} (hp1:∀b p,Bt b→0≤p→p<900000000→p1 (b,p,())=true) (hf1:∀b p,Bt b→0≤p→p<900000000→InD 20 b p (f1 (b,p,()))) {p2:Int×List Int×Int×Unit→Bool} {f2:Int×List Int×Int×Unit→Int×List Int×Int×Unit} (hp2:∀n b p,Bt b→0≤p→p<1000000000→p2 (n,b,p,())=true) (hf2:∀n b p,Bt b→0≤p→p<1000000000→Pk n b p (f2 (n,b,p,()))) {p3:Ins×Unit→Bool} {f3:Ins×Unit→Bool×Unit} (hp3:∀i,p3 (i,())=true) (b:List Int) (p:Int) (hb:Bt b) (h1:0≤p) (h2:p<800000000):EM (std 0) p1 f1 p2 f2 p3 f3 (b,p,()) (fun y=>InD 30 b p y):=by
  obtain⟨a1,a2,a3,a4⟩:=hf1 b p hb h1 (by omega)
  have R:=pkR hb hf2
  have P:=fun n p h1 h2=>hp2 n b p hb h1 h2
  dsimp only [EM,Alg.cl,Alg.cg,Alg.rb,Alg.bd,Alg.l1,Tup.q,Tup.o]
  simp (disch:=omega) only [RR,hp1 b p hb h1 (by omega),hp3,a1,R,P]
  refine⟨fun _=>⟨rfl,by dsimp only;omega,by dsimp only;omega,?_⟩,fun _=>⟨rfl,a2,by dsimp only;omega,a4⟩⟩
  dsimp only
  simp (disch:=omega) only [R,Int.reduceLE,and_self]
structure LiD (b:List Int) (p:Int) (y:List Int×Int×List Ins×Unit):Prop where
  b:y.1=b
  lo:p≤y.2.1
  hi:y.2.1≤p+1000
  len:(y.2.2.1.length:Int)≤20
  k:KB y.2.2.1
theorem KB.app {l:List Ins} {i:Ins} (h:KB l) (h2:i.k≤255):KB (l++ [i]):=fun x hx=>by
  rw [List.mem_append,List.mem_singleton]at hx
  rcases hx with hx | rfl
  · exact h x hx
  · omega
theorem XI {p1:List Int×Int×Unit→Bool} {f1:List Int×Int×Unit→Int×Int×Int×Int×List Int×Int×Unit} (hp1:∀b p,Bt b→0≤p→p<800000000→p1 (b,p,())=true) (hf1:∀b p,Bt b→0≤p→p<800000000→InD 30 b p (f1 (b,p,()))) {p2:Int×List Int×Int×Unit→Bool} {f2:Int×List Int×Int×Unit→Int×List Int×Int×Unit} (hp2:∀n b p,Bt b→0≤p→p<1000000000→p2 (n,b,p,())=true) (hf2:∀n b p,Bt b→0≤p→p<1000000000→Pk n b p (f2 (n,b,p,()))) (b:List Int) (p:Int) (hb:Bt b) (h1:0≤p) (h2:p<700000000):EN (std 0) p1 f1 p2 f2 (b,p,()) (fun y=>LiD b p y):=by
  obtain⟨e1,e2,e3,e4⟩:=hf2 8 b p hb h1 (by omega)
  dsimp only [EN,Alg.cl,Alg.cg,Alg.rb,Alg.bd,Alg.l1,Tup.q,Tup.o]
  simp (disch:=omega) only [RR,hp2 8 b p hb h1 (by omega),e1,e2]
  refine aA (fun(y:Int×List Int×Int×List Ins×Unit)=>0≤y.1∧y.1≤8∧y.2.1=b∧p≤y.2.2.1∧y.2.2.1+40*y.1≤p+400∧(y.2.2.2.1.length:Int)+y.1≤8∧KB y.2.2.2.1) (fun y=>y.1.toNat)
    ⟨e3,by dsimp only;omega,rfl,by dsimp only;omega,by dsimp only;omega,by dsimp only [List.length_nil];omega,fun x hx=>by cases hx⟩ ?_
  rintro⟨(k:Int),(b':List Int),(q:Int),(l:List Ins),⟨⟩⟩ hI
  dsimp only at hI ⊢
  obtain⟨k1,k2,rfl,k3,k4,k5,k6⟩:=hI
  have R:=pkR hb hf2
  have P:=fun n p h1 h2=>hp2 n b' p hb h1 h2
  obtain⟨a1,a2,a3,a4⟩:=hf1 b' q hb (by omega) (by omega)
  obtain⟨b1,b2,b3,b4⟩:=hf1 b' (q+1) hb (by omega) (by omega)
  simp (disch:=omega) only [RR,RB,hp1 b' q hb (by omega) (by omega),hp1 b' (q+1) hb (by omega) (by omega),a1,b1,R,P,List.length_cons,List.length_nil,List.length_append]
  refine⟨fun c=>⟨by omega,⟨by omega,by omega,by omega,by omega,by omega,k6.app a4.2⟩,by omega⟩,fun c=>⟨fun _=>⟨by omega,rfl,by dsimp only;omega,by dsimp only;omega,?_,?_⟩,fun _=>⟨fun _=>⟨by omega,rfl,by dsimp only;omega,by dsimp only;omega,?_,?_⟩,fun _=>⟨by omega,rfl,by dsimp only;omega,by dsimp only;omega,?_,?_⟩⟩⟩⟩
  · dsimp only;rw [List.length_append];simp only [List.length_cons,List.length_nil];omega
  · refine k6.app ?_
    dsimp only
    simp (disch:=omega) only [R]
  · dsimp only;rw [List.length_append];simp only [List.length_cons,List.length_nil];omega
  · exact k6.app (by dsimp only;omega)
  · dsimp only;rw [List.length_append];simp only [List.length_cons,List.length_nil];omega
  · exact k6.app b4.2
end Go.TX.F
namespace Go.TX.F
open Go Go.AE Go.TX
theorem XJ (b:Blk) (hb:b.ops.length<1000000):Em (std 0) (b,()) (fun y=>y=(b.pc,b.len,b.fin,b.x,b.y,b.k,b.ops,())):=by
  dsimp only [Em,Alg.cl,Alg.cg,Alg.rb,Alg.bd,Alg.l1,Tup.q,Tup.o]
  simp (disch:=omega) only [RR,RB,List.nil_append,List.length_nil]
  omega
theorem ahV (ops:List IOp) (k:Int):Ep (std 0) (ops,k,()) (fun _=>True):=by
  dsimp only [Ep,Alg.cl,Alg.cg,Alg.rb,Alg.bd,Alg.l1,Tup.q,Tup.o]
  simp (disch:=omega) only [RR,RB]
  omega
theorem XK (b:Blk) (k:Int):Er (std 0) (b,k,()) (fun y=>y.2.2.1=b.ops):=by
  dsimp only [Er,Alg.cl,Alg.cg,Alg.rb,Alg.bd,Alg.l1,Tup.q,Tup.o]
  simp (disch:=omega) only [RR,RB]
theorem XL {p1:Blk×Int×Unit→Bool} {f1:Blk×Int×Unit→Int×Int×List IOp×Int×Int×Int×Int×Unit} (hp1:∀b k,p1 (b,k,())=true) (hf1:∀b k,(f1 (b,k,())).2.2.1=b.ops) {p2:List IOp×Int×Unit→Bool} {f2:List IOp×Int×Unit→Int×Bool×Unit} (hp2:∀ops k,p2 (ops,k,())=true) (b:Blk):Es (std 0) p1 f1 p2 f2 (b,()) (fun y=>y.1.ops=b.ops):=by
  dsimp only [Es,Alg.cl,Alg.cg,Alg.rb,Alg.bd,Alg.l1,Tup.q,Tup.o]
  simp (disch:=omega) only [RR,RB,hp1,hf1,hp2]
  repeat' (first | (refine⟨?_,?_⟩) | intro _)
  all_goals rfl
theorem XM {p1:Int×Int×Int×Unit→Bool} {f1:Int×Int×Int×Unit→Bool×Unit} (hp1:∀a b c,p1 (a,b,c,())=true) (hf1:∀a b c,f1 (a,b,c,())=(inB a b c,())) (o:IOp) (al:List Int) (hx:hX o→0≤o.x∧o.x< (al.length:Int)) (hy:hY o→0≤o.y∧o.y< (al.length:Int)):En (std 0) p1 f1 (o,al,()) (fun y=>y.1.kind=o.kind∧y.1.k=o.k):=by
  unfold hX at hx
  unfold hY at hy
  dsimp only [En,Alg.cl,Alg.cg,Alg.rb,Alg.bd,Alg.l1,Tup.q,Tup.o]
  simp (disch:=omega) only [RR,RB,hp1,hf1,dV,uw]
  refine⟨fun c=>⟨(hx (by omega)).1,(hx (by omega)).2,hy⟩,fun c=>hy⟩
theorem ahW (ops:List IOp) (k:Int) (h0:0≤k) (h1:k<ops.length) (h2:(ops.length:Int)<1000000):Ez (std 0) (ops,k,()) (fun _=>True):=by
  dsimp only [Ez,Alg.cl,Alg.cg,Alg.rb,Alg.bd,Alg.l1,Tup.q,Tup.o]
  simp (disch:=omega) only [RR,RB]
  refine aA (fun(y:List IOp×Int×Int×Unit)=>y.1=ops∧y.2.1=k∧0≤y.2.2.1) (fun y=>((ops.length:Int)-y.2.2.1).toNat) ⟨rfl,rfl,by dsimp only;omega⟩ ?_
  rintro⟨(l:List IOp),(k':Int),(j:Int),⟨⟩⟩ hI
  dsimp only at hI ⊢
  obtain⟨rfl,rfl,h3⟩:=hI
  simp (disch:=omega) only [RR,RB]
  intro h
  simp only [show IntKind.i64.wrap (j+1)=j+1 from w64 (by omega) (by omega)]
  repeat' (first | (refine⟨?_,?_⟩) | intro _)
  all_goals omega
@[reducible] def Nz (z : Int × Int × Int × Int × Int × Int × List IOp × Unit) : Blk := ⟨z.1, z.2.1, z.2.2.2.2.2.2.1, z.2.2.1, z.2.2.2.1, z.2.2.2.2.1, z.2.2.2.2.2.1⟩
theorem XO {p1:Blk×Unit→Bool} {f1:Blk×Unit→Blk×Unit} (hp1:∀b,b.ops.length<1000000→p1 (b,())=true) (hf1:∀b,b.ops.length<1000000→(f1 (b,())).1.ops.length≤b.ops.length) {p2:Blk×Unit→Bool} {f2:Blk×Unit→Int×Int×Int×Int×Int×Int×List IOp×Unit} (hp2:∀b,b.ops.length<1000000→p2 (b,())=true) (hf2:∀b,b.ops.length<1000000→(f2 (b,())).2.2.2.2.2.2.1.length≤b.ops.length) {p3:Blk×Unit→Bool} {f3:Blk×Unit→Int×Int×Int×Int×Int×Int×List IOp×Unit} (hp3:∀b,b.ops.length<1000000→p3 (b,())=true) (hf3:∀b,b.ops.length<1000000→(f3 (b,())).2.2.2.2.2.2.1.length≤b.ops.length) {p4:Blk×Unit→Bool} {f4:Blk×Unit→Int×Int×Int×Int×Int×Int×List IOp×Unit} (hp4:∀b,b.ops.length<1000000→p4 (b,())=true) (hf4:∀b,b.ops.length<1000000→(f4 (b,())).2.2.2.2.2.2.1.length≤b.ops.length) (b:Blk) (hb:b.ops.length<1000000):JF (std 0) p1 f1 p2 f2 p3 f3 p4 f4 (b,()) (fun y=>y.2.2.2.2.2.2.1.length≤b.ops.length):=by
  have a1:=hf2 b hb
  have m1:(Nz (f2 (b,()))).ops.length<1000000:=Nat.lt_of_le_of_lt a1 hb
  have a2:=hf1 _ m1
  have m2:=Nat.lt_of_le_of_lt a2 m1
  have a3:=hf3 _ m2
  have m3:(Nz (f3 ((f1 (Nz (f2 (b,())),())).1,()))).ops.length<1000000:=Nat.lt_of_le_of_lt a3 m2
  have a4:=hf4 _ m3
  have m4:(Nz (f4 (Nz (f3 ((f1 (Nz (f2 (b,())),())).1,())),()))).ops.length<1000000:=Nat.lt_of_le_of_lt a4 m3
  have a5:=hf3 _ m4
  exact⟨hp2 b hb,hp1 _ m1,hp3 _ m2,hp4 _ m3,hp3 _ m4,Nat.le_trans a5 (Nat.le_trans a4 (Nat.le_trans a3 (Nat.le_trans a2 a1)))⟩
theorem XP {p1:Blk×Unit→Bool} {f1:Blk×Unit→Bool×Unit} (hp1:∀b,b.ops.length<1000000000→p1 (b,())=true) (hf1:∀b,b.ops.length<1000000000→f1 (b,())=(bp (gM b),())) {p2:Int×Int×Int×Unit→Bool} {f2:Int×Int×Int×Unit→Int×Unit} (hp2:∀op a b,p2 (op,a,b,())=true) (hf2:∀op a b,f2 (op,a,b,())=(wdo op a b,())) {p3:Blk×Unit→Bool} {f3:Blk×Unit→Blk×Unit} (hp3:∀b,p3 (b,())=true) (hf3:∀b,(f3 (b,())).1.ops=b.ops) {p4:List IOp×Int×Unit→Bool} {f4:List IOp×Int×Unit→Int×Bool×Unit} (hp4:∀ops k,p4 (ops,k,())=true) {p5:Blk×Unit→Bool} {f5:Blk×Unit→Int×Int×Int×Int×Int×Int×List IOp×Unit} (hp5:∀b,b.ops.length<1000000→p5 (b,())=true) (hf5:∀b,b.ops.length<1000000→f5 (b,())=(b.pc,b.len,b.fin,b.x,b.y,b.k,b.ops,())) (b:Blk) (hb:b.ops.length<1000000):Ey (std 0) p1 f1 p2 f2 p3 f3 p4 f4 p5 f5 (b,()) (fun y=>y.1.ops.length≤b.ops.length):=by
  dsimp only [Ey,Alg.cl,Alg.cg,Alg.rb,Alg.bd,Alg.l1,Tup.q,Tup.o]
  simp (disch:=omega) only [RR,RB,hp1 b (by omega),hf1 b (by omega),hp5 b hb,hf5 b hb]
  refine⟨fun _=>Nat.zero_le _,fun _=> ?_⟩
  refine aA (fun(y:Int×Int×Int×Int×Int×Int×Int×Int×Int×Int×Int×Int×Int×List IOp×Unit)=>0≤y.1∧y.2.2.2.2.2.2.2.2.2.2.2.2.2.1.length=b.ops.length) (fun y=>((b.ops.length:Int)-y.1).toNat) ⟨by dsimp only;omega,rfl⟩ ?_
  rintro⟨(k:Int),u1,u2,u3,u4,u5,u6,b1,b2,b3,b4,b5,b6,(ops:List IOp),⟨⟩⟩ hI
  dsimp only at hI ⊢
  obtain⟨h1,h2⟩:=hI
  simp (disch:=omega) only [RR,RB,hp4,hp3,hf3,hp2,hf2,List.length_set]
  refine⟨fun h=> ?_,fun h=>by rw [←h2];exact Nat.le_refl _⟩
  simp only [show IntKind.i64.wrap (k+1)=k+1 from w64 (by omega) (by omega)]
  repeat' (first | (refine⟨?_,?_⟩) | intro _)
  all_goals omega
theorem XQ {p1:Blk×Unit→Bool} {f1:Blk×Unit→Bool×Unit} (hp1:∀b,b.ops.length<1000000000→p1 (b,())=true) (hf1:∀b,b.ops.length<1000000000→f1 (b,())=(bp (gM b),())) {p2:Int×Int×Int×Unit→Bool} {f2:Int×Int×Int×Unit→Bool×Unit} (hp2:∀a b c,p2 (a,b,c,())=true) (hf2:∀a b c,f2 (a,b,c,())=(inB a b c,())) (b:Blk) (hb:b.ops.length<1000000):EC (std 0) p1 f1 p2 f2 (b,()) (fun y=>gM b→y.1.length=b.ops.length):=by
  dsimp only [EC,Alg.cl,Alg.cg,Alg.rb,Alg.bd,Alg.l1,Tup.q,Tup.o]
  simp (disch:=omega) only [RR,RB,hp1 b (by omega),hf1 b (by omega)]
  refine⟨fun h h2=>absurd h (by rw [iA h2];decide),fun h=> ?_⟩
  have ok:=bX.1 h
  have n48:=ok.sz
  refine aA (fun(y:Int×Blk×List Bool×Unit)=>0≤y.1∧y.1≤b.ops.length∧y.2.1=b∧(y.2.2.1.length:Int)=y.1) (fun y=>((b.ops.length:Int)-y.1).toNat) ⟨by dsimp only;omega,by dsimp only;omega,rfl,rfl⟩ ?_
  rintro⟨(k:Int),(b':Blk),(kp:List Bool),⟨⟩⟩ hI
  dsimp only at hI ⊢
  obtain⟨h1,h2,rfl,h3⟩:=hI
  simp (disch:=omega) only [RR,RB,List.length_append,List.length_cons,List.length_nil]
  refine⟨fun h=>⟨h1,h,by omega,⟨by omega,by omega,by omega⟩,by omega⟩,fun h=> ?_⟩
  have ex:¬b'.fin=1→0≤b'.x∧b'.x<kp.length:=fun c=>by have:=ok.en.x1 c;exact⟨this.1,by have:=this.2.1;omega⟩
  have ey:b'.fin=3∨b'.fin=4→0≤b'.y∧b'.y<kp.length:=fun c=>by have:=ok.en.y1 (by omega);exact⟨this.1,by have:=this.2.1;omega⟩
  refine⟨fun c=>⟨(ex c).1,(ex c).2,(ex c).1,(ex c).2,fun c2=>⟨(ey c2).1,by rw [List.length_set];exact(ey c2).2,(ey c2).1,by rw [List.length_set];exact(ey c2).2,?_⟩,fun c2=> ?_⟩,fun c=>⟨fun c2=>⟨(ey c2).1,(ey c2).2,(ey c2).1,(ey c2).2,?_⟩,fun c2=> ?_⟩⟩
  all_goals
    refine aA (fun(y:Int×Blk×List Bool×Unit)=>y.1<b'.ops.length∧y.2.1=b'∧y.2.2.1.length=b'.ops.length) (fun y=>(y.1+1).toNat) ⟨by dsimp only;omega,rfl,by simp only [List.length_set];omega⟩ ?_
    rintro⟨(j:Int),(b2:Blk),(kp2:List Bool),⟨⟩⟩ hI
    dsimp only at hI ⊢
    obtain⟨j1,rfl,j3⟩:=hI
    simp (disch:=omega) only [RR,RB,hp2,hf2,dV,List.length_set]
    refine⟨fun j0=> ?_,fun _ _=>j3⟩
    have op:=ok.op j j0 j1
    have ox:=op.x1
    have oy:=op.y1
    try simp only [show IntKind.i64.wrap (j-1)=j-1 from w64 (by omega) (by omega)]
    generalize ((b2.ops).getD (j).toNat default)=o at ox oy ⊢
    unfold hX at ox
    unfold hY at oy
    unfold Vl at ox oy
    repeat' (first | (refine⟨?_,?_⟩) | intro _)
    all_goals first | omega | (have:=ox (by omega);omega) | (have:=oy (by omega);omega) | rfl
end Go.TX.F
namespace Go.TX.F
open Go Go.AE Go.TX
theorem XR {p1:IOp×List Int×Unit→Bool} {f1:IOp×List Int×Unit→IOp×Unit} (hp1:∀o al,(hX o→0≤o.x∧o.x< (al.length:Int))→(hY o→0≤o.y∧o.y< (al.length:Int))→p1 (o,al,())=true) (hf1:∀o al,(hX o→0≤o.x∧o.x< (al.length:Int))→(hY o→0≤o.y∧o.y< (al.length:Int))→(f1 (o,al,())).1.kind=o.kind∧(f1 (o,al,())).1.k=o.k) (b:Blk) (kp:List Bool) (ok:gM b) (hk:kp.length=b.ops.length):EA (std 0) p1 f1 (b,kp,()) (fun y=>y.2.2.2.2.2.2.1.length≤b.ops.length):=by
  have n48:=ok.sz
  dsimp only [EA,Alg.cl,Alg.cg,Alg.rb,Alg.bd,Alg.l1,Tup.q,Tup.o]
  simp (disch:=omega) only [RR,RB]
  refine aA (fun(y:List Bool×Int×Blk×Int×Int×Int×Int×Int×Int×List IOp×List Int×Unit)=>y.1=kp∧0≤y.2.1∧y.2.1≤b.ops.length∧y.2.2.1=b∧(y.2.2.2.2.2.2.2.2.2.1.length:Int)≤y.2.1∧(y.2.2.2.2.2.2.2.2.2.2.1.length:Int)=y.2.1) (fun y=>((b.ops.length:Int)-y.2.1).toNat) ⟨rfl,by dsimp only;omega,by dsimp only;omega,rfl,by simp,rfl⟩ ?_
  rintro⟨(kp':List Bool),(k:Int),(b':Blk),u1,u2,u3,u4,u5,u6,(out:List IOp),(to:List Int),⟨⟩⟩ hI
  dsimp only at hI ⊢
  obtain⟨rfl,h1,h2,rfl,h3,h4⟩:=hI
  have A:k<b'.ops.length→∀z,p1 (((b'.ops).getD (k).toNat default),to++ [z],())=true:=fun h z=>by
    have op:=ok.op k h1 h
    refine hp1 _ _ (fun c=> ?_) (fun c=> ?_)
    · have:=op.x1 c;unfold Vl at this;rw [List.length_append];simp only [List.length_cons,List.length_nil];omega
    · have:=op.y1 c;unfold Vl at this;rw [List.length_append];simp only [List.length_cons,List.length_nil];omega
  have ex:¬k<b'.ops.length→¬b'.fin=1→0≤b'.x∧b'.x<to.length:=fun h c=>by have:=ok.en.x1 c;exact⟨this.1,by have:=this.2.1;omega⟩
  have ey:¬k<b'.ops.length→b'.fin=3∨b'.fin=4→0≤b'.y∧b'.y<to.length:=fun h c=>by have:=ok.en.y1 (by omega);exact⟨this.1,by have:=this.2.1;omega⟩
  simp (disch:=omega) only [RR,RB,List.length_append,List.length_cons,List.length_nil]
  refine⟨fun h=>⟨by omega,h1,by omega,fun _=>⟨h1,h,A h _,by omega,⟨by omega,by omega,by omega,by omega⟩,by omega⟩,fun _=>⟨⟨by omega,by omega,by omega,by omega⟩,by omega⟩⟩,fun h=> ?_⟩
  have ex:=ex h
  have ey:=ey h
  refine⟨fun c=>⟨(ex c).1,(ex c).2,(ex c).1,(ex c).2,fun c2=>⟨(ey c2).1,(ey c2).2,(ey c2).1,(ey c2).2,by omega⟩,fun _=>by omega⟩,fun c=>⟨fun c2=>⟨(ey c2).1,(ey c2).2,(ey c2).1,(ey c2).2,by omega⟩,fun _=>by omega⟩⟩
theorem XU {p1:Blk×Unit→Bool} {f1:Blk×Unit→Bool×Unit} (hp1:∀b,b.ops.length<1000000000→p1 (b,())=true) (hf1:∀b,b.ops.length<1000000000→f1 (b,())=(bp (gM b),())) {p2:Blk×Unit→Bool} {f2:Blk×Unit→List Bool×Unit} (hp2:∀b,b.ops.length<1000000→p2 (b,())=true) (hf2:∀b,b.ops.length<1000000→(gM b→(f2 (b,())).1.length=b.ops.length)) {p3:Blk×List Bool×Unit→Bool} {f3:Blk×List Bool×Unit→Int×Int×Int×Int×Int×Int×List IOp×Unit} (hp3:∀b kp,gM b→kp.length=b.ops.length→p3 (b,kp,())=true) (hf3:∀b kp,gM b→kp.length=b.ops.length→(f3 (b,kp,())).2.2.2.2.2.2.1.length≤b.ops.length) (b:Blk) (hb:b.ops.length<1000000):ED (std 0) p1 f1 p2 f2 p3 f3 (b,()) (fun y=>y.2.2.2.2.2.2.1.length≤b.ops.length):=by
  dsimp only [ED,Alg.cl,Alg.cg,Alg.rb,Alg.bd,Alg.l1,Tup.q,Tup.o]
  simp (disch:=omega) only [RR,RB,hp1 b (by omega),hf1 b (by omega),hp2 b hb]
  refine⟨fun _=>Nat.zero_le _,fun h=> ?_⟩
  have ok:=bX.1 h
  exact⟨hp3 _ _ ok (hf2 b hb ok),hf3 _ _ ok (hf2 b hb ok)⟩
theorem XV {p1:Blk×Unit→Bool} {f1:Blk×Unit→Bool×Unit} (hp1:∀b,b.ops.length<1000000000→p1 (b,())=true) (hf1:∀b,b.ops.length<1000000000→f1 (b,())=(bp (gM b),())) {p2:Blk×List Bool×Unit→Bool} {f2:Blk×List Bool×Unit→Int×Int×Int×Int×Int×Int×List IOp×Unit} (hp2:∀b kp,gM b→kp.length=b.ops.length→p2 (b,kp,())=true) (hf2:∀b kp,gM b→kp.length=b.ops.length→(f2 (b,kp,())).2.2.2.2.2.2.1.length≤b.ops.length) {p3:List IOp×Int×Unit→Bool} {f3:List IOp×Int×Unit→Bool×Unit} (hp3:∀ops k,0≤k→k<ops.length→(ops.length:Int)<1000000→p3 (ops,k,())=true) (b:Blk) (hb:b.ops.length<1000000):EB (std 0) p1 f1 p2 f2 p3 f3 (b,()) (fun y=>y.2.2.2.2.2.2.1.length≤b.ops.length):=by
  dsimp only [EB,Alg.cl,Alg.cg,Alg.rb,Alg.bd,Alg.l1,Tup.q,Tup.o]
  simp (disch:=omega) only [RR,RB,hp1 b (by omega),hf1 b (by omega)]
  refine⟨fun _=>Nat.zero_le _,fun h=> ?_⟩
  have ok:=bX.1 h
  refine aA (fun(y:Int×Blk×Int×Int×Int×Int×Int×Int×List Bool×Unit)=>0≤y.1∧y.1≤b.ops.length∧y.2.1=b∧(y.2.2.2.2.2.2.2.2.1.length:Int)=y.1) (fun y=>((b.ops.length:Int)-y.1).toNat) ⟨by dsimp only;omega,by dsimp only;omega,rfl,rfl⟩ ?_
  rintro⟨(k:Int),(b':Blk),u1,u2,u3,u4,u5,u6,(kp:List Bool),⟨⟩⟩ hI
  dsimp only at hI ⊢
  obtain⟨h1,h2,rfl,h3⟩:=hI
  simp (disch:=omega) only [RR,RB,List.length_append,List.length_cons,List.length_nil]
  refine⟨fun h=>⟨h1,h,Or.inr (hp3 _ _ h1 h (by omega)),by omega,⟨by omega,by omega,by omega⟩,by omega⟩,fun h=> ?_⟩
  have e:kp.length=b'.ops.length:=by omega
  exact⟨hp2 _ _ ok e,hf2 _ _ ok e⟩
theorem XW {p1:Blk×Unit→Bool} {f1:Blk×Unit→Bool×Unit} (hp1:∀b,b.ops.length<1000000000→p1 (b,())=true) (hf1:∀b,b.ops.length<1000000000→f1 (b,())=(bp (gM b),())) {p2:IOp×List Int×Unit→Bool} {f2:IOp×List Int×Unit→IOp×Unit} (hp2:∀o al,(hX o→0≤o.x∧o.x< (al.length:Int))→(hY o→0≤o.y∧o.y< (al.length:Int))→p2 (o,al,())=true) (hf2:∀o al,(hX o→0≤o.x∧o.x< (al.length:Int))→(hY o→0≤o.y∧o.y< (al.length:Int))→(f2 (o,al,())).1.kind=o.kind∧(f2 (o,al,())).1.k=o.k) {p3:Blk×Unit→Bool} {f3:Blk×Unit→Int×Int×Int×Int×Int×Int×List IOp×Unit} (hp3:∀b,b.ops.length<1000000→p3 (b,())=true) (hf3:∀b,b.ops.length<1000000→f3 (b,())=(b.pc,b.len,b.fin,b.x,b.y,b.k,b.ops,())) (b:Blk) (hb:b.ops.length<1000000):Eo (std 0) p1 f1 p2 f2 p3 f3 (b,()) (fun y=>y.2.2.2.2.2.2.1.length≤b.ops.length):=by
  dsimp only [Eo,Alg.cl,Alg.cg,Alg.rb,Alg.bd,Alg.l1,Tup.q,Tup.o]
  simp (disch:=omega) only [RR,RB,hp1 b (by omega),hf1 b (by omega),hp3 b hb,hf3 b hb]
  refine⟨fun _=>Nat.zero_le _,fun h=> ?_⟩
  have ok:=bX.1 h
  have n48:=ok.sz
  refine aA (fun(y:Int×Int×Int×Int×Int×Int×Int×Int×Int×Int×Int×Int×Int×List Int×List Int×List IOp×Unit)=>0≤y.1∧y.1≤b.ops.length∧y.2.2.2.2.2.2.2.2.2.1=b.fin∧y.2.2.2.2.2.2.2.2.2.2.1=b.x∧y.2.2.2.2.2.2.2.2.2.2.2.1=b.y∧(y.2.2.2.2.2.2.2.2.2.2.2.2.2.1.length:Int)=y.1∧y.2.2.2.2.2.2.2.2.2.2.2.2.2.2.1.length=4∧
    y.2.2.2.2.2.2.2.2.2.2.2.2.2.2.2.1.length=b.ops.length∧∀j:Int,y.1≤j→((y.2.2.2.2.2.2.2.2.2.2.2.2.2.2.2.1).getD (j).toNat default)=((b.ops).getD (j).toNat default)) (fun y=>((b.ops.length:Int)-y.1).toNat) ⟨by dsimp only;omega,by dsimp only;omega,rfl,rfl,rfl,rfl,rfl,rfl,fun _ _=>rfl⟩ ?_
  rintro⟨(k:Int),u1,u2,u3,u4,u5,u6,b1,b2,b3,b4,b5,b6,(al:List Int),(la:List Int),(ops:List IOp),⟨⟩⟩ hI
  dsimp only at hI ⊢
  obtain⟨h1,h2,rfl,rfl,rfl,h3,h4,h5,h6⟩:=hI
  have e:=h6 k (Int.le_refl _)
  simp (disch:=omega) only [RR,RB,e,List.length_append,List.length_cons,List.length_nil,List.length_set]
  have fin:¬k<ops.length→(¬b.fin=1→0≤b.x∧b.x<al.length)∧(b.fin=3∨b.fin=4→0≤b.y∧b.y<al.length):=fun h=>⟨fun c=>by have:=ok.en.x1 c;exact⟨this.1,by have:=this.2.1;omega⟩,fun c=>by have:=ok.en.y1 (by omega);exact⟨this.1,by have:=this.2.1;omega⟩⟩
  refine⟨fun h=> ?_,fun h=> ?_⟩
  · have op:=ok.op k h1 (by omega)
    have hx:hX ((b.ops).getD (k).toNat default)→0≤((b.ops).getD (k).toNat default).x∧((b.ops).getD (k).toNat default).x< (al.length:Int):=fun c=>⟨(op.x1 c).1,by have:=(op.x1 c).2.1;omega⟩
    have hy:hY ((b.ops).getD (k).toNat default)→0≤((b.ops).getD (k).toNat default).y∧((b.ops).getD (k).toNat default).y< (al.length:Int):=fun c=>⟨(op.y1 c).1,by have:=(op.y1 c).2.1;omega⟩
    obtain⟨g1,g2⟩:=hf2 _ al hx hy
    have A:=hp2 _ al hx hy
    have k2:=op.k2
    have S:∀v j,k+1≤j→(ops.set k.toNat v).getD j.toNat default=((b.ops).getD (j).toNat default):=fun v j hj=>by
      rw [←h6 j (by omega)]
      simp only [List.getD,List.getElem?_set_ne (show k.toNat≠j.toNat by omega)]
    simp only [A]
    rw [←g1,←g2]at k2
    generalize (f2 (((b.ops).getD (k).toNat default),al,())).1=F at k2 ⊢
    repeat' (first | (refine⟨?_,?_⟩) | intro _)
    all_goals first | omega | exact True.intro | rfl | exact S _ _ (by assumption)
  · obtain⟨ex,ey⟩:=fin h
    refine⟨fun c=>⟨(ex c).1,(ex c).2,(ex c).1,(ex c).2,fun c2=>⟨(ey c2).1,(ey c2).2,(ey c2).1,(ey c2).2,by omega⟩,fun _=>by omega⟩,fun c=>⟨fun c2=>⟨(ey c2).1,(ey c2).2,(ey c2).1,(ey c2).2,by omega⟩,fun _=>by omega⟩⟩
end Go.TX.F
namespace Go.TX.F
open Go Go.AE Go.TX
structure BkD (m:Int) (n:Nat) (b:List Int) (p:Int) (y:Int×Int×Int×Int×Int×Int×List Int×Int×List IOp×Unit):Prop where
  b:y.2.2.2.2.2.2.1=b
  lo:p≤y.2.2.2.2.2.2.2.1
  hi:y.2.2.2.2.2.2.2.1≤p+m
  len:y.2.2.2.2.2.2.2.2.1.length≤n
theorem XY {p1:Int×List Ins×Unit→Bool} {f1:Int×List Ins×Unit→Int×Int×Int×Int×Int×Int×List IOp×Unit} (hp1:∀pc l,(l.length:Int)<1000→KB l→p1 (pc,l,())=true) (hf1:∀pc l,(l.length:Int)<1000→KB l→((f1 (pc,l,())).2.2.2.2.2.2.1.length:Int)≤5000) {p2:Blk×Unit→Bool} {f2:Blk×Unit→Int×Int×Int×Int×Int×Int×List IOp×Unit} (hp2:∀b,b.ops.length<1000000→p2 (b,())=true) (hf2:∀b,b.ops.length<1000000→(f2 (b,())).2.2.2.2.2.2.1.length≤b.ops.length) {p3:Blk×Unit→Bool} {f3:Blk×Unit→Int×Int×Int×Int×Int×Int×List IOp×Unit} (hp3:∀b,b.ops.length<1000000→p3 (b,())=true) (hf3:∀b,b.ops.length<1000000→(f3 (b,())).2.2.2.2.2.2.1.length≤b.ops.length) {p4:Int×List Int×Int×Unit→Bool} {f4:Int×List Int×Int×Unit→Int×List Int×Int×Unit} (hp4:∀n b p,Bt b→0≤p→p<1000000000→p4 (n,b,p,())=true) (hf4:∀n b p,Bt b→0≤p→p<1000000000→Pk n b p (f4 (n,b,p,()))) {p5:List Int×Int×Unit→Bool} {f5:List Int×Int×Unit→List Int×Int×List Ins×Unit} (hp5:∀b p,Bt b→0≤p→p<700000000→p5 (b,p,())=true) (hf5:∀b p,Bt b→0≤p→p<700000000→LiD b p (f5 (b,p,()))) (b:List Int) (p:Int) (hb:Bt b) (h1:0≤p) (h2:p<600000000):E8 (std 0) p1 f1 p2 f2 p3 f3 p4 f4 p5 f5 (b,p,()) (fun y=>BkD 2000 5000 b p y):=by
  obtain⟨a1,a2,a3,a4,a5⟩:=hf5 b p hb h1 (by omega)
  have R:=pkR hb hf4
  have P:=fun n p h1 h2=>hp4 n b p hb h1 h2
  have L:=fun pc=>hf1 pc _ (show((f5 (b,p,())).2.2.1.length:Int)<1000 by omega) a5
  have O1:=fun c (h:c.ops.length≤5000)=>hp2 c (by omega)
  have O2:=fun c (h:c.ops.length≤5000)=>hf2 c (by omega)
  have O3:=fun c (h:c.ops.length≤5000)=>hp3 c (by omega)
  have O4:=fun c (h:c.ops.length≤5000)=>hf3 c (by omega)
  dsimp only [E8,Alg.cl,Alg.cg,Alg.rb,Alg.bd,Alg.l1,Tup.q,Tup.o]
  simp (disch:=omega) only [RR,hp5 b p hb h1 (by omega),a1,R,P,hp1 _ _ (show((f5 (b,p,())).2.2.1.length:Int)<1000 by omega) a5,List.length_cons,List.length_nil]
  have L':∀pc,(f1 (pc,(f5 (b,p,())).2.2.1,())).2.2.2.2.2.2.1.length≤5000:=fun pc=>by have:=L pc;omega
  refine⟨fun _=>⟨O1 _ (L' _),rfl,by dsimp only;omega,by dsimp only;omega,Nat.le_trans (O2 _ (L' _)) (L' _)⟩,fun _=>⟨fun _=>⟨O3 _ (L' _),rfl,by dsimp only;omega,by dsimp only;omega,Nat.le_trans (O4 _ (L' _)) (L' _)⟩,fun _=>⟨rfl,by dsimp only;omega,by dsimp only;omega,L' _⟩⟩⟩
theorem XZ {p1:Int×List Int×Int×Unit→Bool} {f1:Int×List Int×Int×Unit→Int×List Int×Int×Unit} (hp1:∀n b p,Bt b→0≤p→p<1000000000→p1 (n,b,p,())=true) (hf1:∀n b p,Bt b→0≤p→p<1000000000→Pk n b p (f1 (n,b,p,()))) {p2:Blk×Unit→Bool} {f2:Blk×Unit→Int×Int×Int×Int×Int×Int×List IOp×Unit} (hp2:∀b,b.ops.length<1000000→p2 (b,())=true) (hf2:∀b,b.ops.length<1000000→f2 (b,())=(b.pc,b.len,b.fin,b.x,b.y,b.k,b.ops,())) (c:Blk) (b:List Int) (p:Int) (ok:gM c) (hc:c.ops.length<1000000) (hb:Bt b) (h1:0≤p) (h2:p<600000000):Fq (std 0) p1 f1 p2 f2 (c,b,p,()) (fun y=>BkD 1000000 c.ops.length b p y):=by
  dsimp only [Fq,Alg.cl,Alg.cg,Alg.rb,Alg.bd,Alg.l1,Tup.q,Tup.o]
  simp (disch:=omega) only [RR,RB,hp2 c hc,hf2 c hc]
  refine aA (fun(y:Int×List Int×Int×Int×Int×Int×Int×Int×Int×Int×Int×Int×Int×Int×Int×List IOp×Unit)=>0≤y.1∧y.1≤c.ops.length∧y.2.1=b∧p≤y.2.2.1∧y.2.2.1≤p+y.1∧y.2.2.2.2.2.2.2.2.2.2.2.2.2.2.2.1.length=c.ops.length∧∀j:Int,y.1≤j→((y.2.2.2.2.2.2.2.2.2.2.2.2.2.2.2.1).getD (j).toNat default)=((c.ops).getD (j).toNat default)) (fun y=>((c.ops.length:Int)-y.1).toNat) ⟨by dsimp only;omega,by dsimp only;omega,rfl,by dsimp only;omega,by dsimp only;omega,rfl,fun _ _=>rfl⟩ ?_
  rintro⟨(k:Int),(b':List Int),(q:Int),u1,u2,u3,u4,u5,u6,b1,b2,b3,b4,b5,b6,(ops:List IOp),⟨⟩⟩ hI
  dsimp only at hI ⊢
  obtain⟨k1,k2,rfl,k3,k4,k5,k6⟩:=hI
  have e:=k6 k (Int.le_refl _)
  have R:=pkR hb hf1
  have P:=fun n p h1 h2=>hp1 n b' p hb h1 h2
  simp (disch:=omega) only [RR,RB,e,R,P,List.length_set,Bool.and_eq_false_iff]
  refine⟨fun h=> ?_,fun h=>⟨rfl,k3,by dsimp only;omega,Nat.le_of_eq k5⟩⟩
  have oy:((c.ops).getD (k).toNat default).kind=3→0≤((c.ops).getD (k).toNat default).y∧((c.ops).getD (k).toNat default).y<k:=fun c3=>by have:=(ok.op k k1 (by omega)).y1 (Or.inl c3);exact⟨this.1,this.2.1⟩
  have S:∀(X:List IOp) v (j:Int),k+1≤j→(X.set k.toNat v).getD j.toNat default=X.getD j.toNat default:=fun X v j hj=>by
    simp only [List.getD,List.getElem?_set_ne (show k.toNat≠j.toNat by omega)]
  repeat' (first | (refine⟨?_,?_⟩) | intro _)
  all_goals first | omega | rfl | exact k6 _ (by omega) | (simp (disch:=omega) only [S];exact k6 _ (by omega))
end Go.TX.F
namespace Go.TX.F
open Go Go.AE Go.TX
theorem X0 {p1:Int×List Int×Int×Unit→Bool} {f1:Int×List Int×Int×Unit→Int×List Int×Int×Unit} (hp1:∀n b p,Bt b→0≤p→p<1000000000→p1 (n,b,p,())=true) (hf1:∀n b p,Bt b→0≤p→p<1000000000→Pk n b p (f1 (n,b,p,()))) {p2:Blk×Unit→Bool} {f2:Blk×Unit→Int×Int×Int×Int×Int×Int×List IOp×Unit} (hp2:∀b,b.ops.length<1000000→p2 (b,())=true) (hf2:∀b,b.ops.length<1000000→f2 (b,())=(b.pc,b.len,b.fin,b.x,b.y,b.k,b.ops,())) (c:Blk) (b:List Int) (p:Int) (hc:c.ops.length<1000000) (hb:Bt b) (h1:0≤p) (h2:p<900000000):AY (std 0) p1 f1 p2 f2 (c,b,p,()) (fun y=>BkD 20 c.ops.length b p y):=by
  have R:=pkR hb hf1
  have P:=fun n p h1 h2=>hp1 n b p hb h1 h2
  by_cases z:(c.ops.length:Int)=0
  · dsimp only [AY,Alg.cl,Alg.cg,Alg.rb,Alg.bd,Alg.l1,Tup.q,Tup.o]
    simp (disch:=omega) only [RR,RB,hp2 c hc,hf2 c hc,z]
    exact⟨rfl,by dsimp only;omega,by dsimp only;omega,Nat.le_refl _⟩
  have B:=(hf1 c.ops.length b p hb h1 (by omega)).2.2
  have W:IntKind.i64.wrap ((f1 (c.ops.length,b,p,())).1-1)=(f1 (c.ops.length,b,p,())).1-1:=w64 (by omega) (by omega)
  dsimp only [AY,Alg.cl,Alg.cg,Alg.rb,Alg.bd,Alg.l1,Tup.q,Tup.o]
  simp (disch:=omega) only [RR,RB,hp2 c hc,hf2 c hc,R,P,z,List.length_set,W]
  repeat' (first | (refine And.intro ?_ ?_) | intro _)
  all_goals first | omega | exact⟨rfl,by dsimp only;omega,by dsimp only;omega,by dsimp only [Ww];simp only [List.length_set,List.length_take,List.length_drop];omega⟩ | exact⟨rfl,by dsimp only;omega,by dsimp only;omega,by simp only [List.length_drop,List.length_take];omega⟩ | exact⟨rfl,by dsimp only;omega,by dsimp only;omega,Nat.le_refl _⟩
structure BoD (b:List Int) (p:Int) (y:Blk×List Int×Int×Unit):Prop where
  len:y.1.ops.length<100000
  b:y.2.1=b
  lo:p≤y.2.2.1
  hi:y.2.2.1≤p+5000
theorem X3 {p1:Int×List Int×Int×Unit→Bool} {f1:Int×List Int×Int×Unit→Bool×List Int×Int×Unit} (hp1:∀n b p,Bt b→0≤p→p<1000000000→p1 (n,b,p,())=true) (hf1:∀n b p,Bt b→0≤p→p<1000000000→(f1 (n,b,p,())).2.1=b∧(f1 (n,b,p,())).2.2.1=p+1) {p2:Int×List Int×Int×Unit→Bool} {f2:Int×List Int×Int×Unit→Int×List Int×Int×Unit} (hp2:∀n b p,Bt b→0≤p→p<1000000000→p2 (n,b,p,())=true) (hf2:∀n b p,Bt b→0≤p→p<1000000000→Pk n b p (f2 (n,b,p,()))) {p3:Blk×List Int×Int×Unit→Bool} {f3:Blk×List Int×Int×Unit→Int×Int×Int×Int×Int×Int×List Int×Int×List IOp×Unit} (hp3:∀c b p,c.ops.length<1000000→Bt b→0≤p→p<900000000→p3 (c,b,p,())=true) (hf3:∀c b p,c.ops.length<1000000→Bt b→0≤p→p<900000000→BkD 20 c.ops.length b p (f3 (c,b,p,()))) {p4:List Int×Int×Unit→Bool} {f4:List Int×Int×Unit→Int×Int×Int×Int×Int×Int×List Int×Int×List IOp×Unit} (hp4:∀b p,Bt b→0≤p→p<600000000→p4 (b,p,())=true) (hf4:∀b p,Bt b→0≤p→p<600000000→BkD 2000 5000 b p (f4 (b,p,()))) (n:Int) (b:List Int) (p:Int) (hb:Bt b) (h1:0≤p) (h2:p<500000000):Fp (std 0) p1 f1 p2 f2 p3 f3 p4 f4 (n,b,p,()) (fun y=>BoD b p y):=by
  obtain⟨a1,a2,a3,a4⟩:=hf4 b p hb h1 (by omega)
  have H4:=hp4 b p hb h1 (by omega)
  have R:=pkR hb hf2
  have P:=fun n p h1 h2=>hp2 n b p hb h1 h2
  have R1:=fun n p h1 h2=>(hf1 n b p hb h1 h2).1
  have R2:=fun n p h1 h2=>(hf1 n b p hb h1 h2).2
  have P1:=fun n p h1 h2=>hp1 n b p hb h1 h2
  dsimp only [Fp,Alg.cl,Alg.cg,Alg.rb,Alg.bd,Alg.l1,Tup.q,Tup.o]
  simp (disch:=omega) only [RR,RB,H4,a1,R,P,R1,R2,P1,List.length_cons,List.length_nil,List.length_append]
  repeat' (first | (refine And.intro ?_ ?_) | intro _)
  all_goals try omega
  all_goals try exact BoD.mk (show(f4 (b,p,())).2.2.2.2.2.2.2.2.1.length<100000 by omega) rfl (by dsimp only;omega) (by dsimp only;omega)
  all_goals try exact hp3 _ _ _ (show(f4 (b,p,())).2.2.2.2.2.2.2.2.1.length<1000000 by omega) hb (by omega) (by omega)
  all_goals try exact BoD.mk (show(_++ [_]).length<100000 by rw [List.length_append,List.length_singleton];omega) rfl (by dsimp only;omega) (by dsimp only;omega)
  all_goals try exact(fun h=>BoD.mk (Nat.lt_of_le_of_lt h.len (show(f4 (b,p,())).2.2.2.2.2.2.2.2.1.length<100000 by omega)) h.b (by have:=h.lo;dsimp only;omega) (by have:=h.hi;dsimp only;omega)) (hf3 _ _ _ (show(f4 (b,p,())).2.2.2.2.2.2.2.2.1.length<1000000 by omega) hb (by omega) (by omega))
  all_goals
    refine aA (fun(y:List Int×Int×Int×Int×Int×Int×Int×Int×Int×Int×Int×Int×Int×Int×List IOp×Unit)=>y.1=b∧p≤y.2.1∧y.2.1≤p+5000∧y.2.2.2.2.2.2.2.2.2.2.2.2.2.2.1.length<50000) (fun y=>50-y.2.2.2.2.2.2.2.2.2.2.2.2.2.2.1.length) ⟨rfl,by dsimp only;omega,by dsimp only;omega,by dsimp only;omega⟩ ?_
    rintro⟨(b':List Int),(q:Int),u1,u2,u3,u4,u5,u6,b1,b2,b3,b4,b5,b6,(ops:List IOp),⟨⟩⟩ hI
    dsimp only at hI ⊢
    obtain⟨rfl,h3,h4,h5⟩:=hI
    simp (disch:=omega) only [RR,List.length_append,List.length_cons,List.length_nil]
    refine⟨fun h=>⟨by omega,⟨by omega,by omega,by omega⟩,by omega⟩,fun h=>⟨show ops.length<100000 by omega,rfl,by dsimp only;omega,by dsimp only;omega⟩⟩
end Go.TX.F
namespace Go.TX.F
open Go Go.AE Go.TX
theorem X4 {p1:Blk×Unit→Bool} {f1:Blk×Unit→Bool×Unit} (hp1:∀b,b.ops.length<1000000000→p1 (b,())=true) (hf1:∀b,b.ops.length<1000000000→f1 (b,())=(bp (gM b),())) {p2:Blk×Unit→Bool} {f2:Blk×Unit→Int×Int×Int×Int×Int×Int×List IOp×Unit} (hp2:∀b,b.ops.length<1000000→p2 (b,())=true) (hf2:∀b,b.ops.length<1000000→(f2 (b,())).2.2.2.2.2.2.1.length≤b.ops.length) {p3:Blk×Unit→Bool} {f3:Blk×Unit→Int×Int×Int×Int×Int×Int×List IOp×Unit} (hp3:∀b,b.ops.length<1000000→p3 (b,())=true) (hf3:∀b,b.ops.length<1000000→(f3 (b,())).2.2.2.2.2.2.1.length≤b.ops.length) {p4:Int×List Int×Int×Unit→Bool} {f4:Int×List Int×Int×Unit→Int×List Int×Int×Unit} (hp4:∀n b p,Bt b→0≤p→p<1000000000→p4 (n,b,p,())=true) (hf4:∀n b p,Bt b→0≤p→p<1000000000→Pk n b p (f4 (n,b,p,()))) {p5:Blk×List Int×Int×Unit→Bool} {f5:Blk×List Int×Int×Unit→Int×Int×Int×Int×Int×Int×List Int×Int×List IOp×Unit} (hp5:∀c b p,c.ops.length<1000000→Bt b→0≤p→p<900000000→p5 (c,b,p,())=true) (hf5:∀c b p,c.ops.length<1000000→Bt b→0≤p→p<900000000→BkD 20 c.ops.length b p (f5 (c,b,p,()))) {p6:Int×List Int×Int×Unit→Bool} {f6:Int×List Int×Int×Unit→Blk×List Int×Int×Unit} (hp6:∀n b p,Bt b→0≤p→p<500000000→p6 (n,b,p,())=true) (hf6:∀n b p,Bt b→0≤p→p<500000000→BoD b p (f6 (n,b,p,()))) {p7:Blk×List Int×Int×Unit→Bool} {f7:Blk×List Int×Int×Unit→Int×Int×Int×Int×Int×Int×List Int×Int×List IOp×Unit} (hp7:∀c b p,gM c→c.ops.length<1000000→Bt b→0≤p→p<600000000→p7 (c,b,p,())=true) (hf7:∀c b p,gM c→c.ops.length<1000000→Bt b→0≤p→p<600000000→BkD 1000000 c.ops.length b p (f7 (c,b,p,()))) (n:Int) (b:List Int) (p:Int) (hb:Bt b) (h1:0≤p) (h2:p<400000000):Fu (std 0) p1 f1 p2 f2 p3 f3 p4 f4 p5 f5 p6 f6 p7 f7 (n,b,p,()) (fun(y:Blk×Blk×List Int×Int×Unit)=>y.1.ops.length<100000∧y.2.1.ops.length<100000∧y.2.2.1=b∧p≤y.2.2.2.1∧y.2.2.2.1≤p+10000000):=by
  have R:=pkR hb hf4
  have P:=fun n p h1 h2=>hp4 n b p hb h1 h2
  obtain⟨a1,a2,a3,a4⟩:=hf6 n b p hb h1 (by omega)
  have ne:=fun(m:Int) h1 h2=>hf6 n b m hb h1 h2
  generalize hz:(f6 (n,b,p,())).1=z at a1
  generalize hq:(f6 (n,b,p,())).2.2.1=q at a3 a4
  have D1:=hp2 z (by omega)
  have D2:=hf2 z (by omega)
  have D3:=hp3 z (by omega)
  have D4:=hf3 z (by omega)
  have B1:=fun c m (h:c.ops.length<1000000) h1 h2=>hp5 c b m h hb h1 h2
  have B2:=fun c m (h:c.ops.length<1000000) h1 h2=>hf5 c b m h hb h1 h2
  dsimp only [Fu,Alg.cl,Alg.cg,Alg.rb,Alg.bd,Alg.l1,Tup.q,Tup.o]
  simp (disch:=omega) only [RR,hp6 n b p hb h1 (by omega),hz,a2,hq,hp1 z (by omega),hf1 z (by omega),R,P,D1,D3]
  refine⟨fun _=>⟨a1,a1,by omega,by omega⟩,fun h=> ?_⟩
  have ok:=bX.1 h
  have c0:=hf7 z b (q+1) ok (by omega) hb (by omega) (by omega)
  have d0:=hp7 z b (q+1) ok (by omega) hb (by omega) (by omega)
  have l1:(f2 (z,())).2.2.2.2.2.2.1.length<1000000:=by omega
  have cl:=c0.len
  have ch:=c0.hi
  have cw:=c0.lo
  have cb:=c0.b
  refine⟨fun _=>⟨d0,a1,Nat.lt_of_le_of_lt cl a1,cb,by omega,by omega⟩,fun _=>⟨fun _=>⟨a1,Nat.lt_of_le_of_lt D2 a1,by omega,by omega⟩,fun _=>⟨fun _=>⟨d0,hp2 _ (Nat.lt_of_le_of_lt cl (by omega)),a1,Nat.lt_of_le_of_lt (hf2 _ (Nat.lt_of_le_of_lt cl (by omega))) (Nat.lt_of_le_of_lt cl a1),cb,by omega,by omega⟩,fun _=>⟨fun _=> ?_,fun _=>⟨fun _=> ?_,fun _=>⟨fun _=> ?_,fun _=>⟨fun _=> ?_,fun _=>⟨fun _=> ?_,fun _=> ?_⟩⟩⟩⟩⟩⟩⟩⟩
  · have:=B2 z (q+1) (by omega) (by omega) (by omega)
    exact⟨B1 z (q+1) (by omega) (by omega) (by omega),a1,Nat.lt_of_le_of_lt this.len a1,this.b,by have:=this.lo;omega,by have:=this.hi;omega⟩
  · have:=B2 (Nz (f2 (z,()))) (q+1) l1 (by omega) (by omega)
    exact⟨B1 (Nz (f2 (z,()))) (q+1) l1 (by omega) (by omega),a1,Nat.lt_of_le_of_lt this.len (Nat.lt_of_le_of_lt D2 a1),this.b,Int.le_trans (by omega) this.lo,Int.le_trans this.hi (by omega)⟩
  · exact⟨Nat.lt_of_le_of_lt D2 a1,a1,by omega,by omega⟩
  · obtain⟨g1,g2,g3,g4⟩:=hf6 n b (q+1) hb (by omega) (by omega)
    exact⟨hp6 n b (q+1) hb (by omega) (by omega),a1,g1,g2,by omega,by omega⟩
  · exact⟨a1,Nat.lt_of_le_of_lt D4 a1,by omega,by omega⟩
  · exact⟨a1,a1,by omega,by omega⟩
theorem X5 {p1:List Int×Unit→Bool} {f1:List Int×Unit→List Int×Int×Unit} (hp1:∀b,By b→b.length<1000000000→p1 (b,())=true) (hf1:∀b,By b→b.length<1000000000→Bt (f1 (b,())).1∧(f1 (b,())).2.1=0) {p2:Int×List Int×Int×Unit→Bool} {f2:Int×List Int×Int×Unit→Blk×Blk×List Int×Int×Unit} (hp2:∀n b p,Bt b→0≤p→p<400000000→p2 (n,b,p,())=true) (hf2:∀n b p,Bt b→0≤p→p<400000000→(f2 (n,b,p,())).1.ops.length<100000∧(f2 (n,b,p,())).2.1.ops.length<100000∧(f2 (n,b,p,())).2.2.1=b∧p≤(f2 (n,b,p,())).2.2.2.1∧(f2 (n,b,p,())).2.2.2.1≤p+10000000) (c:List Int) (hc:By c) (hl:c.length<1000000000):Fv (std 0) p1 f1 p2 f2 (c,()) (fun y=>y.1.ops.length<100000∧y.2.1.ops.length<100000):=by
  obtain⟨hb,e0⟩:=hf1 c hc hl
  generalize hbe:(f1 (c,())).1=b at hb
  obtain⟨a1,a2,a3,a4,a5⟩:=hf2 14 b 0 hb (by omega) (by omega)
  dsimp only [Fv,Alg.cl,Alg.cg,Alg.rb,Alg.bd,Alg.l1,Tup.q,Tup.o]
  simp (disch:=omega) only [RR,hp1 c hc hl,hbe,e0,hp2 14 b 0 hb (by omega) (by omega)]
  exact⟨a1,a2⟩
end Go.TX.F
namespace Go.TX.F
open Go Go.AE Go.TX
end Go.TX.F
namespace Go.TX.F
open Go Go.AE Go.TX
end Go.TX.F
