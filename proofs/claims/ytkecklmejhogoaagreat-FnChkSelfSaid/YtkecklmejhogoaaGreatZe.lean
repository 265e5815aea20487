/- Part 5 of a proof: what the last part needs. No condition. -/
import Derived.Test.YtkecklmejhogoaaGreatZd
set_option linter.all false
set_option linter.unusedSectionVars false
set_option linter.unusedVariables false
set_option linter.unusedSimpArgs false
namespace Go.TX.Seat
open Go Go.AE Go.TX Go.TX.F Go.Proofs
set_option maxRecDepth 100000
theorem anZ (A:Alg) (xu:Ct A.ah BQ): @Ru aH.z X E A [] (.seq .u (.seq .u (.seq (.seq .u (.block (.loop ⟨[(3,.c (.int .i64)),(7,.c (.rows false .iop)),(8,.c (.int .i64)),(9,.c (.int .i64))],[]⟩ (.seq .u (.seq .u (.seq (.block (.seq .u (.seq .u (.cut ⟨[(3,.c (.int .i64)),(7,.c (.rows false .iop)),(8,.c (.int .i64)),(9,.c (.int .i64))],[]⟩ (.cond .u .u))))) .u)))))) .u))) Nw Tryz.f27 [(76,⟨_,xu⟩)] (Zy A xu.pre xu.fn):=fun _=>by kernel_rfl
theorem ahF (A:Alg) (bE:Ct A.ah dK) (gP:Ct A.ah jS): @Ru aH.z X E A [] (.seq .u (.seq .u (.seq (.seq .u (.block (.loop ⟨[(0,.c (.pb 0 2 0)),(4,.c (.pb 1 7 0)),(5,.c (.pb 2 7 0)),(6,.c (.int .i64))],[.box (.agg [.rows true .u8,.int .i64]),.box (.agg [.int .i64,.int .i64,.nil,.int .i64,.int .i64,.int .i64,.int .i64]),.box (.agg [.int .i64,.int .i64,.own 3,.int .i64,.int .i64,.int .i64,.int .i64]),.rows true .iop]⟩ (.seq .u (.seq (.block (.seq .u (.seq (.seq (.cut ⟨[(0,.c (.pb 0 2 0)),(4,.c (.pb 1 7 0)),(5,.c (.pb 2 7 0)),(6,.c (.int .i64)),(7,.c (.pb 3 5 0)),(34,.c (.bool))],[.box (.agg [.rows true .u8,.int .i64]),.box (.agg [.int .i64,.int .i64,.nil,.int .i64,.int .i64,.int .i64,.int .i64]),.box (.agg [.int .i64,.int .i64,.own 4,.int .i64,.int .i64,.int .i64,.int .i64]),.box (.sv true .iop),.rows true .iop]⟩ .u) (.cut ⟨[(0,.c (.pb 0 2 0)),(4,.c (.pb 1 7 0)),(5,.c (.pb 2 7 0)),(6,.c (.int .i64)),(7,.c (.pb 3 5 0))],[.box (.agg [.rows true .u8,.int .i64]),.box (.agg [.int .i64,.int .i64,.nil,.int .i64,.int .i64,.int .i64,.int .i64]),.box (.agg [.int .i64,.int .i64,.own 4,.int .i64,.int .i64,.int .i64,.int .i64]),.box (.sv true .iop),.rows true .iop]⟩ (.cond .u .u))) (.seq (.seq .u (.cut ⟨[(0,.c (.pb 0 2 0)),(4,.c (.pb 1 7 0)),(5,.c (.pb 2 7 0)),(6,.c (.int .i64)),(7,.c (.pb 3 5 0))],[.box (.agg [.rows true .u8,.int .i64]),.box (.agg [.int .i64,.int .i64,.nil,.int .i64,.int .i64,.int .i64,.int .i64]),.box (.agg [.int .i64,.int .i64,.own 4,.int .i64,.int .i64,.int .i64,.int .i64]),.box (.sv true .iop),.rows true .iop]⟩ (.cond .u .u))) (.seq .u (.cut ⟨[(0,.c (.pb 0 2 0)),(4,.c (.pb 1 7 0)),(5,.c (.pb 2 7 0)),(6,.c (.int .i64))],[.box (.agg [.rows true .u8,.int .i64]),.box (.agg [.int .i64,.int .i64,.nil,.int .i64,.int .i64,.int .i64,.int .i64]),.box (.agg [.int .i64,.int .i64,.own 3,.int .i64,.int .i64,.int .i64,.int .i64]),.rows true .iop]⟩ (.cond .u .u))))))) .u))))) .u))) FN Tryz.f139 [(78,⟨_,bE⟩),(59,⟨_,gP⟩)] (RY A bE.pre bE.fn gP.pre gP.fn):=fun _=>by kernel_rfl
theorem ahG (A:Alg) (bV:Ct A.ah fM) (pQ:Ct A.ah uE) (jl:Ct A.ah nu) (bE:Ct A.ah dK) (pR:Ct A.ah uK) (G9:Ct A.ah ET) (Hg:Ct A.ah FN): @Ru aH.z X E A [(3,[(0,([6],[])),(1,([6],[])),(2,([4,13],[1])),(3,([5,14],[]))]),(6,[(0,([6],[])),(1,([0],[])),(2,([6],[])),(3,([20,21],[0])),(4,([4,19],[])),(5,([5,22],[]))]),(8,[(0,([6],[])),(1,([6],[])),(2,([26],[0])),(3,([4,25],[])),(4,([5,27],[]))]),(10,[(0,([6],[])),(1,([0],[])),(2,([6],[])),(3,([31,32],[0])),(4,([33],[0])),(5,([4,30],[])),(6,([5,34],[]))]),(12,[(0,([6],[])),(1,([0],[])),(2,([6],[])),(3,([38,39],[0])),(4,([4,37],[])),(5,([5,40],[]))]),(14,[(0,([6],[])),(1,([0],[])),(2,([6],[])),(3,([45],[0])),(4,([44,46],[0])),(5,([4,43],[])),(6,([5,47],[]))]),(16,[(0,([6],[])),(2,([6],[])),(1,([50],[2])),(3,([4,51],[2])),(4,([5,52],[]))]),(18,[(0,([6],[])),(1,([0],[])),(2,([1],[])),(3,([56,57],[0])),(4,([4,55],[])),(5,([5,58],[]))]),(20,[(0,([6],[])),(1,([6],[])),(2,([62],[0])),(3,([4,61],[])),(4,([5,63],[]))]),(21,[(0,([6],[])),(1,([6],[])),(2,([4,64],[1])),(3,([5,65],[]))])] .u FP Tryz.f79 [(19,⟨_,bV⟩),(25,⟨_,pQ⟩),(18,⟨_,jl⟩),(78,⟨_,bE⟩),(112,⟨_,pR⟩),(55,⟨_,G9⟩),(139,⟨_,Hg⟩)] (RZ A bV.pre bV.fn pQ.pre pQ.fn jl.pre jl.fn bE.pre bE.fn pR.pre pR.fn G9.pre G9.fn Hg.pre Hg.fn):=fun _=>by kernel_rfl
theorem ahH (A:Alg) (Hl:Ct A.ah EU) (Ho:Ct A.ah FP): @Ru aH.z X E A [] .u FQ Tryz.f36 [(56,⟨_,Hl⟩),(79,⟨_,Ho⟩)] (R3 A Hl.pre Hl.fn Ho.pre Ho.fn):=fun _=>by kernel_rfl
theorem an0 (A:Alg) (Ov:Ct A.ah Nv) (Ow:Ct A.ah Nw) (Ox:Ct A.ah MV) (Hq:Ct A.ah FQ) (bV:Ct A.ah fM): @Ru aH.z X E A [(5,[(0,([4],[])),(1,([3],[])),(3,([5],[])),(2,([17,18],[])),(4,([19,20],[])),(5,([21],[])),(6,([3,22],[])),(7,([3,22],[])),(9,([3,22],[])),(8,([22,23,24],[9])),(10,([22,26],[])),(11,([22,25,27],[])),(12,([22,28],[]))]),(7,[(0,([5],[])),(1,([30],[])),(2,([31],[])),(3,([3,32],[])),(5,([4,32],[])),(4,([32,33],[5])),(6,([32,35],[])),(7,([32,34,36],[])),(8,([32,37],[])),(9,([3,38],[])),(10,([38,39],[])),(11,([4,38],[])),(12,([38,41],[])),(13,([38,40,42],[])),(14,([32,38,43],[])),(15,([32,44],[])),(16,([3,45],[])),(17,([45,46],[])),(18,([4,45],[])),(19,([45,48],[])),(20,([45,47,49],[])),(21,([32,45,50],[])),(22,([32,51],[])),(23,([52],[])),(24,([53],[])),(25,([53,54],[])),(26,([55],[]))])] .u ade Tryz.f9 [(22,⟨_,Ov⟩),(27,⟨_,Ow⟩),(20,⟨_,Ox⟩),(36,⟨_,Hq⟩),(19,⟨_,bV⟩)] (ZF A Ov.pre Ov.fn Ow.pre Ow.fn Ox.pre Ox.fn Hq.pre Hq.fn bV.pre bV.fn):=fun _=>by kernel_rfl
end Go.TX.Seat
namespace Go.TX.Seat
open Go Go.AE Go.TX Go.TX.F Go.Proofs
set_option maxRecDepth 100000
end Go.TX.Seat
namespace Go.TX
open Go Go.AE
theorem ahI (x y:Int):bA .lss x y=decide (x<y):=rfl
theorem ahJ (x y:Int):bA .leq x y=decide (x≤y):=rfl
theorem ahK (x y:Int):bA .gtr x y=decide (y<x):=rfl
theorem ahL (x y:Int):bA .geq x y=decide (y≤x):=rfl
theorem ahM (x y:Int):bA .eql x y=decide (x=y):=rfl
theorem ahN (x y:Int):bA .neq x y= !decide (x=y):=rfl
theorem ahO (k:IntKind) (x y:Int):ji .add k x y=k.wrap (x+y):=rfl
theorem ZI (k:IntKind) (x y:Int):ji .sub k x y=k.wrap (x-y):=rfl
theorem ahP (k:IntKind) (x y:Int):ji .mul k x y=k.wrap (x*y):=rfl
theorem ahQ (k:IntKind) (x y:Int):ji .quo k x y=k.wrap (x.tdiv y):=rfl
theorem ZJ (k:IntKind) (x y:Int):ji .rem k x y=x.tmod y:=rfl
theorem w64 {x:Int} (h1: -9223372036854775808≤x) (h2:x≤9223372036854775807):IntKind.i64.wrap x=x:=IntWalk.i64_in _ (by omega)
theorem ace (m:aj):jK .mono 0 m=m.gq:=rfl
theorem acf (m:aj):oV .mono 1 .i64 m=m.atoms:=rfl
theorem ahR (p:List aj):oV .poly 0 .mono p=p:=rfl
theorem an1 (p:List Atom):oV .tab 0 .atom p=p:=rfl
theorem ahS (p:List Int):oV .ints 0 .i64 p=p:=rfl
theorem acg (m:Atom):jK .atom 0 m=m.kind:=rfl
theorem ach (m:Atom):jK .atom 1 m=m.k:=rfl
theorem aci (m:Atom):oV .atom 2 .mono m=m.x:=rfl
theorem acj (m:Atom):oV .atom 3 .mono m=m.y:=rfl
theorem an2 (n:Int):jK .i64 0 n=n:=rfl
theorem arC (n:Int):jK .u8 0 n=n:=rfl
theorem acn (x):Co.mk .mono x=⟨x.1,x.2.1⟩:=rfl
theorem aco (x):Co.mk .poly x=x.1:=rfl
theorem ahT (x):Co.mk .tab x=x.1:=rfl
theorem acp (x):Co.mk .ints x=x.1:=rfl
theorem Kz (x):Co.mk .i64 x=x.1:=rfl
theorem acr (x):Co.mk .atom x=⟨x.1,x.2.1,x.2.2.1,x.2.2.2.1⟩:=rfl
theorem aA {α ρ:Type} {f:α→(α ⊕ ρ→Prop)→Prop} {x:α} {Q:ρ→Prop} (I:α→Prop) (μ:α→Nat) (h0:I x) (hs:∀y,I y→f y (Cx (fun z _=>I z∧μ z<μ y) Q)):Ur f x Q:=⟨I,μ,h0,hs⟩
theorem ZK {α ρ:Type} (k:α→(ρ→Prop)→Prop) (Q:ρ→Prop) (x:α):Cx k Q (.inl x)=k x Q:=rfl
theorem ZL {α ρ:Type} (k:α→(ρ→Prop)→Prop) (Q:ρ→Prop) (r:ρ):Cx k Q (.inr r)=Q r:=rfl
theorem getD_lt {α:Type} {xs:List α} {d:α} {i:Nat} (h:i<xs.length):xs.getD i d=xs[i]:=by simp [List.getD,h]
theorem lG {α:Type} {xs:List α} {d:α} {i:Int} (h0:0≤i) (h:i<xs.length):xs.getD i.toNat d∈xs:=by
 rw [getD_lt (by omega)];exact List.getElem_mem _
theorem RR:(∀(x y:Int),bA BinOp.lss x y=decide (x<y))∧(∀(x y:Int),bA BinOp.leq x y=decide (x≤y))∧(∀(x y:Int),bA BinOp.gtr x y=decide (y<x))∧(∀(x y:Int),bA BinOp.geq x y=decide (y≤x))∧(∀(x y:Int),bA BinOp.eql x y=decide (x=y))∧(∀(x y:Int),bA BinOp.neq x y= !decide (x=y))∧(∀(k:IntKind) (x y:Int),ji BinOp.add k x y=k.wrap (x+y))∧(∀(k:IntKind) (x y:Int),ji BinOp.sub k x y=k.wrap (x-y))∧(∀(k:IntKind) (x y:Int),ji BinOp.mul k x y=k.wrap (x*y))∧(∀(k:IntKind) (x y:Int),ji BinOp.quo k x y=k.wrap (x.tdiv y))∧(∀(k:IntKind) (x y:Int),ji BinOp.rem k x y=x.tmod y)∧(∀ {x:Int}, -9223372036854775808≤x→x≤9223372036854775807→IntKind.i64.wrap x=x)∧(∀(m:aj),jK Co.mono 0 m=m.gq)∧(∀(m:aj),oV Co.mono 1 Co.i64 m=m.atoms)∧(∀(p:List aj),oV Co.poly 0 Co.mono p=p)∧(∀(p:List Atom),oV Co.tab 0 Co.atom p=p)∧(∀(p:List Int),oV Co.ints 0 Co.i64 p=p)∧(∀(m:Atom),jK Co.atom 0 m=m.kind)∧(∀(m:Atom),jK Co.atom 1 m=m.k)∧(∀(m:Atom),oV Co.atom 2 Co.mono m=m.x)∧(∀(m:Atom),oV Co.atom 3 Co.mono m=m.y)∧(∀(n:Int),jK Co.i64 0 n=n)∧(∀(n:Int),jK Co.u8 0 n=n)∧(∀(x:iq Co.mono.wC),Co.mono.mk x=aj.mk x.fst x.snd.fst)∧(∀(x:iq Co.poly.wC),Co.poly.mk x=x.fst)∧(∀(x:iq Co.tab.wC),Co.tab.mk x=x.fst)∧(∀(x:iq Co.ints.wC),Co.ints.mk x=x.fst)∧(∀(x:iq Co.i64.wC),Co.i64.mk x=x.fst)∧(∀(x:iq Co.atom.wC),Co.atom.mk x=Atom.mk x.fst x.snd.fst x.snd.snd.fst x.snd.snd.snd.fst)∧(∀ {α ρ:Type} (k:α→(ρ→Prop)→Prop) (Q:ρ→Prop) (x:α),Cx k Q (Sum.inl x)=k x Q)∧(∀ {α ρ:Type} (k:α→(ρ→Prop)→Prop) (Q:ρ→Prop) (r:ρ),Cx k Q (Sum.inr r)=Q r)∧(∀(c f:Bool),(bif c then true else f)=(c || f))∧(∀(c t:Bool),(bif c then t else false)=(c&&t))∧(∀(c f:Bool),(bif c then false else f)=(!c&&f))∧(∀(c t:Bool),(bif c then t else true)=(!c || t))∧(∀(a b:Bool),((a || b)=true)=(a=true∨b=true))∧(∀ {x y:Bool},(x || y)=false↔x=false∧y=false)∧(∀(a b:Bool),((a&&b)=true)=(a=true∧b=true))∧(∀ {p:Prop} [inst:Decidable p],(decide p=true)=p)∧(∀ {p:Prop} {x:Decidable p},decide p=false↔¬p)∧(∀(b:Bool),((!b)=true)=(b=false))∧(∀(b:Bool),((!b)=false)=(b=true))∧(∀(b:Bool),(!!b)=b)∧(∀(p:Prop),(True∧p)=p)∧(∀(p:Prop),(p∧True)=p)∧(∀ {α:Type} [inst:LE α] {x y:α},x≥y↔y≤x)∧(¬True)=False∧(¬False)=True∧(false=true)=False∧(true=false)=False∧(∀(p:Prop),(False→p)=True)∧(∀(p:Prop),(True→p)=p)∧(∀(α:Prop),(α→True)=True)∧(∀(α:Type),(∀(a:α),True)=True)∧(∀(p:Prop),(False∨p)=p)∧(∀(p:Prop),(p∨False)=p)∧(∀(p:Prop),(True∨p)=True)∧(∀(p:Prop),(p∨True)=True)∧(∀ {α:Type} {x:Decidable True} (t e:α),(if True then t else e)=t)∧∀ {α:Type} {x:Decidable False} (t e:α),(if False then t else e)=e:=And.intro (@ahI)<| And.intro (@ahJ)<| And.intro (@ahK)<| And.intro (@ahL)<| And.intro (@ahM)<| And.intro (@ahN)<| And.intro (@ahO)<| And.intro (@ZI)<| And.intro (@ahP)<| And.intro (@ahQ)<| And.intro (@ZJ)<| And.intro (@w64)<| And.intro (@ace)<| And.intro (@acf)<| And.intro (@ahR)<| And.intro (@an1)<| And.intro (@ahS)<| And.intro (@acg)<| And.intro (@ach)<| And.intro (@aci)<| And.intro (@acj)<| And.intro (@an2)<| And.intro (@arC)<| And.intro (@acn)<| And.intro (@aco)<| And.intro (@ahT)<| And.intro (@acp)<| And.intro (@Kz)<| And.intro (@acr)<| And.intro (@ZK)<| And.intro (@ZL)<| And.intro (@Bool.cond_true_left)<| And.intro (@Bool.cond_false_right)<| And.intro (@Bool.cond_false_left)<| And.intro (@Bool.cond_true_right)<| And.intro (@Bool.or_eq_true)<| And.intro (@Bool.or_eq_false_iff)<| And.intro (@Bool.and_eq_true)<| And.intro (@decide_eq_true_eq)<| And.intro (@decide_eq_false_iff_not)<| And.intro (@Bool.not_eq_true')<| And.intro (@Bool.not_eq_false')<| And.intro (@Bool.not_not)<| And.intro (@true_and)<| And.intro (@and_true)<| And.intro (@ge_iff_le.{0})<| And.intro (@not_true_eq_false)<| And.intro (@not_false_eq_true)<| And.intro (@Bool.false_eq_true)<| And.intro (@Bool.true_eq_false)<| And.intro (@false_implies)<| And.intro (@true_implies)<| And.intro (@implies_true.{0})<| And.intro (@implies_true.{1})<| And.intro (@false_or)<| And.intro (@or_false)<| And.intro (@true_or)<| And.intro (@or_true)<| And.intro (@if_true.{1})<| @if_false.{1}
end Go.TX
namespace Go.TX.F
open Go Go.AE Go.TX
def inB (a lo hi:Int):Bool:=decide (lo≤a)&&decide (a≤hi)
theorem adp (a b c:Int):XV (std 0) (a,b,c,()) (fun y=>y=(inB a b c,())):=by
 dsimp only [XV,Alg.cl,Alg.cg,Alg.rb,Alg.bd,Alg.l1,Tup.q,Tup.o]
 simp (disch:=omega) only [RR]
 rfl
theorem adq {p:Int×Int×Int×Unit→Bool} {f:Int×Int×Int×Unit→Bool×Unit} (hp:∀a b c,p (a,b,c,())=true) (hf:∀a b c,f (a,b,c,())=(inB a b c,())) (a:Int):XW (std 0) p f (a,()) (fun y=>y=(inB a 0 65535,())):=by
 dsimp only [XW,Alg.cl,Alg.cg,Alg.rb,Alg.bd,Alg.l1,Tup.q,Tup.o]
 simp (disch:=omega) only [RR,hp,hf]
theorem adr {p:Int×Int×Int×Unit→Bool} {f:Int×Int×Int×Unit→Bool×Unit} (hp:∀a b c,p (a,b,c,())=true) (hf:∀a b c,f (a,b,c,())=(inB a b c,())) (a:Int):X0 (std 0) p f (a,()) (fun y=>y=(inB a 1 5,())):=by
 dsimp only [X0,Alg.cl,Alg.cg,Alg.rb,Alg.bd,Alg.l1,Tup.q,Tup.o]
 simp (disch:=omega) only [RR,hp,hf]
theorem ads {p:Int×Int×Int×Unit→Bool} {f:Int×Int×Int×Unit→Bool×Unit} (hp:∀a b c,p (a,b,c,())=true) (hf:∀a b c,f (a,b,c,())=(inB a b c,())) (a:Int):XZ (std 0) p f (a,()) (fun y=>y=(inB a 0 3,())):=by
 dsimp only [XZ,Alg.cl,Alg.cg,Alg.rb,Alg.bd,Alg.l1,Tup.q,Tup.o]
 simp (disch:=omega) only [RR,hp,hf]
theorem an3 (a:Int):afF (std 0) (a,()) (fun y=>y=(false,())):=by
 dsimp only [afF,Alg.cl,Alg.cg,Alg.rb,Alg.bd,Alg.l1,Tup.q,Tup.o]
 simp (disch:=omega) only [RR]
 simp
def nI (a b:Int):Int:=if a<b then-1 else if b<a then 1 else 0
theorem arD {p:Int×Unit→Bool} {f:Int×Unit→Bool×Unit} (hp:∀a,p (a,())=true) (hf:∀a,f (a,())=(false,())) (a b:Int):afG (std 0) p f (a,b,()) (fun y=>y=(nI a b,())):=by
 dsimp only [afG,Alg.cl,Alg.cg,Alg.rb,Alg.bd,Alg.l1,Tup.q,Tup.o]
 simp (disch:=omega) only [RR,hp,hf]
 unfold nI
 refine⟨fun h=>by simp [h],fun h=>⟨fun h2=>by simp [h,h2],fun h2=>by simp [h,h2]⟩⟩
theorem arE {p:Int×Unit→Bool} {f:Int×Unit→Bool×Unit} (hp:∀a,p (a,())=true) (hf:∀a,f (a,())=(false,())) (a b:Int):afK (std 0) p f (a,b,()) (fun y=>y=(decide (a<b),())):=by
 dsimp only [afK,Alg.cl,Alg.cg,Alg.rb,Alg.bd,Alg.l1,Tup.q,Tup.o]
 simp (disch:=omega) only [RR,hp,hf]
 simp
def or2 (a b:Int):Int:=if a≠0 then a else b
theorem an4 (a b:Int):afH (std 0) ([a,b],()) (fun y=>y=(or2 a b,())):=by
 dsimp only [afH,Alg.cl,Alg.cg,Alg.rb,Alg.bd,Alg.l1,Tup.q,Tup.o]
 refine aA (fun(y:Int×List Int×Int×Int×Unit)=>y.1=0∧y.2.1=[a,b]∧y.2.2.1=2∧0≤y.2.2.2.1∧y.2.2.2.1≤2∧(0<y.2.2.2.1→a=0)∧(1<y.2.2.2.1→b=0)) (fun y=>(2-y.2.2.2.1).toNat) ⟨rfl,rfl,rfl,by simp,by simp,fun h=>absurd h (by simp),fun h=>absurd h (by simp)⟩ ?_
 rintro⟨(z:Int),(l:List Int),(n:Int),(i:Int),⟨⟩⟩ hI
 dsimp only at hI ⊢
 obtain⟨rfl,rfl,rfl,h1,h2,h3,h4⟩:=hI
 simp (disch:=omega) only [RR]
 have hi:i=0∨i=1∨i=2:=by omega
 rcases hi with rfl | rfl | rfl
 ·by_cases ha:a=0<;>simp [or2,ha]<;>(try omega)
 ·have:=h3 (by omega)
  by_cases hb:b=0<;>simp [or2,this,hb]<;>(try omega)
 ·have:=h3 (by omega)
  have:=h4 (by omega)
  simp [or2, *]
def kN:List Int→List Int→Int
 | [],[]=>0
 | [],_::_=> -1
 | _::_,[]=>1
 | a::az,b::bs=>if nI a b≠0 then nI a b else kN az bs
theorem Ji (a b:List Int) (i:Nat):(h1:i<a.length)→(h2:i<b.length)→kN (a.drop i) (b.drop i)=if nI a[i] b[i]≠0 then nI a[i] b[i]else kN (a.drop (i+1)) (b.drop (i+1)):=by
 intro h1 h2
 rw [List.drop_eq_getElem_cons h1,List.drop_eq_getElem_cons h2];rfl
theorem ZM (l:List Int) (h:l≠ []):kN l []=1:=by cases l<;>simp_all [kN]
theorem an5 {p:Int×Int×Unit→Bool} {f:Int×Int×Unit→Int×Unit} (hp:∀a b,p (a,b,())=true) (hf:∀a b,f (a,b,())=(nI a b,())) (a b:List Int) (ha:a.length<1000000000):
  Yl (std 0) p f (a,b,()) (fun y=>y=(kN a b,())):=by
 dsimp only [Yl,Alg.cl,Alg.cg,Alg.rb,Alg.bd,Alg.l1,Tup.q,Tup.o]
 refine aA (fun(y:List Int×List Int×List Int×Int×Int×Unit)=>y.1=a∧y.2.1=b∧y.2.2.1=a∧y.2.2.2.1=a.length∧0≤y.2.2.2.2.1∧y.2.2.2.2.1≤a.length∧y.2.2.2.2.1≤b.length∧kN a b=kN (a.drop y.2.2.2.2.1.toNat) (b.drop y.2.2.2.2.1.toNat))
  (fun y=>(a.length-y.2.2.2.2.1).toNat) ⟨rfl,rfl,rfl,rfl,by simp,by simp,by simp,by simp⟩ ?_
 rintro⟨(l1:List Int),(l2:List Int),(l3:List Int),(n:Int),(i:Int),⟨⟩⟩ hI
 dsimp only at hI ⊢
 obtain⟨rfl,rfl,rfl,rfl,h1,h2,h3,h4⟩:=hI
 simp (disch:=omega) only [RR,hp,hf]
 refine⟨fun hi=>⟨h1,hi,fun hj=> ?_,fun hj=>⟨h1,by omega,fun hc=> ?_,fun hc=> ?_⟩⟩,fun hi=>⟨fun hj=> ?_,fun hj=> ?_⟩⟩
 ·rw [h4,List.drop_eq_nil_of_le (show l2.length≤i.toNat by omega),ZM _ (by simp;omega)]
 ·rw [h4,Ji l3 l2 i.toNat (by omega) (by omega)]
  rw [getD_lt (by omega),getD_lt (by omega)]at hc
  rw [getD_lt (by omega),getD_lt (by omega),if_pos hc]
 ·rw [getD_lt (by omega),getD_lt (by omega)]at hc
  refine⟨⟨by omega,by omega,by omega,?_⟩,by omega⟩
  rw [h4,Ji l3 l2 i.toNat (by omega) (by omega),if_neg (by simpa using hc),show(i+1).toNat=i.toNat+1 by omega]
 ·rw [h4,List.drop_eq_nil_of_le (show l3.length≤i.toNat by omega)]
  have:∃q r,l2.drop i.toNat=q::r:=by
   cases hq:l2.drop i.toNat with
   | nil=>have:=congrArg List.length hq;simp at this;omega
   | cons q r=>exact⟨q,r,rfl⟩
  obtain⟨q,r,hq⟩:=this
  rw [hq];rfl
 ·rw [h4,List.drop_eq_nil_of_le (show l3.length≤i.toNat by omega),List.drop_eq_nil_of_le (show l2.length≤i.toNat by omega)];rfl
def dZ (a b:List Int):Int:=or2 (nI a.length b.length) (kN a b)
theorem an6 {p1:Int×Int×Unit→Bool} {f1:Int×Int×Unit→Int×Unit} (hp1:∀a b,p1 (a,b,())=true) (hf1:∀a b,f1 (a,b,())=(nI a b,()))
  {p2:List Int×List Int×Unit→Bool} {f2:List Int×List Int×Unit→Int×Unit} (hp2:∀a b,a.length<1000000000→p2 (a,b,())=true) (hf2:∀a b,a.length<1000000000→f2 (a,b,())=(kN a b,()))
  {p3:List Int×Unit→Bool} {f3:List Int×Unit→Int×Unit} (hp3:∀a b,p3 ([a,b],())=true) (hf3:∀a b,f3 ([a,b],())=(or2 a b,())) (a b:List Int) (ha:a.length<1000000000):
  Ym (std 0) p3 f3 p1 f1 p2 f2 (a,b,()) (fun y=>y=(dZ a b,())):=by
 dsimp only [Ym,Alg.cl,Alg.cg,Alg.rb,Alg.bd,Alg.l1,Tup.q,Tup.o]
 simp (disch:=omega) only [RR,hp1,hf1,hp2 a b ha,hf2 a b ha,hp3,hf3]
 rfl
end Go.TX.F
namespace Go.TX.F
open Go Go.AE Go.TX
noncomputable def bp (P:Prop):Bool:= @decide P (Classical.propDecidable P)
theorem bN {P:Prop} (h:P):bp P=true:=by simp [bp,h]
theorem gU {P:Prop} (h:¬P):bp P=false:=by simp [bp,h]
theorem bQ {P:Prop}:bp P=true↔P:=by simp [bp]
theorem uP {P:Prop}:bp P=false↔¬P:=by simp [bp]
theorem uQ {P Q:Prop}:bp (P∧Q)=(bp P&&bp Q):=by by_cases h1:P<;>by_cases h2:Q<;>simp [bp,h1,h2]
theorem uR {P Q:Prop} (h:P↔Q):bp P=bp Q:=by simp [bp,h]
def All (n:Int) (G:Int→Prop):Prop:=∀j,0≤j→j<n→G j
theorem All.zero {G:Int→Prop}:All 0 G:=fun j h1 h2=>absurd h2 (by omega)
theorem All.snoc {n:Int} {G:Int→Prop} (h:All n G) (hi:G n):All (n+1) G:=fun j h1 h2=>by
 by_cases hj:j=n
 ·exact hj▸hi
 ·exact h j h1 (by omega)
theorem All.le {n m:Int} {G:Int→Prop} (h:All n G) (hi:m≤n):All m G:=fun j h1 h2=>h j h1 (by omega)
def Idx (n:Int) (G:Int→Prop) (r:Int):Prop:=(r= -1∧All n (fun j=>¬G j))∨(0≤r∧r<n∧G r∧All r (fun j=>¬G j))
theorem Idx.ge {n:Int} {G:Int→Prop} {r:Int} (h:Idx n G r):(0≤r)↔¬All n (fun j=>¬G j):=by
 rcases h with⟨rfl,h⟩ | ⟨h1,h2,h3,h4⟩
 ·simp [h]
 ·simp only [h1,true_iff];exact fun h=>h r h1 h2 h3
def Srt (l:List Int):Prop:=All (l.length-1) (fun i=>l.getD i.toNat default≤l.getD (i+1).toNat default)
theorem ahU {p:Int×Int×Unit→Bool} {f:Int×Int×Unit→Bool×Unit} (hp:∀a b,p (a,b,())=true) (hf:∀a b,f (a,b,())=(decide (a<b),())) (a:List Int) (ha:a.length<1000000000):
  Rv (std 0) p f (a,()) (fun y=>y=(bp (Srt a),())):=by
 dsimp only [Rv,Alg.cl,Alg.cg,Alg.rb,Alg.bd,Alg.l1,Tup.q,Tup.o]
 simp (disch:=omega) only [RR,hp,hf]
 refine aA (fun(y:List Int×Int×Unit)=>y.1=a∧ -1≤y.2.1∧y.2.1≤a.length-1∧∀j,y.2.1≤j→0≤j→j< (a.length:Int)-1→a.getD j.toNat default≤a.getD (j+1).toNat default) (fun y=>(y.2.1+1).toNat) ⟨rfl,by simp;omega,by simp,by simp;omega⟩ ?_
 rintro⟨(l:List Int),(i:Int),⟨⟩⟩ hI
 dsimp only at hI ⊢
 obtain⟨rfl,h1,h2,h3⟩:=hI
 simp (disch:=omega) only [RR,hp,hf]
 refine⟨fun h4=>⟨by omega,by omega,by omega,by omega,fun h5=> ?_,fun h5=>⟨⟨by omega,by omega,fun j h6 h7 h8=> ?_⟩,by omega⟩⟩,fun h4=> ?_⟩
 ·rw [gU]
  intro h;have:=h (i-1) (by omega) (by omega)
  dsimp only at this
  rw [show i-1+1=i by omega]at this;omega
 ·by_cases hj:j=i-1
  ·subst hj;rw [show i-1+1=i by omega];omega
  ·exact h3 j (by omega) h7 h8
 ·rw [bN]
  exact fun j h6 h7=>h3 j (by omega) h6 h7
theorem adt (a n:Int):Yh (std 0) (a,n,()) (fun y=>y=(decide (n≤a),n,())):=by
 dsimp only [Yh,Alg.cl,Alg.cg,Alg.rb,Alg.bd,Alg.l1,Tup.q,Tup.o]
 simp (disch:=omega) only [RR]
theorem ahV {p:Int×Int×Unit→Bool} {f:Int×Int×Unit→Bool×Int×Unit} (hp:∀a b,p (a,b,())=true) (hf:∀a b,f (a,b,())=(decide (b≤a),b,())) (a:List Int) (n:Int) (ha:a.length<1000000000):
  Rs (std 0) p f (a,n,()) (fun y=>Idx a.length (fun i=>n≤a.getD i.toNat default) y.1∧y.2.1=n):=by
 dsimp only [Rs,Alg.cl,Alg.cg,Alg.rb,Alg.bd,Alg.l1,Tup.q,Tup.o]
 refine aA (fun(y:List Int×Int×Int×Int×Unit)=>y.1=a∧y.2.1=a.length∧y.2.2.2.1=n∧0≤y.2.2.1∧y.2.2.1≤a.length∧All y.2.2.1 (fun i=>¬n≤a.getD i.toNat default)) (fun y=>(a.length-y.2.2.1).toNat) ⟨rfl,rfl,rfl,by simp,by simp,All.zero⟩ ?_
 rintro⟨(l:List Int),(m:Int),(i:Int),(n':Int),⟨⟩⟩ hI
 dsimp only at hI ⊢
 obtain⟨rfl,rfl,rfl,h1,h2,h3⟩:=hI
 simp (disch:=omega) only [RR,hp,hf]
 refine⟨fun h4=>⟨by omega,by omega,fun h5=> ?_,fun h5=>⟨⟨by omega,by omega,h3.snoc h5⟩,by omega⟩⟩,fun h4=> ?_⟩
 ·exact Or.inr ⟨by omega,by omega,h5,h3⟩
 ·exact Or.inl ⟨rfl,h3.le (by omega)⟩
theorem ahW {p:List Int×Int×Unit→Bool} {f:List Int×Int×Unit→Int×Int×Unit} (hp:∀a b,a.length<1000000000→p (a,b,())=true)
  (hf:∀a n,a.length<1000000000→Idx a.length (fun i=>n≤a.getD i.toNat default) (f (a,n,())).1∧(f (a,n,())).2.1=n) (a:List Int) (n:Int) (ha:a.length<1000000000):
  Rt (std 0) p f (a,n,()) (fun y=>y=(bp (¬All a.length (fun i=>¬n≤a.getD i.toNat default)),n,())):=by
 obtain⟨h1,h2⟩:=hf a n ha
 dsimp only [Rt,Alg.cl,Alg.cg,Alg.rb,Alg.bd,Alg.l1,Tup.q,Tup.o]
 simp (disch:=omega) only [RR,hp a n ha,h2]
 rw [show decide ((0:Int)≤(f (a,n,())).1)=bp (¬All a.length (fun i=>¬n≤a.getD i.toNat default))from ?_]
 rw [←uR h1.ge];simp [bp]
def R4 (n:Int) (m:aj):Prop:=All m.atoms.length (fun i=>¬n≤m.atoms.getD i.toNat default)
def bg (p:List aj) (n:Int):Prop:=All p.length (fun i=>R4 n (p.getD i.toNat default))
def Sh (p:List aj):Prop:=p.length<1000000000∧∀m∈p,m.atoms.length<1000000000
theorem Sh.at {p:List aj} (h:Sh p) (n:Nat):(p.getD n default).atoms.length<1000000000:=by
 by_cases h1:n<p.length
 ·rw [getD_lt h1];exact h.2 _ (List.getElem_mem _)
 ·simp only [List.getD,List.getElem?_eq_none (by omega:p.length≤n)];decide
theorem an7 {p:List Int×Int×Unit→Bool} {f:List Int×Int×Unit→Bool×Int×Unit} (hp:∀a b,a.length<1000000000→p (a,b,())=true)
  (hf:∀a n,a.length<1000000000→f (a,n,())=(bp (¬All a.length (fun i=>¬n≤a.getD i.toNat default)),n,())) (a:List aj) (n:Int) (ha:Sh a):
  Yi (std 0) p f (a,n,()) (fun y=>y=(bp (bg a n),())):=by
 have hlen:=ha.1
 dsimp only [Yi,Alg.cl,Alg.cg,Alg.rb,Alg.bd,Alg.l1,Tup.q,Tup.o]
 refine aA (fun(y:List aj×Int×Int×Int×Unit)=>y.1=a∧y.2.1=a.length∧y.2.2.2.1=n∧0≤y.2.2.1∧y.2.2.1≤a.length∧All y.2.2.1 (fun i=>R4 n (a.getD i.toNat default))) (fun y=>(a.length-y.2.2.1).toNat) ⟨rfl,rfl,rfl,by simp,by simp,All.zero⟩ ?_
 rintro⟨(l:List aj),(m:Int),(i:Int),(n':Int),⟨⟩⟩ hI
 dsimp only at hI ⊢
 obtain⟨rfl,rfl,rfl,h1,h2,h3⟩:=hI
 simp (disch:=omega) only [RR]
 refine⟨fun h4=> ?_,fun h4=> ?_⟩
 ·have h5:=ha.at i.toNat
  rw [hp _ _ h5,hf _ _ h5]
  refine⟨by omega,by omega,rfl,fun h6=> ?_,fun h6=>⟨⟨rfl,by omega,by omega,h3.snoc ?_⟩,by omega⟩⟩
  ·rw [gU (fun h=> ?_)]
   exact bQ.1 h6 (h i h1 h4)
  ·exact Classical.byContradiction (fun h=>uP.1 h6 h)
 ·rw [bN (show bg l n' from h3.le (by omega))]
theorem adu (m:aj):Yp (std 0) (m,()) (fun y=>y=(bp (0<m.atoms.length∧m.atoms.getD 0 default<0),())):=by
 dsimp only [Yp,Alg.cl,Alg.cg,Alg.rb,Alg.bd,Alg.l1,Tup.q,Tup.o]
 simp (disch:=omega) only [RR]
 refine⟨by omega,by omega,?_⟩
 rw [uQ]
 by_cases h1:0<m.atoms.length
 ·by_cases h2:m.atoms.getD 0 default<0
  ·rw [bN h1,bN h2,show Int.toNat 0=0 from rfl,decide_eq_true h2,decide_eq_true (by omega)]
  ·rw [bN h1,gU h2,show Int.toNat 0=0 from rfl,decide_eq_false h2,Bool.and_false,Bool.and_false]
 ·rw [gU h1,decide_eq_false (by omega),Bool.false_and,Bool.false_and]
theorem ahX {p:aj×Unit→Bool} {f:aj×Unit→Bool×Unit} (G:aj→Prop) (hp:∀a,p (a,())=true) (hf:∀a,f (a,())=(bp (G a),())) (a:List aj) (ha:a.length<1000000000):
  Rw (std 0) p f (a,()) (fun y=>Idx a.length (fun i=>G (a.getD i.toNat default)) y.1):=by
 dsimp only [Rw,Alg.cl,Alg.cg,Alg.rb,Alg.bd,Alg.l1,Tup.q,Tup.o]
 refine aA (fun(y:List aj×Int×Int×Unit)=>y.1=a∧y.2.1=a.length∧0≤y.2.2.1∧y.2.2.1≤a.length∧All y.2.2.1 (fun i=>¬G (a.getD i.toNat default))) (fun y=>(a.length-y.2.2.1).toNat) ⟨rfl,rfl,by simp,by simp,All.zero⟩ ?_
 rintro⟨(l:List aj),(m:Int),(i:Int),⟨⟩⟩ hI
 dsimp only at hI ⊢
 obtain⟨rfl,rfl,h1,h2,h3⟩:=hI
 simp (disch:=omega) only [RR,hp,hf]
 refine⟨fun h4=>⟨by omega,by omega,fun h5=> ?_,fun h5=>⟨⟨by omega,by omega,h3.snoc (uP.1 h5)⟩,by omega⟩⟩,fun h4=> ?_⟩
 ·exact Or.inr ⟨by omega,by omega,bQ.1 h5,h3⟩
 ·exact Or.inl ⟨rfl,h3.le (by omega)⟩
theorem ahY {p:List aj×Unit→Bool} {f:List aj×Unit→Int×Unit} (G:aj→Prop) (hp:∀a,a.length<1000000000→p (a,())=true)
  (hf:∀a,a.length<1000000000→Idx a.length (fun i=>G (a.getD i.toNat default)) (f (a,())).1) (a:List aj) (ha:a.length<1000000000):
  Rx (std 0) p f (a,()) (fun y=>y=(bp (¬All a.length (fun i=>¬G (a.getD i.toNat default))),())):=by
 have h1:=hf a ha
 dsimp only [Rx,Alg.cl,Alg.cg,Alg.rb,Alg.bd,Alg.l1,Tup.q,Tup.o]
 simp (disch:=omega) only [RR,hp a ha]
 rw [show decide ((0:Int)≤(f (a,())).1)=bp (¬All a.length (fun i=>¬G (a.getD i.toNat default)))from ?_]
 rw [←uR h1.ge];simp [bp]
def mOk (m:aj):Prop:=(1≤m.gq∧m.gq≤65535)∧m.atoms.length≤4∧Srt m.atoms
def aO (p:List aj):Prop:=All p.length (fun i=>mOk (p.getD i.toNat default)∧(0<i→dZ (p.getD (i-1).toNat default).atoms (p.getD i.toNat default).atoms<0))∧p.length≤12∧bg p 200
 ∧All p.length (fun i=>¬(0< (p.getD i.toNat default).atoms.length∧(p.getD i.toNat default).atoms.getD 0 default<0))
theorem an8 {p1:Int×Int×Int×Unit→Bool} {f1:Int×Int×Int×Unit→Bool×Unit} (hp1:∀a b c,p1 (a,b,c,())=true) (hf1:∀a b c,f1 (a,b,c,())=(inB a b c,()))
  {p2:List aj×Int×Unit→Bool} {f2:List aj×Int×Unit→Bool×Unit} (hp2:∀a n,Sh a→p2 (a,n,())=true) (hf2:∀a n,Sh a→f2 (a,n,())=(bp (bg a n),()))
  {p3:List Int×Unit→Bool} {f3:List Int×Unit→Bool×Unit} (hp3:∀a,a.length<1000000000→p3 (a,())=true) (hf3:∀a,a.length<1000000000→f3 (a,())=(bp (Srt a),()))
  {p4:List Int×List Int×Unit→Bool} {f4:List Int×List Int×Unit→Int×Unit} (hp4:∀a b,a.length<1000000000→p4 (a,b,())=true) (hf4:∀a b,a.length<1000000000→f4 (a,b,())=(dZ a b,()))
  {p5:List aj×Unit→Bool} {f5:List aj×Unit→Bool×Unit} (hp5:∀a,a.length<1000000000→p5 (a,())=true) (hf5:∀a,a.length<1000000000→f5 (a,())=(bp (¬All a.length (fun i=>¬(0< (a.getD i.toNat default).atoms.length∧(a.getD i.toNat default).atoms.getD 0 default<0))),()))
  (a:List aj) (ha:Sh a):Yq (std 0) p1 f1 p2 f2 p3 f3 p4 f4 p5 f5 (a,()) (fun y=>y=(bp (aO a),())):=by
 have hlen:=ha.1
 dsimp only [Yq,Alg.cl,Alg.cg,Alg.rb,Alg.bd,Alg.l1,Tup.q,Tup.o]
 refine aA (fun(y:List aj×Int×Int×List aj×Unit)=>y.1=a∧y.2.1=a.length∧y.2.2.2.1=a∧0≤y.2.2.1∧y.2.2.1≤a.length∧All y.2.2.1 (fun i=>mOk (a.getD i.toNat default)∧(0<i→dZ (a.getD (i-1).toNat default).atoms (a.getD i.toNat default).atoms<0))) (fun y=>(a.length-y.2.2.1).toNat) ⟨rfl,rfl,rfl,by simp,by simp,All.zero⟩ ?_
 rintro⟨(l:List aj),(m:Int),(i:Int),(l':List aj),⟨⟩⟩ hI
 dsimp only at hI ⊢
 obtain⟨rfl,rfl,rfl,h1,h2,h3⟩:=hI
 simp (disch:=omega) only [RR,hp1,hf1,hp2 l' _ ha,hf2 l' _ ha,hp5 l' hlen,hf5 l' hlen]
 refine⟨fun h4=> ?_,fun h4=> ?_⟩
 ·simp (disch:=omega) only [RR,hp3 _ (ha.at _),hf3 _ (ha.at _),hp4 _ _ (ha.at _),hf4 _ _ (ha.at _),bQ,uP,inB]
  refine⟨by omega,by omega,by by_cases h:i≤0<;>simp [h]<;>omega,by omega,fun h5=> ?_,fun h5=>⟨⟨by omega,by omega,h3.snoc ?_⟩,by omega⟩⟩
  ·rw [gU (fun h=> ?_)]
   have:=h.1 i h1 h4
   dsimp only [mOk]at this
   obtain⟨⟨h6,h7,h8⟩,h9⟩:=this
   rcases h5 with((h5 | h5) | h5) | ⟨h5,h10⟩
   ·simp [-List.getD_eq_getElem?_getD]at h5;omega
   ·omega
   ·exact h5 h8
   ·have:=h9 h5;omega
  ·refine⟨⟨by omega,by omega,h5.1.2⟩,fun h6=> ?_⟩
   have:=h5.2;simp only [decide_eq_true h6,Bool.true_and,decide_eq_false_iff_not]at this;omega
 ·unfold aO
  rw [show All (↑l'.length) (fun i=>mOk (l'.getD i.toNat default)∧(0<i→dZ (l'.getD (i-1).toNat default).atoms (l'.getD i.toNat default).atoms<0))=True from eq_true (h3.le (by omega))]
  rw [true_and,uQ,uQ,Bool.and_assoc]
  refine congrArg (fun b=>(b,())) ?_
  congr 1
  ·by_cases h:l'.length≤12<;>simp [bp,h]<;>omega
  ·congr 1
   simp [bp]
def Hr (a b:aj):Int:=or2 (dZ a.atoms b.atoms) (nI a.gq b.gq)
def zw:List aj→List aj→Int
 | a::az,b::bs=>if Hr a b≠0 then Hr a b else zw az bs
 | _,_=>0
def dP (a b:List aj):Int:=if nI a.length b.length≠0 then nI a.length b.length else zw a b
theorem Jj (a b:List aj) (i:Nat):(h1:i<a.length)→(h2:i<b.length)→zw (a.drop i) (b.drop i)=if Hr a[i] b[i]≠0 then Hr a[i] b[i]else zw (a.drop (i+1)) (b.drop (i+1)):=by
 intro h1 h2
 rw [List.drop_eq_getElem_cons h1,List.drop_eq_getElem_cons h2];rfl
theorem an9 {p1:List Int×Unit→Bool} {f1:List Int×Unit→Int×Unit} (hp1:∀a b,p1 ([a,b],())=true) (hf1:∀a b,f1 ([a,b],())=(or2 a b,()))
  {p2:Int×Int×Unit→Bool} {f2:Int×Int×Unit→Int×Unit} (hp2:∀a b,p2 (a,b,())=true) (hf2:∀a b,f2 (a,b,())=(nI a b,()))
  {p4:List Int×List Int×Unit→Bool} {f4:List Int×List Int×Unit→Int×Unit} (hp4:∀a b,a.length<1000000000→p4 (a,b,())=true) (hf4:∀a b,a.length<1000000000→f4 (a,b,())=(dZ a b,()))
  (a b:List aj) (ha:Sh a):Yt (std 0) p1 f1 p2 f2 p4 f4 (a,b,()) (fun y=>y=(dP a b,())):=by
 have hlen:=ha.1
 dsimp only [Yt,Alg.cl,Alg.cg,Alg.rb,Alg.bd,Alg.l1,Tup.q,Tup.o]
 simp (disch:=omega) only [RR,hp2,hf2]
 refine⟨fun h=>by rw [dP,if_pos h],fun h=> ?_⟩
 have hl:a.length=b.length:=by unfold nI at h;split at h<;>(try split at h)<;>omega
 rw [show dP a b=zw a b by rw [dP,if_neg (by simp [h])]]
 refine aA (fun(y:List aj×Int×Int×List aj×Unit)=>y.1=a∧y.2.1=a.length∧y.2.2.2.1=b∧0≤y.2.2.1∧y.2.2.1≤a.length∧zw a b=zw (a.drop y.2.2.1.toNat) (b.drop y.2.2.1.toNat)) (fun y=>(a.length-y.2.2.1).toNat) ⟨rfl,rfl,rfl,by simp,by simp,by simp⟩ ?_
 rintro⟨(l:List aj),(m:Int),(i:Int),(l':List aj),⟨⟩⟩ hI
 dsimp only at hI ⊢
 obtain⟨rfl,rfl,rfl,h1,h2,h3⟩:=hI
 simp (disch:=omega) only [RR,hp1,hf1,hp4 _ _ (ha.at _),hf4 _ _ (ha.at _)]
 refine⟨fun h4=>⟨by omega,by omega,by omega,by omega,by omega,by omega,fun h5=> ?_,fun h5=>⟨⟨by omega,by omega,?_⟩,by omega⟩⟩,fun h4=> ?_⟩
 ·rw [h3,Jj _ _ _ (by omega) (by omega)]
  rw [getD_lt (by omega),getD_lt (by omega)]at h5 ⊢
  exact((if_pos (c:=Hr l[i.toNat] l'[i.toNat]≠0) h5).trans rfl).symm▸rfl
 ·rw [h3,Jj _ _ _ (by omega) (by omega)]
  rw [getD_lt (by omega),getD_lt (by omega)]at h5
  rw [if_neg (show¬(Hr l[i.toNat] l'[i.toNat]≠0)from fun h=>h h5),show(i+1).toNat=i.toNat+1 by omega]
 ·rw [h3,List.drop_eq_nil_of_le (by omega)];rfl
theorem aoa {p1:List aj×List aj×Unit→Bool} {f1:List aj×List aj×Unit→Int×Unit} (hp1:∀a b,Sh a→p1 (a,b,())=true) (hf1:∀a b,Sh a→f1 (a,b,())=(dP a b,())) (a b:List aj) (ha:Sh a):
  Yu (std 0) p1 f1 (a,b,()) (fun y=>y=(decide (dP a b=0),())):=by
 dsimp only [Yu,Alg.cl,Alg.cg,Alg.rb,Alg.bd,Alg.l1,Tup.q,Tup.o]
 simp (disch:=omega) only [RR,hp1 a b ha,hf1 a b ha]
end Go.TX.F
namespace Go.TX.F
open Go Go.AE Go.TX
theorem R5 (k:IntKind) (x y:Int):ji .and k x y=jY .and k x y:=rfl
theorem R6 (k:IntKind) (x y:Int):ji .xor k x y=jY .xor k x y:=rfl
theorem ZN (x:Int):jY .and .i64 x 65535=x%65536:=by
 unfold jY
 dsimp only
 rw [BitVec.toNat_and,BitVec.toNat_ofInt,BitVec.toNat_ofInt]
 have h1:((65535:Int)% ((2^IntKind.i64.bits:Nat):Int)).toNat=2^16-1:=by decide
 rw [h1,Nat.and_two_pow_sub_one_eq_mod]
 rw [w64 (by omega) (by omega)]
 have h2:((2^IntKind.i64.bits:Nat):Int)=18446744073709551616:=by decide
 rw [h2]
 omega
theorem acs {a b:Int} (ha:0≤a) (ha':a≤65535) (hb:0≤b) (hb':b≤65535):(0≤jY .and .i64 a b∧jY .and .i64 a b≤65535)∧(0≤jY .xor .i64 a b∧jY .xor .i64 a b≤65535):=by
 have h2:((2^IntKind.i64.bits:Nat):Int)=18446744073709551616:=by decide
 have e1:jY .and .i64 a b=((a.toNat&&&b.toNat:Nat):Int):=by
  unfold jY;dsimp only
  rw [BitVec.toNat_and,BitVec.toNat_ofInt,BitVec.toNat_ofInt,h2,show a%18446744073709551616=a by omega,show b%18446744073709551616=b by omega]
  have:=Nat.and_lt_two_pow (a.toNat) (show b.toNat<2^16 by omega)
  rw [w64 (by omega) (by omega)]
 have e2:jY .xor .i64 a b=((a.toNat^^^b.toNat:Nat):Int):=by
  unfold jY;dsimp only
  rw [BitVec.toNat_xor,BitVec.toNat_ofInt,BitVec.toNat_ofInt,h2,show a%18446744073709551616=a by omega,show b%18446744073709551616=b by omega]
  have:=Nat.xor_lt_two_pow (show a.toNat<2^16 by omega) (show b.toNat<2^16 by omega)
  rw [w64 (by omega) (by omega)]
 rw [e1,e2]
 have:=Nat.and_lt_two_pow (a.toNat) (show b.toNat<2^16 by omega)
 have:=Nat.xor_lt_two_pow (show a.toNat<2^16 by omega) (show b.toNat<2^16 by omega)
 omega
theorem adw (a:Int):Y0 (std 0) (a,()) (fun y=>y=(a%65536,())):=by
 dsimp only [Y0,Alg.cl,Alg.cg,Alg.rb,Alg.bd,Alg.l1,Tup.q,Tup.o]
 simp (disch:=omega) only [RR,R5,ZN]
def wdo (op a b:Int):Int:=if(0≤a∧a≤65535)∧(0≤b∧b≤65535)then
 (if op=1 then(a+b)%65536 else if op=2 then(a-b)%65536 else if op=3 then(a*b)%65536 else if op=4 then jY .and .i64 a b else if op=5 then jY .xor .i64 a b else 0)else 0
theorem UU (op a b:Int):0≤wdo op a b∧wdo op a b≤65535:=by
 unfold wdo
 split
 ·rename_i h
  have:=acs h.1.1 h.1.2 h.2.1 h.2.2
  repeat' split
  all_goals omega
 ·omega
theorem fF {a b c:Int}:inB a b c=true↔(b≤a∧a≤c):=by simp [inB]
theorem sw {a b c:Int}:inB a b c=false↔¬(b≤a∧a≤c):=by rw [←fF,Bool.not_eq_true]
theorem aob {p1:Int×Unit→Bool} {f1:Int×Unit→Bool×Unit} (hp1:∀a,p1 (a,())=true) (hf1:∀a,f1 (a,())=(inB a 0 65535,()))
  {p2:Int×Unit→Bool} {f2:Int×Unit→Int×Unit} (hp2:∀a,p2 (a,())=true) (hf2:∀a,f2 (a,())=(a%65536,())) (op a b:Int):
  Y3 (std 0) p1 f1 p2 f2 (op,a,b,()) (fun y=>y=(wdo op a b,())):=by
 dsimp only [Y3,Alg.cl,Alg.cg,Alg.rb,Alg.bd,Alg.l1,Tup.q,Tup.o]
 simp (disch:=omega) only [RR,hp1,hf1,hp2,hf2,R5,R6,fF,sw]
 by_cases ha:(0≤a∧a≤65535)∧(0≤b∧b≤65535)
 ·have hm:0≤a*b∧a*b≤65535*65535:=⟨Int.mul_nonneg ha.1.1 ha.2.1,Int.mul_le_mul ha.1.2 ha.2.2 ha.2.1 (by omega)⟩
  rw [w64 (x:=a+b) (by omega) (by omega),w64 (x:=a-b) (by omega) (by omega),w64 (x:=a*b) (by omega) (by omega)]
  unfold wdo
  rw [if_pos ha]
  refine⟨fun h=>absurd h (by omega),fun _=>⟨fun h=> ?_,fun h=>⟨fun h1=> ?_,fun h1=>⟨fun h2=> ?_,fun h2=>⟨fun h3=> ?_,fun h3=>⟨fun h4=> ?_,fun h4=> ?_⟩⟩⟩⟩⟩⟩<;>(subst_vars;first | rfl | simp only [if_true,if_false, *])
 ·refine⟨fun h=> ?_,fun h=>absurd h ?_⟩
  ·unfold wdo;rw [if_neg ha]
  ·exact ha
def aP (n:Int):List aj:=if 1≤n∧n≤65535 then [⟨n,[]⟩]else []
theorem aoc {p1:Int×Int×Int×Unit→Bool} {f1:Int×Int×Int×Unit→Bool×Unit} (hp1:∀a b c,p1 (a,b,c,())=true) (hf1:∀a b c,f1 (a,b,c,())=(inB a b c,())) (a:Int):
  YZ (std 0) p1 f1 (a,()) (fun y=>y=(aP a,())):=by
 dsimp only [YZ,Alg.cl,Alg.cg,Alg.rb,Alg.bd,Alg.l1,Tup.q,Tup.o]
 simp (disch:=omega) only [RR,hp1,hf1,fF,sw]
 unfold aP
 exact⟨fun h=>by rw [if_neg (by omega)],fun h=>by rw [if_pos (by omega)]⟩
def dB (n:Int):List aj:=if 0≤n∧n≤199 then [⟨1,[n]⟩]else []
theorem aod {p1:Int×Int×Int×Unit→Bool} {f1:Int×Int×Int×Unit→Bool×Unit} (hp1:∀a b c,p1 (a,b,c,())=true) (hf1:∀a b c,f1 (a,b,c,())=(inB a b c,())) (a:Int):
  YE (std 0) p1 f1 (a,()) (fun y=>y=(dB a,())):=by
 dsimp only [YE,Alg.cl,Alg.cg,Alg.rb,Alg.bd,Alg.l1,Tup.q,Tup.o]
 simp (disch:=omega) only [RR,hp1,hf1,fF,sw]
 unfold dB
 exact⟨fun h=>by rw [if_neg (by omega)],fun h=>by rw [if_pos (by omega)]⟩
noncomputable def dL (p:List aj):Int×Bool:=if bp (aO p)then(if p.length=0 then(0,true)else if p.length=1∧(p.getD 0 default).atoms.length=0 then((p.getD 0 default).gq,true)else(0,false))else(0,false)
theorem aoe {p1:List aj×Unit→Bool} {f1:List aj×Unit→Bool×Unit} (hp1:∀a,Sh a→p1 (a,())=true) (hf1:∀a,Sh a→f1 (a,())=(bp (aO a),())) (a:List aj) (ha:Sh a):
  Y4 (std 0) p1 f1 (a,()) (fun y=>y=((dL a).1,(dL a).2,())):=by
 dsimp only [Y4,Alg.cl,Alg.cg,Alg.rb,Alg.bd,Alg.l1,Tup.q,Tup.o]
 simp (disch:=omega) only [RR,hp1 a ha,hf1 a ha]
 unfold dL
 refine⟨fun h=> ?_,fun h=>⟨fun h1=> ?_,fun h1=>⟨by omega,by omega,fun h2=>⟨by omega,by omega,?_⟩,fun h2=> ?_⟩⟩⟩
 ·rw [if_neg (by simpa using h)]
 ·rw [if_pos h,if_pos (by omega)]
 ·have h3:=h2.2;rw [show Int.toNat 0=0 from rfl]at h3
  rw [if_pos h,if_neg (by omega),if_pos (show a.length=1∧(a.getD 0 default).atoms.length=0 by omega)];rfl
 ·rw [if_pos h,if_neg (by omega),if_neg]
  intro h3
  rw [decide_eq_true (by omega),Bool.true_and,decide_eq_false_iff_not]at h2
  apply h2;rw [show Int.toNat 0=0 from rfl];omega
theorem adx (a:List Int) (ha:a.length≤1073741824):YL (std 0) (a,()) (fun y=>y=(a,())):=by
 dsimp only [YL,Alg.cl,Alg.cg,Alg.rb,Alg.bd,Alg.l1,Tup.q,Tup.o]
 simp (disch:=omega) only [RR]
 omega
theorem jG {α:Type} {l:List α} {i:Int} {d x:α} (h0:0≤i) (h:i<l.length) (e:x=l.getD i.toNat d):l.take i.toNat++ [x]=l.take (i+1).toNat:=by
 rw [e,getD_lt (by omega),show(i+1).toNat=i.toNat+1 by omega,List.take_succ_eq_append_getElem (by omega)]
theorem aof {p1:List Int×Unit→Bool} {f1:List Int×Unit→List Int×Unit} (hp1:∀a,a.length≤1073741824→p1 (a,())=true) (hf1:∀a,a.length≤1073741824→f1 (a,())=(a,())) (a:List aj) (ha:Sh a):
  YM (std 0) p1 f1 (a,()) (fun y=>y=(a,())):=by
 have hlen:=ha.1
 dsimp only [YM,Alg.cl,Alg.cg,Alg.rb,Alg.bd,Alg.l1,Tup.q,Tup.o]
 refine aA (fun(y:List aj×Int×Int×List aj×Unit)=>y.1=a∧y.2.1=a.length∧y.2.2.2.1=a.take y.2.2.1.toNat∧0≤y.2.2.1∧y.2.2.1≤a.length) (fun y=>(a.length-y.2.2.1).toNat) ⟨rfl,rfl,by simp,by simp,by simp⟩ ?_
 rintro⟨(l:List aj),(m:Int),(i:Int),(o:List aj),⟨⟩⟩ hI
 dsimp only at hI ⊢
 obtain⟨rfl,rfl,rfl,h1,h2⟩:=hI
 simp (disch:=first | omega | (have:=ha.at i.toNat;omega)) only [RR,hp1,hf1]
 have h3:=ha.at i.toNat
 refine⟨fun h4=>⟨by omega,by omega,?_,⟨jG h1 h4 rfl,by omega,by omega⟩,by omega⟩,fun h4=>by rw [List.take_of_length_le (by omega)]⟩
 have:=List.length_take_le' i.toNat l
 simp only [List.length_cons,List.length_nil];omega
def ShA (a:Atom):Prop:=Sh a.x∧Sh a.y
def ShT (t:List Atom):Prop:=t.length<1000000000∧∀a∈t,ShA a
theorem ShT.at {p:List Atom} (h:ShT p) (n:Nat):ShA (p.getD n default):=by
 by_cases h1:n<p.length
 ·rw [getD_lt h1];exact h.2 _ (List.getElem_mem _)
 ·simp only [List.getD,List.getElem?_eq_none (by omega:p.length≤n)]
  refine⟨⟨by decide,fun m hm=> ?_⟩,⟨by decide,fun m hm=> ?_⟩⟩<;>exact absurd hm (by simp [default,instInhabitedAtom.default])
theorem aog {p1:List aj×Unit→Bool} {f1:List aj×Unit→List aj×Unit} (hp1:∀a,Sh a→p1 (a,())=true) (hf1:∀a,Sh a→f1 (a,())=(a,())) (a:List Atom) (ha:ShT a):
  YP (std 0) p1 f1 (a,()) (fun y=>y=(a,())):=by
 have hlen:=ha.1
 dsimp only [YP,Alg.cl,Alg.cg,Alg.rb,Alg.bd,Alg.l1,Tup.q,Tup.o]
 refine aA (fun(y:List Atom×Int×Int×List Atom×Unit)=>y.1=a∧y.2.1=a.length∧y.2.2.2.1=a.take y.2.2.1.toNat∧0≤y.2.2.1∧y.2.2.1≤a.length) (fun y=>(a.length-y.2.2.1).toNat) ⟨rfl,rfl,by simp,by simp,by simp⟩ ?_
 rintro⟨(l:List Atom),(m:Int),(i:Int),(o:List Atom),⟨⟩⟩ hI
 dsimp only at hI ⊢
 obtain⟨rfl,rfl,rfl,h1,h2⟩:=hI
 simp (disch:=omega) only [RR,hp1 _ (ha.at _).1,hf1 _ (ha.at _).1,hp1 _ (ha.at _).2,hf1 _ (ha.at _).2]
 refine⟨fun h4=>⟨by omega,by omega,?_,⟨jG h1 h4 rfl,by omega,by omega⟩,by omega⟩,fun h4=>by rw [List.take_of_length_le (by omega)]⟩
 have:=List.length_take_le' i.toNat l
 simp only [List.length_cons,List.length_nil];omega
theorem aoh {p4:List Int×List Int×Unit→Bool} {f4:List Int×List Int×Unit→Int×Unit} (hp4:∀a b,a.length<1000000000→p4 (a,b,())=true) (hf4:∀a b,a.length<1000000000→f4 (a,b,())=(dZ a b,())) (a b:aj) (ha:a.atoms.length<1000000000):
  Y5 (std 0) p4 f4 (a,b,()) (fun y=>y=(dZ a.atoms b.atoms,())):=by
 dsimp only [Y5,Alg.cl,Alg.cg,Alg.rb,Alg.bd,Alg.l1,Tup.q,Tup.o]
 simp (disch:=omega) only [RR,hp4 a.atoms b.atoms ha,hf4 a.atoms b.atoms ha]
theorem aoi (a:List Atom):Yy (std 0) (a,()) (fun y=>y=(a,())):=by
 dsimp only [Yy,Alg.cl,Alg.cg,Alg.rb,Alg.bd,Alg.l1,Tup.q,Tup.o]
 simp (disch:=omega) only [RR]
 refine⟨by omega,by omega,by omega,?_⟩
 rw [List.take_of_length_le (by omega)];rfl
def uS (a b:Atom):Bool:=decide (a.kind=b.kind)&&decide (a.k=b.k)&&decide (dP a.x b.x=0)&&decide (dP a.y b.y=0)
theorem aoj {p1:List aj×List aj×Unit→Bool} {f1:List aj×List aj×Unit→Bool×Unit} (hp1:∀a b,Sh a→p1 (a,b,())=true) (hf1:∀a b,Sh a→f1 (a,b,())=(decide (dP a b=0),())) (a b:Atom) (ha:ShA a):
  Yv (std 0) p1 f1 (a,b,()) (fun y=>y=(uS a b,())):=by
 dsimp only [Yv,Alg.cl,Alg.cg,Alg.rb,Alg.bd,Alg.l1,Tup.q,Tup.o]
 simp (disch:=omega) only [RR,hp1 a.x b.x ha.1,hf1 a.x b.x ha.1,hp1 a.y b.y ha.2,hf1 a.y b.y ha.2]
 rfl
theorem aol {p1:Atom×Atom×Unit→Bool} {f1:Atom×Atom×Unit→Bool×Unit} (hp1:∀a b,ShA a→p1 (a,b,())=true) (hf1:∀a b,ShA a→f1 (a,b,())=(uS a b,())) (a b:Atom) (hb:ShA b):
  Yw (std 0) p1 f1 (a,b,()) (fun y=>y=(uS b a,b,())):=by
 dsimp only [Yw,Alg.cl,Alg.cg,Alg.rb,Alg.bd,Alg.l1,Tup.q,Tup.o]
 simp (disch:=omega) only [RR,hp1 b a hb,hf1 b a hb]
noncomputable def idxOf (n:Int) (G:Int→Prop):Int:= @dite _ (∃r,Idx n G r) (Classical.propDecidable _) (fun h=>Classical.choose h) (fun _=> -1)
theorem Idx.uniq {n:Int} {G:Int→Prop} {r s:Int} (h:Idx n G r) (h':Idx n G s):r=s:=by
 rcases h with⟨h1,h2⟩ | ⟨h1,h2,h3,h4⟩<;>rcases h' with⟨g1,g2⟩ | ⟨g1,g2,g3,g4⟩
 ·omega
 ·exact absurd g3 (h2 s g1 g2)
 ·exact absurd h3 (g2 r h1 h2)
 ·by_cases h5:r<s
  ·exact absurd h3 (g4 r h1 h5)
  ·by_cases h6:s<r
   ·exact absurd g3 (h4 s g1 h6)
   ·omega
theorem Idx.eq {n:Int} {G:Int→Prop} {r:Int} (h:Idx n G r):r=idxOf n G:=by
 unfold idxOf
 have he:∃r,Idx n G r:=⟨r,h⟩
 rw [dif_pos he];exact h.uniq (Classical.choose_spec he)
theorem ahZ {p:Atom×Atom×Unit→Bool} {f:Atom×Atom×Unit→Bool×Atom×Unit} (hp:∀a b,ShA b→p (a,b,())=true) (hf:∀a b,ShA b→f (a,b,())=(uS b a,b,())) (a:List Atom) (b:Atom) (ha:a.length<1000000000) (hb:ShA b):
  Ry (std 0) p f (a,b,()) (fun y=>y=(idxOf a.length (fun i=>uS b (a.getD i.toNat default)=true),b,())):=by
 dsimp only [Ry,Alg.cl,Alg.cg,Alg.rb,Alg.bd,Alg.l1,Tup.q,Tup.o]
 refine aA (fun(y:List Atom×Int×Int×Atom×Unit)=>y.1=a∧y.2.1=a.length∧y.2.2.2.1=b∧0≤y.2.2.1∧y.2.2.1≤a.length∧All y.2.2.1 (fun i=>¬uS b (a.getD i.toNat default)=true)) (fun y=>(a.length-y.2.2.1).toNat) ⟨rfl,rfl,rfl,by simp,by simp,All.zero⟩ ?_
 rintro⟨(l:List Atom),(m:Int),(i:Int),(b':Atom),⟨⟩⟩ hI
 dsimp only at hI ⊢
 obtain⟨rfl,rfl,rfl,h1,h2,h3⟩:=hI
 simp (disch:=omega) only [RR,hp _ _ hb,hf _ _ hb]
 refine⟨fun h4=>⟨by omega,by omega,fun h5=> ?_,fun h5=>⟨⟨by omega,by omega,h3.snoc (by simp only [h5];simp)⟩,by omega⟩⟩,fun h4=> ?_⟩
 ·rw [←Idx.eq (Or.inr ⟨by omega,by omega,h5,h3⟩)]
 ·rw [←Idx.eq (Or.inl ⟨rfl,h3.le (by omega)⟩)]
noncomputable def sD (t:List Atom) (a:Atom):Int:=idxOf t.length (fun i=>uS a (t.getD i.toNat default)=true)
theorem aom {p:List Atom×Atom×Unit→Bool} {f:List Atom×Atom×Unit→Int×Atom×Unit} (hp:∀a b,a.length<1000000000→ShA b→p (a,b,())=true)
  (hf:∀a b,a.length<1000000000→ShA b→f (a,b,())=(idxOf a.length (fun i=>uS b (a.getD i.toNat default)=true),b,())) (a:List Atom) (b:Atom) (ha:a.length<1000000000) (hb:ShA b):
  Yx (std 0) p f (a,b,()) (fun y=>y=(sD a b,())):=by
 dsimp only [Yx,Alg.cl,Alg.cg,Alg.rb,Alg.bd,Alg.l1,Tup.q,Tup.o]
 simp (disch:=omega) only [RR,hp a b ha hb,hf a b ha hb]
 rfl
def gV (a:Atom) (n:Int):Prop:=if a.kind=4 then(1≤a.k∧a.k≤5)∧aO a.x∧aO a.y∧bg a.x n∧bg a.y n else
 (a.x=[]∧a.y=[])∧((a.kind=1∧0≤a.k∧a.k≤3)∨(a.kind=2∨a.kind=3)∧0≤a.k∧a.k≤199)
theorem aon {p1:Int×Int×Int×Unit→Bool} {f1:Int×Int×Int×Unit→Bool×Unit} (hp1:∀a b c,p1 (a,b,c,())=true) (hf1:∀a b c,f1 (a,b,c,())=(inB a b c,()))
  {p2:Int×Unit→Bool} {f2:Int×Unit→Bool×Unit} (hp2:∀a,p2 (a,())=true) (hf2:∀a,f2 (a,())=(inB a 1 5,()))
  {p3:List aj×Int×Unit→Bool} {f3:List aj×Int×Unit→Bool×Unit} (hp3:∀a n,Sh a→p3 (a,n,())=true) (hf3:∀a n,Sh a→f3 (a,n,())=(bp (bg a n),()))
  {p4:List aj×Unit→Bool} {f4:List aj×Unit→Bool×Unit} (hp4:∀a,Sh a→p4 (a,())=true) (hf4:∀a,Sh a→f4 (a,())=(bp (aO a),()))
  {p5:Int×Unit→Bool} {f5:Int×Unit→Bool×Unit} (hp5:∀a,p5 (a,())=true) (hf5:∀a,f5 (a,())=(inB a 0 3,())) (a:Atom) (n:Int) (ha:ShA a):
  Yr (std 0) p1 f1 p2 f2 p3 f3 p4 f4 p5 f5 (a,n,()) (fun y=>y=(bp (gV a n),())):=by
 obtain⟨hx,hy⟩:=ha
 have hx1:=hx.1
 have hy1:=hy.1
 dsimp only [Yr,Alg.cl,Alg.cg,Alg.rb,Alg.bd,Alg.l1,Tup.q,Tup.o]
 simp (disch:=omega) only [RR,hp1,hf1,hp2,hf2,hp3 a.x n hx,hf3 a.x n hx,hp3 a.y n hy,hf3 a.y n hy,hp4 a.x hx,hf4 a.x hx,hp4 a.y hy,hf4 a.y hy,hp5,hf5]
 unfold gV
 refine⟨fun h=> ?_,fun h=>⟨fun h1=> ?_,fun h1=> ?_⟩⟩
 ·rw [if_pos h]
  congr 1
  rw [Bool.eq_iff_iff,bQ]
  simp only [Bool.and_eq_true,fF,bQ,and_assoc]
 ·rw [if_neg h,gU]
  rintro⟨⟨h2,h3⟩, -⟩
  rw [h2,h3]at h1;exact absurd h1 (by simp)
 ·rw [if_neg h]
  have h2:a.x=[]:=List.eq_nil_of_length_eq_zero (by omega)
  have h3:a.y=[]:=List.eq_nil_of_length_eq_zero (by omega)
  congr 1
  rw [Bool.eq_iff_iff,bQ]
  simp only [Bool.or_eq_true,Bool.and_eq_true,decide_eq_true_eq,fF,h2,h3,true_and]
def aG (t:List Atom):Prop:=All t.length (fun i=>gV (t.getD i.toNat default) i∧sD t (t.getD i.toNat default)=i)∧t.length≤200
theorem aoo {p1:Atom×Int×Unit→Bool} {f1:Atom×Int×Unit→Bool×Unit} (hp1:∀a n,ShA a→p1 (a,n,())=true) (hf1:∀a n,ShA a→f1 (a,n,())=(bp (gV a n),()))
  {p2:List Atom×Atom×Unit→Bool} {f2:List Atom×Atom×Unit→Int×Unit} (hp2:∀a b,a.length<1000000000→ShA b→p2 (a,b,())=true) (hf2:∀a b,a.length<1000000000→ShA b→f2 (a,b,())=(sD a b,())) (a:List Atom) (ha:ShT a):
  YW (std 0) p1 f1 p2 f2 (a,()) (fun y=>y=(bp (aG a),())):=by
 have hlen:=ha.1
 dsimp only [YW,Alg.cl,Alg.cg,Alg.rb,Alg.bd,Alg.l1,Tup.q,Tup.o]
 refine aA (fun(y:List Atom×Int×Int×List Atom×Unit)=>y.1=a∧y.2.1=a.length∧y.2.2.2.1=a∧0≤y.2.2.1∧y.2.2.1≤a.length∧All y.2.2.1 (fun i=>gV (a.getD i.toNat default) i∧sD a (a.getD i.toNat default)=i)) (fun y=>(a.length-y.2.2.1).toNat) ⟨rfl,rfl,rfl,by simp,by simp,All.zero⟩ ?_
 rintro⟨(l:List Atom),(m:Int),(i:Int),(b':List Atom),⟨⟩⟩ hI
 dsimp only at hI ⊢
 obtain⟨rfl,rfl,rfl,h1,h2,h3⟩:=hI
 simp (disch:=omega) only [RR,hp1 _ _ (ha.at _),hf1 _ _ (ha.at _),hp2 _ _ ha.1 (ha.at _),hf2 _ _ ha.1 (ha.at _),bQ,uP]
 refine⟨fun h4=>⟨by omega,by omega,fun h5=> ?_,fun h5=>⟨⟨by omega,by omega,h3.snoc h5⟩,by omega⟩⟩,fun h4=> ?_⟩
 ·rw [gU (fun h=> ?_)]
  have:=h.1 i h1 h4
  rcases h5 with h5 | h5
  ·exact h5 this.1
  ·exact h5 this.2
 ·by_cases h5:b'.length≤200
  ·rw [bN (show aG b' from⟨h3.le (by omega),h5⟩),decide_eq_true (by omega)]
  ·rw [gU (show¬aG b' from fun h=>h5 h.2),decide_eq_false (by omega)]
noncomputable def bf (t:List Atom) (a:Atom):List Atom×Int:=if 0≤sD t a then(t,sD t a)else @ite _ (¬gV a t.length∨t.length=200) (Classical.propDecidable _) (t, -1) (t++ [a],(t.length:Int))
theorem aop {p1:Atom×Int×Unit→Bool} {f1:Atom×Int×Unit→Bool×Unit} (hp1:∀a n,ShA a→p1 (a,n,())=true) (hf1:∀a n,ShA a→f1 (a,n,())=(bp (gV a n),()))
  {p2:List Atom×Atom×Unit→Bool} {f2:List Atom×Atom×Unit→Int×Unit} (hp2:∀a b,a.length<1000000000→ShA b→p2 (a,b,())=true) (hf2:∀a b,a.length<1000000000→ShA b→f2 (a,b,())=(sD a b,()))
  {p3:List Atom×Unit→Bool} {f3:List Atom×Unit→List Atom×Unit} (hp3:∀a,p3 (a,())=true) (hf3:∀a,f3 (a,())=(a,())) (t:List Atom) (a:Atom) (ht:t.length<1000000000) (ha:ShA a):
  Yz (std 0) p1 f1 p2 f2 p3 f3 (t,a,()) (fun y=>y=((bf t a).1,(bf t a).2,())):=by
 dsimp only [Yz,Alg.cl,Alg.cg,Alg.rb,Alg.bd,Alg.l1,Tup.q,Tup.o]
 simp (disch:=omega) only [RR,hp1 a t.length ha,hf1 a t.length ha,hp2 t a ht ha,hf2 t a ht ha,hp3,hf3,bQ,uP]
 unfold bf
 refine⟨fun h=>by rw [if_pos h],fun h=>⟨fun h1=> ?_,fun h1=>⟨?_,?_,?_⟩⟩⟩
 ·rw [if_neg h,if_pos (by rcases h1 with h1 | h1;exact Or.inl h1;exact Or.inr (by omega))]
 ·exact Or.inl (by simp)
 ·simp only [List.length_cons,List.length_nil];omega
 ·rw [if_neg h,if_neg (by rintro(h2 | h2);exact h2 h1.1;exact absurd h2 (by omega))]
end Go.TX.F
namespace Go.TX.F
open Go Go.AE Go.TX
theorem vW (a b:Int):nI b a= -nI a b:=by unfold nI;repeat' split<;>omega
theorem mH {a b:Int}:nI a b=0↔a=b:=by unfold nI;constructor<;>intro h<;>(repeat' split at*)<;>omega
theorem Jk:∀a b:List Int,kN b a= -kN a b
 | [],[]=>rfl | [],_::_=>rfl | _::_,[]=>rfl
 | a::az,b::bs=>by
  simp only [kN,vW a b,Jk az bs]
  split<;>split<;>omega
theorem Jl:∀ {a b:List Int},kN a b=0→a=b
 | [],[],_=>rfl | [],_::_,h=>by simp [kN]at h
 | _::_,[],h=>by simp [kN]at h
 | a::az,b::bs,h=>by
  simp only [kN]at h
  split at h
  ·exact absurd h (by assumption)
  ·rename_i h1
   rw [mH.1 (Classical.not_not.1 h1),Jl h]
theorem Jm:∀a:List Int,kN a a=0
 | []=>rfl
 | a::az=>by simp only [kN,show nI a a=0 from mH.2 rfl];simp [Jm az]
theorem Ht:∀ {a b c:List Int},kN a b≤0→kN b c≤0→kN a c≤0
 | [],_,[],_,_=>by simp [kN]
 | [],_,_::_,_,_=>by simp [kN]
 | _::_,[],_,h,_=>by simp [kN]at h
 | _::_,_::_,[],_,h=>by simp [kN]at h
 | a::az,b::bs,c::cs,h1,h2=>by
  have ih:= @Ht az bs cs
  simp only [kN]at h1 h2 ⊢
  unfold nI at h1 h2 ⊢
  repeat' split at h1
  all_goals (repeat' split at h2)
  all_goals (repeat' split)
  all_goals omega
theorem kP (a b:List Int):dZ b a= -dZ a b:=by
 unfold dZ or2;rw [vW,Jk];repeat' split<;>omega
theorem iD {a b:List Int}:dZ a b=0↔a=b:=by
 constructor
 ·intro h;unfold dZ or2 at h
  split at h
  ·exact absurd h (by assumption)
  ·exact Jl h
 ·rintro rfl;unfold dZ or2;rw [show nI (a.length:Int) a.length=0 from mH.2 rfl,Jm];rfl
theorem yC {a b c:List Int} (h1:dZ a b≤0) (h2:dZ b c≤0):dZ a c≤0:=by
 have ih:= @Ht a b c
 unfold dZ or2 nI at*
 repeat' split at h1
 all_goals (repeat' split at h2)
 all_goals (repeat' split)
 all_goals omega
def le (x y:aj):Prop:=dZ x.atoms y.atoms≤0
theorem le.trans {x y z:aj} (h1:le x y) (h2:le y z):le x z:=yC h1 h2
theorem qF {x y:aj} (h:¬dZ y.atoms x.atoms<0):le x y:=by unfold le;rw [kP];omega
theorem le_of_lt {x y:aj} (h:dZ x.atoms y.atoms<0):le x y:=by unfold le;omega
theorem le_refl (x:aj):le x x:=by unfold le;rw [iD.2 rfl];omega
theorem dD {x y z:aj} (h1:le x y) (h2:dZ y.atoms z.atoms<0):dZ x.atoms z.atoms<0:=by
 have h3:=yC h1 (le_of_lt h2)
 by_cases h:dZ x.atoms z.atoms=0
 ·have e:=iD.1 h
  unfold le at h1;rw [e,kP]at h1;omega
 ·omega
theorem jH {x y z:aj} (h1:dZ x.atoms y.atoms<0) (h2:le y z):dZ x.atoms z.atoms<0:=by
 have h3:=yC (le_of_lt h1) h2
 by_cases h:dZ x.atoms z.atoms=0
 ·have e:=iD.1 h
  unfold le at h2;rw [←e,kP]at h2;omega
 ·omega
theorem KA (g:aj→Int) (x:aj):∀(d:List aj) (n:Nat) (h:n<d.length),((d.set n x).map g).sum=(d.map g).sum-g d[n]+g x
 | [],_,h=>absurd h (by simp)
 | a::d,0,h=>by simp;omega
 | a::d,n+1,h=>by
  have:=KA g x d n (by simpa using h)
  simp only [List.set_cons_succ,List.map_cons,List.sum_cons,List.getElem_cons_succ];omega
structure Sm (d d':List aj):Prop where
 len:d'.length=d.length
 sum:∀g:aj→Int,(d'.map g).sum=(d.map g).sum
theorem Sm.refl (d:List aj):Sm d d:=⟨rfl,fun _=>rfl⟩
theorem Sm.trans {a b c:List aj} (h1:Sm a b) (h2:Sm b c):Sm a c:=⟨h2.1.trans h1.1,fun g=>(h2.2 g).trans (h1.2 g)⟩
theorem Sm.symm {a b:List aj} (h1:Sm a b):Sm b a:=⟨h1.1.symm,fun g=>(h1.2 g).symm⟩
theorem KC (x:aj):∀d:List aj,0≤(d.map (fun y=>if y=x then(1:Int)else 0)).sum∧(0< (d.map (fun y=>if y=x then(1:Int)else 0)).sum↔x∈d)
 | []=>by simp
 | a::d=>by
  have:=KC x d
  simp only [List.map_cons,List.sum_cons,List.mem_cons]
  by_cases h:a=x
  ·rw [if_pos h];refine⟨by omega,⟨fun _=>Or.inl h.symm,fun _=>by omega⟩⟩
  ·rw [if_neg h];refine⟨by omega,⟨fun h2=>Or.inr (this.2.1 (by omega)),fun h2=> ?_⟩⟩
   rcases h2 with h2 | h2
   ·exact absurd h2.symm h
   ·have:=this.2.2 h2;omega
theorem Sm.mem {a b:List aj} (h:Sm a b) {x:aj} (hx:x∈b):x∈a:=by
 rw [←(KC x a).2,←h.2];exact(KC x b).2.2 hx
theorem Sm.sh {a b:List aj} (h:Sm a b) (hs:Sh a):Sh b:=⟨by have:=hs.1;have:=h.1;omega,fun m hm=>hs.2 m (h.mem hm)⟩
def swp (d:List aj) (i j:Int):List aj:=(d.set i.toNat ((d).getD (j).toNat default)).set j.toNat ((d).getD (i).toNat default)
theorem acu (d:List aj) (i j:Int):(swp d i j).length=d.length:=by simp [swp]
theorem at_set {d:List aj} {i j:Int} {x:aj} (h1:0≤i) (h2:i<d.length) (h3:0≤j):((d.set i.toNat x).getD (j).toNat default)=if j=i then x else((d).getD (j).toNat default):=by
 simp only [List.getD]
 by_cases h:j=i
 ·subst h;rw [if_pos rfl,List.getElem?_set_self (by omega)];rfl
 ·rw [if_neg h,List.getElem?_set_ne (by omega)]
theorem uT {d:List aj} {i j k:Int} (h1:0≤i) (h2:i<d.length) (h3:0≤j) (h4:j<d.length) (h5:0≤k):((swp d i j).getD (k).toNat default)=if k=j then((d).getD (i).toNat default)else if k=i then((d).getD (j).toNat default)else((d).getD (k).toNat default):=by
 unfold swp
 rw [at_set h3 (by simp;omega) h5,at_set h1 h2 h5]
theorem KD {d:List aj} {i j:Int} (h1:0≤i) (h2:i<d.length) (h3:0≤j) (h4:j<d.length):Sm d (swp d i j):=by
 refine⟨acu d i j,fun g=> ?_⟩
 unfold swp
 rw [getD_lt (show i.toNat<d.length by omega),getD_lt (show j.toNat<d.length by omega),KA g _ _ _ (by simp;omega),KA g _ _ _ (by omega),List.getElem_set]
 split
 ·rename_i h;have:i=j:=by omega
  subst this;omega
 ·omega
def Swp (d d':List aj) (a b n:Int):Prop:=Sm d d'∧∀k,0≤k→((d').getD (k).toNat default)=if a≤k∧k<a+n then((d).getD (k+(b-a)).toNat default)else if b≤k∧k<b+n then((d).getD (k- (b-a)).toNat default)else((d).getD (k).toNat default)
theorem ZO (a b n:Int) (d:List aj) (hl:d.length<1000000000) (h1:0≤a) (h2:0≤n) (h3:a+n≤b) (h4:b+n≤d.length):
  RA (std 0) (a,b,n,d,()) (fun y=>Swp d y.1 a b n):=by
 dsimp only [RA,Alg.cl,Alg.cg,Alg.rb,Alg.bd,Alg.l1,Tup.q,Tup.o]
 refine aA (fun(y:Int×Int×Int×Int×List aj×Unit)=>y.1=a∧y.2.1=b∧y.2.2.1=n∧0≤y.2.2.2.1∧y.2.2.2.1≤n∧Swp d y.2.2.2.2.1 a b y.2.2.2.1) (fun y=>(n-y.2.2.2.1).toNat)
  ⟨rfl,rfl,rfl,by simp,by simp;omega,Sm.refl d,fun k hk=>by dsimp only;rw [if_neg (by omega),if_neg (by omega)]⟩ ?_
 rintro⟨(a':Int),(b':Int),(n':Int),(i:Int),(e:List aj),⟨⟩⟩ hI
 dsimp only at hI ⊢
 obtain⟨rfl,rfl,rfl,h5,h6,h7,h8⟩:=hI
 have hle:=h7.1
 simp (disch:=omega) only [RR,List.length_set]
 refine⟨fun h9=> ?_,fun h9=> ?_⟩
 ·have e1:(e.set (a'+i).toNat ((e).getD (b'+i).toNat default)).set (b'+i).toNat ((e).getD (a'+i).toNat default)=swp e (a'+i) (b'+i):=rfl
  rw [e1]
  refine⟨by omega,by omega,by omega,by omega,by omega,by omega,by omega,by omega,by omega,by omega,by omega,by omega,by omega,by omega,by omega,by omega,⟨by omega,by omega,h7.trans (KD (by omega) (by omega) (by omega) (by omega)),fun k hk=> ?_⟩,by omega⟩
  rw [uT (by omega) (by omega) (by omega) (by omega) hk]
  rw [h8 _ (by omega),h8 _ (by omega),h8 _ hk]
  repeat' split
  all_goals first | rfl | (exfalso;omega) | (congr 2;omega)
 ·have:i=n':=by omega
  subst this;exact⟨h7,h8⟩
end Go.TX.F
namespace Go.TX.F
open Go Go.AE Go.TX
def Rot (d d':List aj) (a m b:Int):Prop:=Sm d d'∧∀k,0≤k→((d').getD (k).toNat default)=if a≤k∧k<a+(b-m)then((d).getD (k+(m-a)).toNat default)else if a+(b-m)≤k∧k<b then((d).getD (k- (b-m)).toNat default)else((d).getD (k).toNat default)
theorem ah0 {p:Int×Int×Int×List aj×Unit→Bool} {f:Int×Int×Int×List aj×Unit→List aj×Unit}
  (hp:∀(a b n:Int) (d:List aj),d.length<1000000000→0≤a→0≤n→a+n≤b→b+n≤d.length→p (a,b,n,d,())=true) (hf:∀(a b n:Int) (d:List aj),d.length<1000000000→0≤a→0≤n→a+n≤b→b+n≤d.length→Swp d (f (a,b,n,d,())).1 a b n)
  (a m b:Int) (d:List aj) (hl:d.length<1000000000) (h1:0≤a) (h2:a<m) (h3:m<b) (h4:b≤d.length):
  RD (std 0) p f (a,m,b,d,()) (fun y=>Rot d y.1 a m b):=by
 dsimp only [RD,Alg.cl,Alg.cg,Alg.rb,Alg.bd,Alg.l1,Tup.q,Tup.o]
 simp (disch:=omega) only [RR]
 refine aA (fun(y:Int×Int×Int×List aj×Unit)=>y.1=m∧0<y.2.1∧0<y.2.2.1∧a≤m-y.2.1∧m+y.2.2.1≤b∧Sm d y.2.2.2.1∧
   ∀k,0≤k→(if a≤k∧k<a+(b-m)then((d).getD (k+(m-a)).toNat default)else if a+(b-m)≤k∧k<b then((d).getD (k- (b-m)).toNat default)else((d).getD (k).toNat default))
    =(if m-y.2.1≤k∧k<m-y.2.1+y.2.2.1 then((y.2.2.2.1).getD (k+y.2.1).toNat default)else if m-y.2.1+y.2.2.1≤k∧k<m+y.2.2.1 then((y.2.2.2.1).getD (k-y.2.2.1).toNat default)else((y.2.2.2.1).getD (k).toNat default))) (fun y=>(y.2.1+y.2.2.1).toNat)
  ⟨rfl,by simp;omega,by simp;omega,by simp;omega,by simp;omega,Sm.refl d,fun k hk=>by
   dsimp only;rw [show m- (m-a)=a by omega,show m+(b-m)=b by omega]⟩ ?_
 rintro⟨(m':Int),(i:Int),(j:Int),(e:List aj),⟨⟩⟩ hI
 dsimp only at hI ⊢
 obtain⟨rfl,h5,h6,h7,h8,h9,h10⟩:=hI
 have hle:=h9.1
 simp (disch:=omega) only [RR]
 refine⟨fun h11=>⟨fun h12=> ?_,fun h12=> ?_⟩,fun h11=> ?_⟩
 ·obtain⟨s1,s2⟩:=hf (m'-i) m' j e (by omega) (by omega) (by omega) (by omega) (by omega)
  refine⟨hp _ _ _ _ (by omega) (by omega) (by omega) (by omega) (by omega),⟨by omega,by omega,by omega,by omega,h9.trans s1,fun k hk=> ?_⟩,by omega⟩
  rw [h10 k hk]
  generalize (f (m'-i,m',j,e,())).1=e' at s1 s2 ⊢
  by_cases c1:m'-i≤k∧k<m'-i+j
  ·rw [if_pos c1,if_neg (by omega),if_neg (by omega),s2 k hk,if_pos c1];congr 2;omega
  ·rw [if_neg c1]
   by_cases c2:m'-i+j≤k∧k<m'+j
   ·rw [if_pos c2]
    by_cases c3:m'- (i-j)≤k∧k<m'- (i-j)+j
    ·rw [if_pos c3,s2 _ (by omega),if_neg (by omega),if_pos (by omega)];congr 2;omega
    ·rw [if_neg c3,if_pos (by omega),s2 _ (by omega),if_neg (by omega),if_neg (by omega)]
   ·rw [if_neg c2,if_neg (by omega),if_neg (by omega),s2 _ hk,if_neg (by omega),if_neg (by omega)]
 ·obtain⟨s1,s2⟩:=hf (m'-i) (m'+j-i) i e (by omega) (by omega) (by omega) (by omega) (by omega)
  refine⟨hp _ _ _ _ (by omega) (by omega) (by omega) (by omega) (by omega),⟨by omega,by omega,by omega,by omega,h9.trans s1,fun k hk=> ?_⟩,by omega⟩
  rw [h10 k hk]
  generalize (f (m'-i,m'+j-i,i,e,())).1=e' at s1 s2 ⊢
  by_cases c1:m'-i≤k∧k<m'-i+j
  ·rw [if_pos c1]
   by_cases c3:k<m'-i+(j-i)
   ·rw [if_pos (by omega),s2 _ (by omega)]
    by_cases c4:k<m'
    ·by_cases c5:k+i<m'+j-i
     ·rw [if_neg (by omega),if_neg (by omega)]
     ·exfalso;omega
    ·by_cases c5:k+i<m'+j-i
     ·rw [if_neg (by omega),if_neg (by omega)]
     ·exfalso;omega
   ·by_cases c6:k<m'
    ·rw [if_neg (by omega),if_pos (by omega),s2 _ (by omega),if_pos (by omega)];congr 2;omega
    ·rw [if_neg (by omega),if_pos (by omega),s2 _ (by omega)]
     by_cases c7:k- (j-i)<m'
     ·rw [if_pos (by omega)];congr 2;omega
     ·exfalso;omega
  ·rw [if_neg c1]
   by_cases c2:m'-i+j≤k∧k<m'+j
   ·rw [if_pos c2,if_neg (by omega),if_neg (by omega),s2 _ hk,if_neg (by omega),if_pos (by omega)];congr 2;omega
   ·rw [if_neg c2,if_neg (by omega),if_neg (by omega),s2 _ hk,if_neg (by omega),if_neg (by omega)]
 ·have hij:i=j:=by omega
  subst hij
  obtain⟨s1,s2⟩:=hf (m'-i) m' i e (by omega) (by omega) (by omega) (by omega) (by omega)
  refine⟨hp _ _ _ _ (by omega) (by omega) (by omega) (by omega) (by omega),h9.trans s1,fun k hk=> ?_⟩
  rw [h10 k hk,s2 k hk]
  repeat' split
  all_goals first | rfl | (exfalso;omega) | (congr 2;omega)
def lV (d:List aj) (a b:Int):Prop:=∀p q,a≤p→p≤q→q<b→le ((d).getD (p).toNat default) ((d).getD (q).toNat default)
def Out (d d':List aj) (a b:Int):Prop:=∀k,0≤k→(k<a∨b≤k)→((d').getD (k).toNat default)=((d).getD (k).toNat default)
theorem ah1 {p:aj×aj×Unit→Bool} {f:aj×aj×Unit→Int×Unit} (hp:∀x y,x.atoms.length<1000000000→p (x,y,())=true) (hf:∀x y,x.atoms.length<1000000000→f (x,y,())=(dZ x.atoms y.atoms,()))
  (a b:Int) (d:List aj) (hd:Sh d) (h1:0≤a) (h2:a≤b) (h3:b≤d.length):
  Rz (std 0) p f (a,b,d,()) (fun y=>Sm d y.1∧Out d y.1 a b∧lV y.1 a b):=by
 have hlen:=hd.1
 dsimp only [Rz,Alg.cl,Alg.cg,Alg.rb,Alg.bd,Alg.l1,Tup.q,Tup.o]
 simp (disch:=omega) only [RR]
 refine aA (fun(y:Int×Int×Int×List aj×Unit)=>y.1=a∧y.2.1=b∧a+1≤y.2.2.1∧(y.2.2.1≤b∨y.2.2.1=a+1)∧Sm d y.2.2.2.1∧Out d y.2.2.2.1 a b∧lV y.2.2.2.1 a y.2.2.1) (fun y=>(b-y.2.2.1).toNat)
  ⟨rfl,rfl,by simp,Or.inr rfl,Sm.refl d,fun k _ _=>rfl,fun p q h1 h2 h3=>by dsimp only at h3;rw [show p=q by omega];exact le_refl _⟩ ?_
 rintro⟨(a':Int),(b':Int),(i:Int),(e:List aj),⟨⟩⟩ hI
 dsimp only at hI ⊢
 obtain⟨rfl,rfl,h4,h5,h6,h7,h8⟩:=hI
 have hle:=h6.1
 simp (disch:=omega) only [RR]
 refine⟨fun h9=> ?_,fun h9=>⟨h6,h7,fun p q g1 g2 g3=>h8 p q g1 g2 (by omega)⟩⟩
 refine aA (fun(y:Int×Int×Int×Int×List aj×Unit)=>y.1=a'∧y.2.1=b'∧y.2.2.1=i∧a'≤y.2.2.2.1∧y.2.2.2.1≤i∧Sm d y.2.2.2.2.1∧Out d y.2.2.2.2.1 a' b'
   ∧(∀p q,a'≤p→p≤q→q≤i→p≠y.2.2.2.1→q≠y.2.2.2.1→le ((y.2.2.2.2.1).getD (p).toNat default) ((y.2.2.2.2.1).getD (q).toNat default))∧(∀q,y.2.2.2.1<q→q≤i→le ((y.2.2.2.2.1).getD (y.2.2.2.1).toNat default) ((y.2.2.2.2.1).getD (q).toNat default))) (fun y=>y.2.2.2.1.toNat)
  ⟨rfl,rfl,rfl,by simp;omega,by simp,h6,h7,fun p q g1 g2 g3 g4 g5=>h8 p q g1 g2 (by dsimp only at g3 g5;omega),fun q g1 g2=>by dsimp only at g1;omega⟩ ?_
 rintro⟨(a'':Int),(b'':Int),(i':Int),(j:Int),(e':List aj),⟨⟩⟩ hI
 dsimp only at hI ⊢
 obtain⟨rfl,rfl,rfl,h10,h11,h12,h13,h14,h15⟩:=hI
 have hle':=h12.1
 have hs:=h12.sh hd
 simp (disch:=omega) only [RR,List.length_set,hp _ _ (hs.at _),hf _ _ (hs.at _)]
 have e1:(e'.set j.toNat ((e').getD (j-1).toNat default)).set (j-1).toNat ((e').getD (j).toNat default)=swp e' j (j-1):=rfl
 rw [e1]
 repeat' (refine And.intro ?_ ?_)
 all_goals try omega
 ·intro ⟨g1,g2⟩
  repeat' (refine And.intro ?_ ?_)
  all_goals try omega
  ·exact h12.trans (KD (by omega) (by omega) (by omega) (by omega))
  ·intro k hk hk2
   rw [uT (by omega) (by omega) (by omega) (by omega) hk,if_neg (by omega),if_neg (by omega)]
   exact h13 k hk hk2
  ·intro p q k1 k2 k3 k4 k5
   rw [uT (by omega) (by omega) (by omega) (by omega) (by omega),if_neg k4,uT (by omega) (by omega) (by omega) (by omega) (by omega),if_neg k5]
   by_cases c1:p=j
   ·rw [if_pos c1]
    by_cases c2:q=j
    ·rw [if_pos c2];exact le_refl _
    ·rw [if_neg c2];exact h14 _ _ (by omega) (by omega) (by omega) (by omega) (by omega)
   ·rw [if_neg c1]
    by_cases c2:q=j
    ·rw [if_pos c2];exact h14 _ _ (by omega) (by omega) (by omega) (by omega) (by omega)
    ·rw [if_neg c2];exact h14 _ _ (by omega) (by omega) (by omega) (by omega) (by omega)
  ·intro q k1 k2
   rw [uT (by omega) (by omega) (by omega) (by omega) (by omega),if_pos rfl,uT (by omega) (by omega) (by omega) (by omega) (by omega),if_neg (by omega)]
   by_cases c2:q=j
   ·rw [if_pos c2];exact le_of_lt g2
   ·rw [if_neg c2];exact h15 q (by omega) k2
 ·intro g
  refine⟨⟨by omega,by omega,h12,h13,?_⟩,by omega⟩
  have hj:a''<j→le ((e').getD (j-1).toNat default) ((e').getD (j).toNat default):=fun c=>qF (by
   simp only [decide_eq_true c,Bool.true_and,decide_eq_false_iff_not]at g;exact g)
  intro p q k1 k2 k3
  by_cases c1:p=j
  ·subst c1
   by_cases c2:q=p
   ·rw [c2];exact le_refl _
   ·exact h15 q (by omega) (by omega)
  ·by_cases c2:q=j
   ·subst c2
    by_cases c3:p=q-1
    ·rw [c3];exact hj (by omega)
    ·exact(h14 p (q-1) k1 (by omega) (by omega) c1 (by omega)).trans (hj (by omega))
   ·exact h14 p q k1 k2 (by omega) c1 c2
end Go.TX.F
namespace Go.TX.F
open Go Go.AE Go.TX
theorem half {x:Int} (h1:0≤x) (h2:x≤4000000000):IntKind.i64.wrap (ji .shr .u64 (IntKind.u64.wrap x) 1)=x/2:=by
 have e1:IntKind.u64.wrap x=x:=by simp [IntKind.wrap,IntKind.bits,IntKind.signed];omega
 have e2:ji .shr .u64 x 1=x/2:=by
  show x.fdiv (2^ (min (Int.toNat 1) IntKind.u64.bits))=x/2
  rw [show(2:Int)^ (min (Int.toNat 1) IntKind.u64.bits)=2 by decide,Int.fdiv_eq_ediv_of_nonneg _ (by omega)]
 rw [e1,e2,w64 (by omega) (by omega)]
structure Mrg (d d':List aj) (a b:Int):Prop where
 sm:Sm d d'
 out:Out d d' a b
 ins:∀k,a≤k→k<b→∃j,a≤j∧j<b∧((d').getD (k).toNat default)=((d).getD (j).toNat default)
 srt:lV d' a b
structure AQ (a m b:Int) (d:List aj):Prop where
 sh:Sh d
 h1:0≤a
 h2:a<m
 h3:m<b
 h4:b≤d.length
 s1:lV d a m
 s2:lV d m b
theorem AU {P Q:Prop} [Decidable P] [Decidable Q]:((decide P&&decide Q)=false)↔¬(P∧Q):=by by_cases h1:P<;>by_cases h2:Q<;>simp [h1,h2]
theorem Oy {p2:Int×Int×Int×List aj×Unit→Bool} {f2:Int×Int×Int×List aj×Unit→List aj×Unit}
    (hp2:∀(a m b:Int) (d:List aj),d.length<1000000000→0≤a→a<m→m<b→b≤d.length→p2 (a,m,b,d,())=true) (hf2:∀(a m b:Int) (d:List aj),d.length<1000000000→0≤a→a<m→m<b→b≤d.length→Rot d (f2 (a,m,b,d,())).1 a m b)
    {p3:Int×Int×Int×List aj×Unit→Bool} {f3:Int×Int×Int×List aj×Unit→List aj×Unit}
    (K:Int) (hp3:∀(a m b:Int) (d:List aj),AQ a m b d→b-a<K→p3 (a,m,b,d,())=true) (hf3:∀(a m b:Int) (d:List aj),AQ a m b d→b-a<K→Mrg d (f3 (a,m,b,d,())).1 a b)
    (a m b mid i E:Int) (d:List aj) (hd:AQ a m b d) (hK:b-a≤K) (hmid:mid=(a+b)/2) (hE:E=mid+m-i)
    (b1:a≤i) (b2:i≤m) (b3:m≤E) (b4:E≤b) (b5:a<mid) (b6:mid<b)
    (fA:i=a∨E=b∨le ((d).getD (i-1).toNat default) ((d).getD (E).toNat default)) (fB:E=m∨i=m∨le ((d).getD (E-1).toNat default) ((d).getD (i).toNat default)):
      (i<m∧m<E→
          p2 (i,m,E,d,())=true∧
            (a<i∧i<mid→
                p3 (a,i,mid,(f2 (i,m,E,d,())).fst,())=true∧
                  (mid<E∧E<b→
                      p3 (mid,E,b,(f3 (a,i,mid,(f2 (i,m,E,d,())).fst,())).fst,())=true∧
                        Mrg d (f3 (mid,E,b,(f3 (a,i,mid,(f2 (i,m,E,d,())).fst,())).fst,())).fst
                          a b)∧
                    ((decide (mid<E)&&decide (E<b))=false→
                      Mrg d (f3 (a,i,mid,(f2 (i,m,E,d,())).fst,())).fst a b))∧
              ((decide (a<i)&&decide (i<mid))=false→
                (mid<E∧E<b→
                    p3 (mid,E,b,(f2 (i,m,E,d,())).fst,())=true∧
                      Mrg d (f3 (mid,E,b,(f2 (i,m,E,d,())).fst,())).fst a b)∧
                  ((decide (mid<E)&&decide (E<b))=false→
                    Mrg d (f2 (i,m,E,d,())).fst a b)))∧
        ((decide (i<m)&&decide (m<E))=false→
          (a<i∧i<mid→
              p3 (a,i,mid,d,())=true∧
                (mid<E∧E<b→
                    p3 (mid,E,b,(f3 (a,i,mid,d,())).fst,())=true∧
                      Mrg d (f3 (mid,E,b,(f3 (a,i,mid,d,())).fst,())).fst a b)∧
                  ((decide (mid<E)&&decide (E<b))=false→
                    Mrg d (f3 (a,i,mid,d,())).fst a b))∧
            ((decide (a<i)&&decide (i<mid))=false→
              (mid<E∧E<b→
                  p3 (mid,E,b,d,())=true∧Mrg d (f3 (mid,E,b,d,())).fst a b)∧
                ((decide (mid<E)&&decide (E<b))=false→Mrg d d a b))):=by
  obtain⟨hs,h1,h2,h3,h4,hA,hB⟩:=hd
  have hlen:=hs.1
  have cross:∀x y,((a≤x∧x<i)∨(m≤x∧x<E))→((i≤y∧y<m)∨(E≤y∧y<b))→le ((d).getD (x).toNat default) ((d).getD (y).toNat default):=by
    rintro x y (hx | hx) (hy | hy)
    · exact hA x y hx.1 (by omega) hy.2
    · rcases fA with fA | fA | fA
      · omega
      · omega
      · exact((hA x (i-1) hx.1 (by omega) (by omega)).trans fA).trans (hB E y b3 hy.1 hy.2)
    · rcases fB with fB | fB | fB
      · omega
      · omega
      · exact((hB x (E-1) hx.1 (by omega) (by omega)).trans fB).trans (hA i y b1 hy.1 hy.2)
    · exact hB x y hx.1 (by omega) hy.2
  have aoq : ∀ e, Rot d e i m E → ∀ R : Prop, R = Mrg d e a b → (a < i ∧ i < mid →
              p3 (a,i,mid,e,())=true∧
                (mid<E∧E<b→
                    p3 (mid,E,b,(f3 (a,i,mid,e,())).fst,())=true∧
                      Mrg d (f3 (mid,E,b,(f3 (a,i,mid,e,())).fst,())).fst a b)∧
                  ((decide (mid<E)&&decide (E<b))=false→
                    Mrg d (f3 (a,i,mid,e,())).fst a b))∧
            ((decide (a<i)&&decide (i<mid))=false→
              (mid<E∧E<b→
                  p3 (mid,E,b,e,())=true∧Mrg d (f3 (mid,E,b,e,())).fst a b)∧
                ((decide (mid<E)&&decide (E<b))=false→R)):=by
    rintro e ⟨r1,r2⟩ R rfl
    have hle:=r1.1
    have hes:=r1.sh hs
    have lo:∀k,a≤k→k<mid→∃x,((a≤x∧x<i)∨(m≤x∧x<E))∧((e).getD (k).toNat default)=((d).getD (x).toNat default):=by
      intro k k1 k2
      rw [r2 k (by omega)]
      by_cases c1:i≤k∧k<i+(E-m)
      · rw [if_pos c1];exact⟨k+(m-i),by omega,rfl⟩
      · rw [if_neg c1,if_neg (by omega)];exact⟨k,by omega,rfl⟩
    have hi:∀k,mid≤k→k<b→∃x,((i≤x∧x<m)∨(E≤x∧x<b))∧((e).getD (k).toNat default)=((d).getD (x).toNat default):=by
      intro k k1 k2
      rw [r2 k (by omega),if_neg (by omega)]
      by_cases c1:i+(E-m)≤k∧k<E
      · rw [if_pos c1];exact⟨k- (E-m),by omega,rfl⟩
      · rw [if_neg c1];exact⟨k,by omega,rfl⟩
    have S1:lV e a i:=by
      intro p q q1 q2 q3
      rw [r2 p (by omega),r2 q (by omega),if_neg (by omega),if_neg (by omega),if_neg (by omega),if_neg (by omega)]
      exact hA p q q1 q2 (by omega)
    have S2:lV e i mid:=by
      intro p q q1 q2 q3
      rw [r2 p (by omega),r2 q (by omega),if_pos (by omega),if_pos (by omega)]
      exact hB _ _ (by omega) (by omega) (by omega)
    have S3:lV e mid E:=by
      intro p q q1 q2 q3
      rw [r2 p (by omega),r2 q (by omega),if_neg (by omega),if_pos (by omega),if_neg (by omega),if_pos (by omega)]
      exact hA _ _ (by omega) (by omega) (by omega)
    have S4:lV e E b:=by
      intro p q q1 q2 q3
      rw [r2 p (by omega),r2 q (by omega),if_neg (by omega),if_neg (by omega),if_neg (by omega),if_neg (by omega)]
      exact hB _ _ (by omega) (by omega) (by omega)
    have fin:∀e1 e2,Mrg e e1 a mid→Mrg e1 e2 mid b→Mrg d e2 a b:=by
      intro e1 e2 m1 m2
      refine⟨(r1.trans m1.sm).trans m2.sm,fun k k1 k2=> ?_,fun k k1 k2=> ?_,fun p q q1 q2 q3=> ?_⟩
      · rw [m2.out k k1 (by omega),m1.out k k1 (by omega),r2 k k1,if_neg (by omega),if_neg (by omega)]
      · by_cases c:k<mid
        · rw [m2.out k (by omega) (by omega)]
          obtain⟨j,j1,j2,j3⟩:=m1.ins k k1 c
          obtain⟨x,x1,x2⟩:=lo j j1 j2
          rw [j3,x2];exact⟨x,by omega,by omega,rfl⟩
        · obtain⟨j,j1,j2,j3⟩:=m2.ins k (by omega) k2
          rw [j3,m1.out j (by omega) (by omega)]
          obtain⟨x,x1,x2⟩:=hi j j1 j2
          rw [x2];exact⟨x,by omega,by omega,rfl⟩
      · by_cases c:q<mid
        · rw [m2.out p (by omega) (by omega),m2.out q (by omega) (by omega)];exact m1.srt p q q1 q2 c
        · by_cases c2:mid≤p
          · exact m2.srt p q c2 q2 q3
          · rw [m2.out p (by omega) (by omega)]
            obtain⟨j,j1,j2,j3⟩:=m1.ins p q1 (by omega)
            obtain⟨x,x1,x2⟩:=lo j j1 j2
            obtain⟨j',j1',j2',j3'⟩:=m2.ins q (by omega) q3
            obtain⟨x',x1',x2'⟩:=hi j' j1' j2'
            rw [j3,x2,j3',m1.out j' (by omega) (by omega),x2']
            exact cross x x' x1 x1'
    have triv:∀e' a' b',lV e' a' b'→Mrg e' e' a' b':=fun e' a' b' h=>⟨Sm.refl _,fun _ _ _=>rfl,fun k k1 k2=>⟨k,k1,k2,rfl⟩,h⟩
    have last : ∀ e1, Mrg e e1 a mid → (mid < E ∧ E < b →
                    p3 (mid,E,b,e1,())=true∧
                      Mrg d (f3 (mid,E,b,e1,())).fst a b)∧
                  ((decide (mid<E)&&decide (E<b))=false→
                    Mrg d e1 a b):=by
      intro e1 m1
      have hle1:=m1.sm.1
      have O:∀a' b',mid≤a'→b'≤b→lV e a' b'→lV e1 a' b':=fun a' b' g1 g2 g p q q1 q2 q3=>by
        rw [m1.out p (by omega) (by omega),m1.out q (by omega) (by omega)];exact g p q q1 q2 q3
      refine⟨fun c=> ?_,fun c=> ?_⟩
      · have pre:AQ mid E b e1:=⟨m1.sm.sh hes,by omega,c.1,c.2,by omega,O _ _ (by omega) (by omega) S3,O _ _ (by omega) (by omega) S4⟩
        exact⟨hp3 _ _ _ _ pre (by omega),fin _ _ m1 (hf3 _ _ _ _ pre (by omega))⟩
      · rw [AU]at c
        refine fin _ _ m1 (triv _ _ _ ?_)
        by_cases c2:mid<E
        · have:E=b:=by omega
          subst this;exact O _ _ (by omega) (by omega) S3
        · have:E=mid:=by omega
          rw [this]at S4;exact O _ _ (by omega) (by omega) S4
    refine⟨fun c=> ?_,fun c=> ?_⟩
    · have pre:AQ a i mid e:=⟨hes,by omega,c.1,c.2,by omega,S1,S2⟩
      exact⟨hp3 _ _ _ _ pre (by omega),last _ (hf3 _ _ _ _ pre (by omega))⟩
    · rw [AU]at c
      refine last e (triv _ _ _ ?_)
      by_cases c2:a<i
      · have:i=mid:=by omega
        rw [←this];exact S1
      · have:i=a:=by omega
        rw [this]at S2;exact S2
  refine⟨fun c=>⟨hp2 _ _ _ _ hlen (by omega) c.1 c.2 (by omega),aoq _ (hf2 _ _ _ _ hlen (by omega) c.1 c.2 (by omega)) _ rfl⟩,fun c=>aoq d ?_ _ rfl⟩
  rw [AU]at c
  refine⟨Sm.refl _,fun k k1=> ?_⟩
  repeat' split
  all_goals first | rfl | (exfalso;omega) | (congr 2;omega)
theorem ah2 {p:aj×aj×Unit→Bool} {f:aj×aj×Unit→Int×Unit} (hp:∀x y,x.atoms.length<1000000000→p (x,y,())=true) (hf:∀x y,x.atoms.length<1000000000→f (x,y,())=(dZ x.atoms y.atoms,()))
  {p2:Int×Int×Int×List aj×Unit→Bool} {f2:Int×Int×Int×List aj×Unit→List aj×Unit}
  (hp2:∀(a m b:Int) (d:List aj),d.length<1000000000→0≤a→a<m→m<b→b≤d.length→p2 (a,m,b,d,())=true) (hf2:∀(a m b:Int) (d:List aj),d.length<1000000000→0≤a→a<m→m<b→b≤d.length→Rot d (f2 (a,m,b,d,())).1 a m b)
  {p3:Int×Int×Int×List aj×Unit→Bool} {f3:Int×Int×Int×List aj×Unit→List aj×Unit}
  (K:Int) (hp3:∀(a m b:Int) (d:List aj),AQ a m b d→b-a<K→p3 (a,m,b,d,())=true) (hf3:∀(a m b:Int) (d:List aj),AQ a m b d→b-a<K→Mrg d (f3 (a,m,b,d,())).1 a b)
  (a m b:Int) (d:List aj) (hd:AQ a m b d) (hK:b-a≤K):
  F3 (std 0) p f p2 f2 p3 f3 (a,m,b,d,()) (fun y=>Mrg d y.1 a b):=by
 obtain⟨hs,h1,h2,h3,h4,hA,hB⟩:=hd
 have hlen:=hs.1
 dsimp only [F3,Alg.cl,Alg.cg,Alg.rb,Alg.bd,Alg.l1,Tup.q,Tup.o]
 simp (disch:=omega) only [RR]
 refine⟨fun h5=> ?_,fun h5=>⟨fun h6=> ?_,fun h6=> ?_⟩⟩
 ·
  have hm:m=a+1:=by omega
  subst hm
  refine aA (fun(y:Int×Int×Int×List aj×Unit)=>y.1=a∧y.2.2.2.1=d∧a+1≤y.2.1∧y.2.1≤y.2.2.1∧y.2.2.1≤b∧(∀q,a+1≤q→q<y.2.1→dZ ((d).getD (q).toNat default).atoms ((d).getD (a).toNat default).atoms<0)∧(∀q,y.2.2.1≤q→q<b→¬dZ ((d).getD (q).toNat default).atoms ((d).getD (a).toNat default).atoms<0)) (fun y=>(y.2.2.1-y.2.1).toNat)
   ⟨rfl,rfl,by simp,by simp;omega,by simp,fun q g1 g2=>by dsimp only at g2;omega,fun q g1 g2=>by dsimp only at g1;omega⟩ ?_
  rintro⟨(a':Int),(i:Int),(j:Int),(d':List aj),⟨⟩⟩ hI
  dsimp only at hI ⊢
  obtain⟨rfl,rfl,g1,g2,g3,g4,g5⟩:=hI
  simp (disch:=omega) only [RR,half,hp _ _ (hs.at _),hf _ _ (hs.at _)]
  refine⟨fun g6=>⟨by omega,by omega,by omega,by omega,by omega,by omega,by omega,by omega,by omega,fun g7=>⟨⟨by omega,by omega,by omega,fun q k1 k2=> ?_,g5⟩,by omega⟩,fun g7=>⟨⟨by omega,by omega,by omega,g4,fun q k1 k2=> ?_⟩,by omega⟩⟩,fun g6=> ?_⟩
  ·exact dD (hB q ((i+j)/2) k1 (by omega) (by omega)) g7
  ·intro g8;exact g7 (dD (hB ((i+j)/2) q (by omega) (by omega) k2) g8)
  have hij:i=j:=by omega
  subst hij
  refine aA (fun(y:Int×Int×List aj×Unit)=>y.1=i∧a'≤y.2.1∧y.2.1≤i-1∧Sm d' y.2.2.1∧(∀k,0≤k→((y.2.2.1).getD (k).toNat default)=if a'≤k∧k<y.2.1 then((d').getD (k+1).toNat default)else if k=y.2.1 then((d').getD (a').toNat default)else((d').getD (k).toNat default))) (fun y=>(i-y.2.1).toNat)
   ⟨rfl,by simp,by simp;omega,Sm.refl _,fun k hk=>by dsimp only;rw [if_neg (by omega)];split;(· congr 2);(· rfl)⟩ ?_
  rintro⟨(i':Int),(k:Int),(e:List aj),⟨⟩⟩ hI
  dsimp only at hI ⊢
  obtain⟨rfl,k1,k2,k3,k4⟩:=hI
  have hle:=k3.1
  simp (disch:=omega) only [RR,List.length_set]
  have e1:(e.set k.toNat ((e).getD (k+1).toNat default)).set (k+1).toNat ((e).getD (k).toNat default)=swp e k (k+1):=rfl
  rw [e1]
  refine⟨fun g7=>⟨by omega,by omega,by omega,by omega,by omega,by omega,by omega,by omega,by omega,by omega,by omega,by omega,by omega,by omega,by omega,by omega,⟨by omega,by omega,k3.trans (KD (by omega) (by omega) (by omega) (by omega)),fun q hq=> ?_⟩,by omega⟩,fun g7=> ?_⟩
  ·rw [uT (by omega) (by omega) (by omega) (by omega) hq,k4 _ (by omega),k4 _ (by omega),k4 _ hq]
   repeat' split
   all_goals first | rfl | (exfalso;omega) | (congr 2;omega)
  ·have hk:k=i'-1:=by omega
   subst hk
   refine⟨k3,fun q hq hq2=> ?_,fun q hq hq2=> ?_,fun q r q1 q2 q3=> ?_⟩
   ·rw [k4 q hq,if_neg (by omega),if_neg (by omega)]
   ·rw [k4 q (by omega)]
    repeat' split
    ·exact⟨q+1,by omega,by omega,rfl⟩
    ·exact⟨a',by omega,by omega,rfl⟩
    ·exact⟨q,by omega,by omega,rfl⟩
   ·rw [k4 q (by omega),k4 r (by omega)]
    by_cases c1:a'≤q∧q<i'-1
    ·rw [if_pos c1]
     by_cases c2:a'≤r∧r<i'-1
     ·rw [if_pos c2];exact hB _ _ (by omega) (by omega) (by omega)
     ·rw [if_neg c2]
      by_cases c3:r=i'-1
      ·rw [if_pos c3];exact le_of_lt (g4 _ (by omega) (by omega))
      ·rw [if_neg c3];exact hB _ _ (by omega) (by omega) (by omega)
    ·rw [if_neg c1,if_neg (by omega:¬(a'≤r∧r<i'-1))]
     by_cases c3:q=i'-1
     ·rw [if_pos c3]
      by_cases c4:r=i'-1
      ·rw [if_pos c4];exact le_refl _
      ·rw [if_neg c4];exact qF (g5 r (by omega) (by omega))
     ·rw [if_neg c3,if_neg (by omega)];exact hB _ _ (by omega) (by omega) (by omega)
 ·
  have hm:b=m+1:=by omega
  subst hm
  refine aA (fun(y:Int×Int×Int×List aj×Unit)=>y.1=m∧y.2.2.2.1=d∧a≤y.2.1∧y.2.1≤y.2.2.1∧y.2.2.1≤m∧(∀q,a≤q→q<y.2.1→¬dZ ((d).getD (m).toNat default).atoms ((d).getD (q).toNat default).atoms<0)∧(∀q,y.2.2.1≤q→q<m→dZ ((d).getD (m).toNat default).atoms ((d).getD (q).toNat default).atoms<0)) (fun y=>(y.2.2.1-y.2.1).toNat)
   ⟨rfl,rfl,by simp,by simp;omega,by simp,fun q g1 g2=>by dsimp only at g2;omega,fun q g1 g2=>by dsimp only at g1;omega⟩ ?_
  rintro⟨(m':Int),(i:Int),(j:Int),(d':List aj),⟨⟩⟩ hI
  dsimp only at hI ⊢
  obtain⟨rfl,rfl,g1,g2,g3,g4,g5⟩:=hI
  simp (disch:=omega) only [RR,half,hp _ _ (hs.at _),hf _ _ (hs.at _)]
  refine⟨fun g6=>⟨by omega,by omega,by omega,by omega,by omega,by omega,by omega,by omega,by omega,fun g7=>⟨⟨by omega,by omega,by omega,fun q k1 k2=> ?_,g5⟩,by omega⟩,fun g7=>⟨⟨by omega,by omega,by omega,g4,fun q k1 k2=> ?_⟩,by omega⟩⟩,fun g6=> ?_⟩
  ·intro g8
   have:=hA q ((i+j)/2) k1 (by omega) (by omega)
   apply g7
   have h7:=jH g8 this
   exact h7
  ·exact jH g7 (hA ((i+j)/2) q (by omega) (by omega) k2)
  have hij:i=j:=by omega
  subst hij
  refine aA (fun(y:Int×Int×List aj×Unit)=>y.1=i∧i≤y.2.1∧y.2.1≤m'∧Sm d' y.2.2.1∧(∀k,0≤k→((y.2.2.1).getD (k).toNat default)=if y.2.1<k∧k≤m' then((d').getD (k-1).toNat default)else if k=y.2.1 then((d').getD (m').toNat default)else((d').getD (k).toNat default))) (fun y=>(y.2.1-i).toNat)
   ⟨rfl,by simp;omega,by simp,Sm.refl _,fun k hk=>by dsimp only;rw [if_neg (by omega)];split;(· congr 2);(· rfl)⟩ ?_
  rintro⟨(i':Int),(k:Int),(e:List aj),⟨⟩⟩ hI
  dsimp only at hI ⊢
  obtain⟨rfl,k1,k2,k3,k4⟩:=hI
  have hle:=k3.1
  simp (disch:=omega) only [RR,List.length_set]
  have e1:(e.set k.toNat ((e).getD (k-1).toNat default)).set (k-1).toNat ((e).getD (k).toNat default)=swp e k (k-1):=rfl
  rw [e1]
  refine⟨fun g7=>⟨by omega,by omega,by omega,by omega,by omega,by omega,by omega,by omega,by omega,by omega,by omega,by omega,by omega,by omega,by omega,by omega,⟨by omega,by omega,k3.trans (KD (by omega) (by omega) (by omega) (by omega)),fun q hq=> ?_⟩,by omega⟩,fun g7=> ?_⟩
  ·rw [uT (by omega) (by omega) (by omega) (by omega) hq,k4 _ (by omega),k4 _ (by omega),k4 _ hq]
   repeat' split
   all_goals first | rfl | (exfalso;omega) | (congr 2;omega)
  ·have hk:k=i':=by omega
   subst hk
   refine⟨k3,fun q hq hq2=> ?_,fun q hq hq2=> ?_,fun q r q1 q2 q3=> ?_⟩
   ·rw [k4 q hq,if_neg (by omega),if_neg (by omega)]
   ·rw [k4 q (by omega)]
    repeat' split
    ·exact⟨q-1,by omega,by omega,rfl⟩
    ·exact⟨m',by omega,by omega,rfl⟩
    ·exact⟨q,by omega,by omega,rfl⟩
   ·rw [k4 q (by omega),k4 r (by omega)]
    by_cases c1:k<q∧q≤m'
    ·rw [if_pos c1,if_pos (by omega)];exact hA _ _ (by omega) (by omega) (by omega)
    ·rw [if_neg c1]
     by_cases c3:q=k
     ·rw [if_pos c3]
      by_cases c2:k<r∧r≤m'
      ·rw [if_pos c2];exact le_of_lt (g5 _ (by omega) (by omega))
      ·rw [if_neg c2,if_pos (by omega)];exact le_refl _
     ·rw [if_neg c3]
      by_cases c2:k<r∧r≤m'
      ·rw [if_pos c2];exact hA _ _ (by omega) (by omega) (by omega)
      ·rw [if_neg c2]
       by_cases c4:r=k
       ·rw [if_pos c4];exact qF (g4 _ (by omega) (by omega))
       ·rw [if_neg c4];exact hA _ _ (by omega) (by omega) (by omega)
 ·
  simp (disch:=omega) only [RR,half]
  refine⟨by omega,fun h7=> ?_,fun h7=> ?_⟩
  ·refine aA (fun(y:Int×Int×Int×Int×Int×Int×Int×Int×List aj×Unit)=>y.1=a∧y.2.1=m∧y.2.2.1=b∧y.2.2.2.1=(a+b)/2∧y.2.2.2.2.1=(a+b)/2+m∧y.2.2.2.2.2.2.2.1=(a+b)/2+m-1∧y.2.2.2.2.2.2.2.2.1=d∧(a+b)/2+m-b≤y.2.2.2.2.2.1∧y.2.2.2.2.2.1≤y.2.2.2.2.2.2.1∧y.2.2.2.2.2.2.1≤(a+b)/2
     ∧(∀q,(a+b)/2+m-b≤q→q<y.2.2.2.2.2.1→¬dZ ((d).getD ((a+b)/2+m-1-q).toNat default).atoms ((d).getD (q).toNat default).atoms<0)∧(∀q,y.2.2.2.2.2.2.1≤q→q< (a+b)/2→dZ ((d).getD ((a+b)/2+m-1-q).toNat default).atoms ((d).getD (q).toNat default).atoms<0)) (fun y=>(y.2.2.2.2.2.2.1-y.2.2.2.2.2.1).toNat)
    ⟨rfl,rfl,rfl,rfl,rfl,rfl,rfl,by simp,by simp;omega,by simp,fun q g1 g2=>by dsimp only at g2;omega,fun q g1 g2=>by dsimp only at g1;omega⟩ ?_
   rintro⟨(a':Int),(m':Int),(b':Int),(mid:Int),(n:Int),(i:Int),(j:Int),(r:Int),(d':List aj),⟨⟩⟩ hI
   dsimp only at hI ⊢
   obtain⟨rfl,rfl,rfl,hmid,hn,hr,rfl,g1,g2,g3,g4,g5⟩:=hI
   rw [←hmid]at g1 g3 g4 g5 h7
   simp (disch:=omega) only [RR,half,hp _ _ (hs.at _),hf _ _ (hs.at _)]
   refine⟨fun g6=>⟨by omega,by omega,by omega,by omega,by omega,by omega,by omega,by omega,by omega,fun g7=>⟨⟨hmid,hn,hr,by omega,by omega,by omega,fun q k1 k2=> ?_,by rw [←hmid];exact g5⟩,by omega⟩,fun g7=>⟨⟨hmid,hn,hr,by omega,by omega,by omega,by rw [←hmid];exact g4,fun q k1 k2=> ?_⟩,by omega⟩⟩,fun g6=> ?_⟩
   ·rw [←hmid]at k1 ⊢
    intro g8
    apply g7
    rw [hr,←hmid]
    exact dD (hB _ _ (by omega) (by omega) (by omega)) (jH g8 (hA _ _ (by omega) (by omega) (by omega)))
   ·rw [←hmid]at k2 ⊢
    rw [hr,←hmid]at g7
    exact dD (hB _ _ (by omega) (by omega) (by omega)) (jH g7 (hA _ _ (by omega) (by omega) (by omega)))
   ·have hij:i=j:=by omega
    subst hij
    refine Oy hp2 hf2 K hp3 hf3 a' m' b' mid i (n-i) d' ⟨hs,h1,h2,h3,h4,hA,hB⟩ hK hmid (by omega) (by omega) (by omega) (by omega) (by omega) (by omega) (by omega) ?_ ?_
    ·by_cases c:i=mid+m'-b'
     ·first | exact Or.inl (by omega) | exact Or.inr (Or.inl (by omega))
     ·refine Or.inr (Or.inr ?_)
      have:=g4 (i-1) (by omega) (by omega)
      rw [show mid+m'-1- (i-1)=n-i by omega]at this
      exact qF this
    ·by_cases c:i=mid
     ·first | exact Or.inl (by omega) | exact Or.inr (Or.inl (by omega))
     ·refine Or.inr (Or.inr ?_)
      have:=g5 i (by omega) (by omega)
      rw [show mid+m'-1-i=n-i-1 by omega]at this
      exact le_of_lt this
  ·refine aA (fun(y:Int×Int×Int×Int×Int×Int×Int×Int×List aj×Unit)=>y.1=a∧y.2.1=m∧y.2.2.1=b∧y.2.2.2.1=(a+b)/2∧y.2.2.2.2.1=(a+b)/2+m∧y.2.2.2.2.2.2.2.1=(a+b)/2+m-1∧y.2.2.2.2.2.2.2.2.1=d∧a≤y.2.2.2.2.2.1∧y.2.2.2.2.2.1≤y.2.2.2.2.2.2.1∧y.2.2.2.2.2.2.1≤m
     ∧(∀q,a≤q→q<y.2.2.2.2.2.1→¬dZ ((d).getD ((a+b)/2+m-1-q).toNat default).atoms ((d).getD (q).toNat default).atoms<0)∧(∀q,y.2.2.2.2.2.2.1≤q→q<m→dZ ((d).getD ((a+b)/2+m-1-q).toNat default).atoms ((d).getD (q).toNat default).atoms<0)) (fun y=>(y.2.2.2.2.2.2.1-y.2.2.2.2.2.1).toNat)
    ⟨rfl,rfl,rfl,rfl,rfl,rfl,rfl,by simp,by simp;omega,by simp,fun q g1 g2=>by dsimp only at g2;omega,fun q g1 g2=>by dsimp only at g1;omega⟩ ?_
   rintro⟨(a':Int),(m':Int),(b':Int),(mid:Int),(n:Int),(i:Int),(j:Int),(r:Int),(d':List aj),⟨⟩⟩ hI
   dsimp only at hI ⊢
   obtain⟨rfl,rfl,rfl,hmid,hn,hr,rfl,g1,g2,g3,g4,g5⟩:=hI
   rw [←hmid]at g4 g5 h7
   simp (disch:=omega) only [RR,half,hp _ _ (hs.at _),hf _ _ (hs.at _)]
   refine⟨fun g6=>⟨by omega,by omega,by omega,by omega,by omega,by omega,by omega,by omega,by omega,fun g7=>⟨⟨hmid,hn,hr,by omega,by omega,by omega,fun q k1 k2=> ?_,by rw [←hmid];exact g5⟩,by omega⟩,fun g7=>⟨⟨hmid,hn,hr,by omega,by omega,by omega,by rw [←hmid];exact g4,fun q k1 k2=> ?_⟩,by omega⟩⟩,fun g6=> ?_⟩
   ·rw [←hmid]
    intro g8
    apply g7
    rw [hr,←hmid]
    exact dD (hB _ _ (by omega) (by omega) (by omega)) (jH g8 (hA _ _ (by omega) (by omega) (by omega)))
   ·rw [←hmid]
    rw [hr,←hmid]at g7
    exact dD (hB _ _ (by omega) (by omega) (by omega)) (jH g7 (hA _ _ (by omega) (by omega) (by omega)))
   ·have hij:i=j:=by omega
    subst hij
    refine Oy hp2 hf2 K hp3 hf3 a' m' b' mid i (n-i) d' ⟨hs,h1,h2,h3,h4,hA,hB⟩ hK hmid (by omega) (by omega) (by omega) (by omega) (by omega) (by omega) (by omega) ?_ ?_
    ·by_cases c:i=a'
     ·first | exact Or.inl (by omega) | exact Or.inr (Or.inl (by omega))
     ·refine Or.inr (Or.inr ?_)
      have:=g4 (i-1) (by omega) (by omega)
      rw [show mid+m'-1- (i-1)=n-i by omega]at this
      exact qF this
    ·by_cases c:i=m'
     ·first | exact Or.inl (by omega) | exact Or.inr (Or.inl (by omega))
     ·refine Or.inr (Or.inr ?_)
      have:=g5 i (by omega) (by omega)
      rw [show mid+m'-1-i=n-i-1 by omega]at this
      exact le_of_lt this
end Go.TX.F
namespace Go.TX.F
open Go Go.AE Go.TX
theorem vX {s a x:Int} (h:s ∣ a) (h1:a<x) (h2:x<a+s):¬s ∣ x:=fun h3=>by
 have:=Int.le_of_dvd (by omega) (Int.dvd_sub h3 h);omega
theorem lV.adj {d:List aj} {a b:Int} (h:∀p,a≤p→p+1<b→le ((d).getD (p).toNat default) ((d).getD (p+1).toNat default)):lV d a b:=by
 intro p q h1 h2 h3
 obtain⟨n,hn⟩:∃n:Nat,q=p+n:=⟨(q-p).toNat,by omega⟩
 subst hn
 clear h2
 induction n with
 | zero=>rw [show p+((0:Nat):Int)=p by omega];exact le_refl _
 | succ n ih=>
  have:=h (p+n) (by omega) (by omega)
  rw [show p+((n+1:Nat):Int)=p+n+1 by omega]
  exact(ih (by omega)).trans this
theorem lV.at1 {d:List aj} {a b p:Int} (h:lV d a b) (h1:a≤p) (h2:p+1<b):le ((d).getD (p).toNat default) ((d).getD (p+1).toNat default):=h p (p+1) h1 (by omega) h2
def Bl (d:List aj) (s n:Int):Prop:=∀p,0≤p→p+1<n→¬s ∣ p+1→le ((d).getD (p).toNat default) ((d).getD (p+1).toNat default)
theorem ah3 {p:Int×Int×List aj×Unit→Bool} {f:Int×Int×List aj×Unit→List aj×Unit}
  (hp:∀(a b:Int) (d:List aj),Sh d→0≤a→a≤b→b≤d.length→p (a,b,d,())=true) (hf:∀(a b:Int) (d:List aj),Sh d→0≤a→a≤b→b≤d.length→Sm d (f (a,b,d,())).1∧Out d (f (a,b,d,())).1 a b∧lV (f (a,b,d,())).1 a b)
  {p3:Int×Int×Int×List aj×Unit→Bool} {f3:Int×Int×Int×List aj×Unit→List aj×Unit}
  (hp3:∀(a m b:Int) (d:List aj),AQ a m b d→p3 (a,m,b,d,())=true) (hf3:∀(a m b:Int) (d:List aj),AQ a m b d→Mrg d (f3 (a,m,b,d,())).1 a b)
  (n:Int) (d:List aj) (hd:Sh d) (hn:n=d.length):
  RH (std 0) p f p3 f3 (n,d,()) (fun y=>Sm d y.1∧lV y.1 0 n):=by
 have hlen:=hd.1
 dsimp only [RH,Alg.cl,Alg.cg,Alg.rb,Alg.bd,Alg.l1,Tup.q,Tup.o]
 simp (disch:=omega) only [RR]
 refine aA (fun(y:Int×Int×Int×Int×List aj×Unit)=>y.1=n∧y.2.1=20∧0≤y.2.2.1∧y.2.2.1≤n∧(20:Int) ∣ y.2.2.1∧y.2.2.2.1=y.2.2.1+20∧Sm d y.2.2.2.2.1∧Bl y.2.2.2.2.1 20 y.2.2.1) (fun y=>(n+20-y.2.2.2.1).toNat)
  ⟨rfl,rfl,by simp,by simp;omega,⟨0,by simp⟩,rfl,Sm.refl _,fun p h1 h2=>by dsimp only at h2;omega⟩ ?_
 rintro⟨(n':Int),(s:Int),(a:Int),(b:Int),(e:List aj),⟨⟩⟩ hI
 dsimp only at hI ⊢
 obtain⟨rfl,rfl,h1,h2,h3,rfl,h5,h6⟩:=hI
 have hle:=h5.1
 have hs:=h5.sh hd
 simp (disch:=omega) only [RR]
 have bl:∀a c (e e':List aj),0≤a→(20:Int) ∣ a→c≤a+20→Bl e 20 a→Out e e' a c→lV e' a c→Bl e' 20 c:=by
  intro a c e e' c0 c1 c2 c3 c4 c5 q q1 q2 q3
  by_cases k1:q+1<a
  ·rw [c4 q q1 (by omega),c4 (q+1) (by omega) (by omega)];exact c3 q q1 k1 q3
  ·exact c5.at1 (by omega) q2
 refine⟨fun h7=> ?_,fun h7=> ?_⟩
 ·obtain⟨t1,t2,t3⟩:=hf a (a+20) e hs h1 (by omega) (by omega)
  exact⟨hp a (a+20) e hs h1 (by omega) (by omega),⟨by omega,by omega,by omega,h5.trans t1,bl a (a+20) _ _ h1 h3 (by omega) h6 t2 t3⟩,by omega⟩
 obtain⟨t1,t2,t3⟩:=hf a n' e hs h1 (by omega) (by omega)
 refine⟨hp a n' e hs h1 (by omega) (by omega),?_⟩
 have t4:=bl a n' _ _ h1 h3 (by omega) h6 t2 t3
 generalize (f (a,n',e,())).1=e2 at t1 t2 t3 t4 ⊢
 have u1:=h5.trans t1
 clear t1 t2 t3 h5 h6
 refine aA (fun(y:Int×Int×List aj×Unit)=>y.1=n'∧0<y.2.1∧(y.2.1≤20∨y.2.1≤2*n')∧Sm d y.2.2.1∧Bl y.2.2.1 y.2.1 n') (fun y=>(n'-y.2.1).toNat)
  ⟨rfl,by simp,Or.inl (by simp),u1,t4⟩ ?_
 rintro⟨(n:Int),(s:Int),(e3:List aj),⟨⟩⟩ hI
 dsimp only at hI ⊢
 obtain⟨rfl,g1,g2,g3,g4⟩:=hI
 simp (disch:=omega) only [RR]
 refine⟨fun g5=> ?_,fun g5=>⟨g3,lV.adj fun q q1 q2=>g4 q q1 q2 (vX (a:=0) ⟨0,by simp⟩ (by omega) (by omega))⟩⟩
 refine aA (fun(y:Int×Int×Int×Int×List aj×Unit)=>y.1=n∧y.2.1=s∧0≤y.2.2.1∧y.2.2.1≤n∧(2*s) ∣ y.2.2.1∧y.2.2.2.1=y.2.2.1+2*s∧Sm d y.2.2.2.2.1
   ∧∀p,0≤p→p+1<n→¬(2*s) ∣ p+1→(p+1<y.2.2.1∨¬s ∣ p+1)→le ((y.2.2.2.2.1).getD (p).toNat default) ((y.2.2.2.2.1).getD (p+1).toNat default)) (fun y=>(n+2*s-y.2.2.2.1).toNat)
  ⟨rfl,rfl,by simp,by simp;omega,⟨0,by simp⟩,by simp,g3,fun q q1 q2 q3 q4=>g4 q q1 q2 (by dsimp only at q4;rcases q4 with q4 | q4;(· omega);(· exact q4))⟩ ?_
 rintro⟨(n':Int),(s':Int),(a:Int),(b:Int),(e4:List aj),⟨⟩⟩ hI
 dsimp only at hI ⊢
 obtain⟨rfl,rfl,k1,k2,k3,rfl,k5,k6⟩:=hI
 have hle:=k5.1
 have hs:=k5.sh hd
 have ks:s' ∣ a:=Int.dvd_trans ⟨2,by omega⟩ k3
 simp (disch:=omega) only [RR]
 have blk:∀x,x≤n'→a+s'<x→x≤a+2*s'→AQ a (a+s') x e4:=fun x x1 x2 x3=>
  ⟨hs,k1,by omega,x2,by omega,lV.adj fun q q1 q2=>by
   refine k6 q (by omega) (by omega) (vX k3 (by omega) (by omega)) (Or.inr (vX ks (by omega) (by omega))),
   lV.adj fun q q1 q2=>by
   refine k6 q (by omega) (by omega) (vX k3 (by omega) (by omega)) (Or.inr (vX (Int.dvd_add ks (Int.dvd_refl s')) (by omega) (by omega)))⟩
 have stp:∀x e5,x≤n'→(x=a+2*s'∨x=n')→x≤a+2*s'→Mrg e4 e5 a x→∀p,0≤p→p+1<n'→¬(2*s') ∣ p+1→(p+1<x∨¬s' ∣ p+1)→le ((e5).getD (p).toNat default) ((e5).getD (p+1).toNat default):=by
  intro x e5 x1 x2 x3 m1 q q1 q2 q3 q4
  by_cases c1:q+1<a
  ·rw [m1.out q q1 (by omega),m1.out (q+1) (by omega) (by omega)];exact k6 q q1 q2 q3 (Or.inl c1)
  ·by_cases c2:q+1=a
   ·rw [c2]at q3;exact absurd k3 q3
   ·by_cases c3:q+1<x
    ·exact m1.srt.at1 (by omega) c3
    ·by_cases c4:q+1=x
     ·exfalso
      rcases x2 with x2 | x2
      ·rw [c4,x2]at q3;exact q3 (Int.dvd_add k3 (Int.dvd_refl _))
      ·omega
     ·rw [m1.out q q1 (by omega),m1.out (q+1) (by omega) (by omega)]
      refine k6 q q1 q2 q3 (Or.inr ?_)
      rcases q4 with q4 | q4
      ·omega
      ·exact q4
 refine⟨fun k7=> ?_,fun k7=>⟨fun k8=> ?_,fun k8=> ?_⟩⟩
 ·have pre:=blk (a+2*s') k7 (by omega) (by omega)
  have m1:=hf3 _ _ _ _ pre
  exact⟨hp3 _ _ _ _ pre,⟨by omega,by omega,Int.dvd_add k3 (Int.dvd_refl _),k5.trans m1.sm,stp _ _ k7 (Or.inl rfl) (by omega) m1⟩,by omega⟩
 ·have pre:=blk n' (by omega) k8 (by omega)
  have m1:=hf3 _ _ _ _ pre
  refine⟨hp3 _ _ _ _ pre,⟨by omega,Or.inr (by omega),k5.trans m1.sm,fun q q1 q2 q3=> ?_⟩,by omega⟩
  exact stp _ _ (by omega) (Or.inr rfl) (by omega) m1 q q1 q2 (by rw [Int.mul_comm];exact q3) (Or.inl q2)
 ·refine⟨⟨by omega,Or.inr (by omega),k5,fun q q1 q2 q3=> ?_⟩,by omega⟩
  rw [Int.mul_comm]at q3
  by_cases c1:q+1<a
  ·exact k6 q q1 q2 q3 (Or.inl c1)
  ·by_cases c2:q+1=a
   ·rw [c2]at q3;exact absurd k3 q3
   ·exact k6 q q1 q2 q3 (Or.inr (vX ks (by omega) (by omega)))
theorem ah4 {p:Int×List aj×Unit→Bool} {f:Int×List aj×Unit→List aj×Unit} (hp:∀(n:Int) (d:List aj),Sh d→n=d.length→p (n,d,())=true)
  (hf:∀(n:Int) (d:List aj),Sh d→n=d.length→Sm d (f (n,d,())).1∧lV (f (n,d,())).1 0 n) (d:List aj) (hd:Sh d):
  RJ (std 0) p f (d,()) (fun y=>Sm d y.1∧lV y.1 0 d.length):=by
 have:=hf _ d hd rfl
 dsimp only [RJ,Alg.cl,Alg.cg,Alg.rb,Alg.bd,Alg.l1,Tup.q,Tup.o]
 exact⟨hp _ d hd rfl,this⟩
end Go.TX.F
namespace Go.TX.F
open Go Go.AE Go.TX
def cf (l:List aj) (k:List Int):Int:=(l.map fun m=>if m.atoms=k then m.gq else 0).sum
theorem jm (k:List Int):cf [] k=0:=rfl
theorem bD (m:aj) (l:List aj) (k:List Int):cf (m::l) k=(if m.atoms=k then m.gq else 0)+cf l k:=by simp [cf]
theorem mI (a b:List aj) (k:List Int):cf (a++b) k=cf a k+cf b k:=by simp [cf]
theorem gK {k:List Int}:∀ {l:List aj},(∀m∈l,m.atoms≠k)→cf l k=0
 | [],_=>rfl
 | m::l,h=>by rw [bD,if_neg (h m (by simp)),gK (fun m hm=>h m (by simp [hm]))];rfl
theorem Sm.cf {a b:List aj} (h:Sm a b) (k:List Int):cf b k=cf a k:=h.sum _
def lt (a b:aj):Prop:=dZ a.atoms b.atoms<0
theorem lt.ne {a b:aj} (h:lt a b):a.atoms≠b.atoms:=fun e=>by unfold lt at h;rw [e,iD.2 rfl]at h;omega
structure Nf (o:List aj):Prop where
 ss:o.Pairwise lt
 co:∀m∈o,1≤m.gq∧m.gq≤65535
theorem UW:∀ {o1 o2:List aj},Nf o1→Nf o2→(∀k,cf o1 k=cf o2 k)→o1=o2
 | [],[],_,_,_=>rfl
 | [],m::o,_,h2,h=>by
  have:=h m.atoms
  rw [bD,if_pos rfl,gK (fun m' hm'=>((List.rel_of_pairwise_cons h2.ss hm').ne).symm),jm]at this
  have:=(h2.co m (by simp));omega
 | m::o,[],h1,_,h=>by
  have:=h m.atoms
  rw [bD,if_pos rfl,gK (fun m' hm'=>((List.rel_of_pairwise_cons h1.ss hm').ne).symm),jm]at this
  have:=(h1.co m (by simp));omega
 | m1::o1,m2::o2,h1,h2,h=>by
  have c1:=h1.co m1 (by simp)
  have c2:=h2.co m2 (by simp)
  have z1:cf o1 m1.atoms=0:=gK fun m' hm'=>((List.rel_of_pairwise_cons h1.ss hm').ne).symm
  have z2:cf o2 m2.atoms=0:=gK fun m' hm'=>((List.rel_of_pairwise_cons h2.ss hm').ne).symm
  have tr:∀ {a b c:aj},lt a b→lt b c→lt a c:=fun g1 g2=>dD (le_of_lt g1) g2
  have e:m1.atoms=m2.atoms:=by
   by_cases g1:lt m1 m2
   ·have:=h m1.atoms
    rw [bD,if_pos rfl,z1,bD,if_neg (fun e=>g1.ne e.symm),gK (fun m' hm'=>((tr g1 (List.rel_of_pairwise_cons h2.ss hm')).ne).symm)]at this
    omega
   ·by_cases g2:lt m2 m1
    ·have:=h m2.atoms
     rw [bD,if_neg (fun e=>g2.ne e.symm),gK (fun m' hm'=>((tr g2 (List.rel_of_pairwise_cons h1.ss hm')).ne).symm),bD,if_pos rfl,z2]at this
     omega
    ·unfold lt at g1 g2
     rw [kP]at g2
     exact iD.1 (by omega)
  have ec:m1.gq=m2.gq:=by
   have:=h m1.atoms
   rw [bD,if_pos rfl,z1,bD,if_pos e.symm,e,z2]at this;omega
  have em:m1=m2:=by cases m1;cases m2;simp_all
  subst em
  refine congrArg _ (UW ⟨h1.ss.tail,fun m hm=>h1.co m (by simp [hm])⟩ ⟨h2.ss.tail,fun m hm=>h2.co m (by simp [hm])⟩ (fun k=>by
   have:=h k;rw [bD,bD]at this;omega))
noncomputable def nf (l:List aj):List aj:= @dite _ (∃o,Nf o∧∀k,cf o k=cf l k%65536) (Classical.propDecidable _) (fun h=>Classical.choose h) (fun _=> [])
theorem Jo {l o:List aj} (h:Nf o) (h2:∀k,cf o k=cf l k%65536):nf l=o:=by
 have he:∃o,Nf o∧∀k,cf o k=cf l k%65536:=⟨o,h,h2⟩
 unfold nf;rw [dif_pos he]
 have:=Classical.choose_spec he
 exact UW this.1 h (fun k=>(this.2 k).trans (h2 k).symm)
theorem Oz {l l':List aj} (h:∀k,cf l k%65536=cf l' k%65536):nf l=nf l':=by
 unfold nf
 have:(fun o=>Nf o∧∀k,cf o k=cf l k%65536)=(fun o=>Nf o∧∀k,cf o k=cf l' k%65536):=by funext o;simp only [h]
 have e:(∃o,Nf o∧∀k,cf o k=cf l k%65536)=(∃o,Nf o∧∀k,cf o k=cf l' k%65536):=congrArg Exists this
 by_cases h1:∃o,Nf o∧∀k,cf o k=cf l k%65536
 ·rw [dif_pos h1,dif_pos (e▸h1)];congr 1
 ·rw [dif_neg h1,dif_neg (e▸h1)]
noncomputable def jZ (l:List aj):Bool×List aj:=(bp (aO (nf l)),if bp (aO (nf l))then nf l else [])
def Cb (l:List aj):Prop:=∀m∈l,0≤m.gq∧m.gq≤65535
theorem aor {p1:List Int×List Int×Unit→Bool} {f1:List Int×List Int×Unit→Int×Unit} (hp1:∀a b,a.length<1000000000→p1 (a,b,())=true) (hf1:∀a b,a.length<1000000000→f1 (a,b,())=(dZ a b,()))
  {p2:List aj×Unit→Bool} {f2:List aj×Unit→Bool×Unit} (hp2:∀a,Sh a→p2 (a,())=true) (hf2:∀a,Sh a→f2 (a,())=(bp (aO a),()))
  {p3:Int×Unit→Bool} {f3:Int×Unit→Int×Unit} (hp3:∀a,p3 (a,())=true) (hf3:∀a,f3 (a,())=(a%65536,()))
  {p4:List Int×Unit→Bool} {f4:List Int×Unit→List Int×Unit} (hp4:∀a,a.length≤1073741824→p4 (a,())=true) (hf4:∀a,a.length≤1073741824→f4 (a,())=(a,()))
  {p5:List aj×Unit→Bool} {f5:List aj×Unit→List aj×Unit} (hp5:∀d,Sh d→p5 (d,())=true) (hf5:∀d,Sh d→Sm d (f5 (d,())).1∧lV (f5 (d,())).1 0 d.length)
  (l:List aj) (hl:Sh l) (hc:Cb l):Y8 (std 0) p1 f1 p2 f2 p3 f3 p4 f4 p5 f5 (l,()) (fun y=>y.1=(jZ l).1∧y.2.2.1=(jZ l).2):=by
 obtain⟨s1,s2⟩:=hf5 l hl
 dsimp only [Y8,Alg.cl,Alg.cg,Alg.rb,Alg.bd,Alg.l1,Tup.q,Tup.o]
 simp (disch:=omega) only [RR,hp5 l hl]
 generalize (f5 (l,())).1=d at s1 s2 ⊢
 have hle:=s1.1
 have hs:=s1.sh hl
 have hlen:=hs.1
 have hcd:Cb d:=fun m hm=>hc m (s1.mem hm)
 refine aA (fun(y:Int×List aj×List aj×Unit)=>0≤y.1∧y.1≤d.length∧y.2.1=d∧Nf y.2.2.1∧y.2.2.1.length≤y.1∧(∀k,cf y.2.2.1 k=cf (d.take y.1.toNat) k%65536)∧(∀m∈y.2.2.1,m∈y.2.2.1→m.atoms.length<1000000000)
   ∧(y.1<d.length→(∀m∈y.2.2.1,lt m ((d).getD (y.1).toNat default))∧(∀m∈d.take y.1.toNat,lt m ((d).getD (y.1).toNat default)))) (fun y=>(d.length-y.1).toNat)
  ⟨by simp,by simp,rfl,⟨List.Pairwise.nil,fun m hm=>absurd hm (by simp)⟩,by simp,fun k=>by simp [cf],fun m hm=>absurd hm (by simp),fun _=>⟨fun m hm=>absurd hm (by simp),fun m hm=>absurd hm (by simp)⟩⟩ ?_
 rintro⟨(i:Int),(d':List aj),(o:List aj),⟨⟩⟩ hI
 dsimp only at hI ⊢
 obtain⟨h1,h2,rfl,h4,h5,h6,h7,h8⟩:=hI
 have ho:Sh o:=⟨by omega,fun m hm=>h7 m hm hm⟩
 simp (disch:=omega) only [RR,hp2 o ho,hf2 o ho]
 refine⟨fun h9=>⟨by omega,by omega,by omega,by omega,?_⟩,fun h9=> ?_⟩
 ·obtain⟨g1,g2⟩:=h8 h9
  have z:cf (d'.take i.toNat) ((d').getD (i).toNat default).atoms=0:=gK fun m hm=>(g2 m hm).ne
  refine aA (fun(y:Int×Int×List aj×aj×List aj×Unit)=>i≤y.1∧y.1≤d'.length∧y.2.2.1=d'∧y.2.2.2.1=((d').getD (i).toNat default)∧y.2.2.2.2.1=o∧y.2.1=cf (d'.take y.1.toNat) ((d').getD (i).toNat default).atoms%65536
    ∧(∀k,k≠((d').getD (i).toNat default).atoms→cf (d'.take y.1.toNat) k=cf (d'.take i.toNat) k)∧(∀m∈d'.take y.1.toNat,lt m ((d').getD (i).toNat default)∨m.atoms=((d').getD (i).toNat default).atoms)) (fun y=>(d'.length-y.1).toNat)
   ⟨by simp,by simp;omega,rfl,rfl,rfl,by rw [z];rfl,fun k _=>rfl,fun m hm=>Or.inl (g2 m hm)⟩ ?_
  rintro⟨(j:Int),(c:Int),(d'':List aj),(fi:aj),(o':List aj),⟨⟩⟩ hI
  dsimp only at hI ⊢
  obtain⟨k1,k2,rfl,rfl,rfl,k6,k7,k8⟩:=hI
  have hc0:0≤c∧c<65536:=by omega
  have hcj:j<d''.length→0≤((d'').getD (j).toNat default).gq∧((d'').getD (j).toNat default).gq≤65535:=fun h=>hcd _ (lG (by omega) h)
  simp (disch:=omega) only [RR,hp1 _ _ (hs.at _),hf1 _ _ (hs.at _),hp3,hf3,hp4 _ (Nat.le_trans (Nat.le_of_lt (hs.at _)) (by omega)),hf4 _ (Nat.le_trans (Nat.le_of_lt (hs.at _)) (by omega))]
  refine⟨by omega,by omega,by omega,by omega,fun⟨m1,m2⟩=> ?_,fun m1=>⟨fun m2=>⟨?_,?_,?_⟩,fun m2=>⟨?_,?_⟩⟩⟩
  ·have e:=iD.1 m2
   have:=hcj m1
   rw [w64 (by omega) (by omega)]
   have ts:d''.take (j+1).toNat=d''.take j.toNat++ [((d'').getD (j).toNat default)]:=(jG (by omega) m1 rfl).symm
   refine⟨by omega,by omega,by omega,by omega,⟨by omega,by omega,?_,fun k hk=> ?_,fun m hm=> ?_⟩,by omega⟩
   ·rw [ts,mI,bD,if_pos e.symm,jm,k6];omega
   ·rw [ts,mI,bD,if_neg (fun h=>hk (by rw [e,h])),jm,k7 k hk];omega
   ·rw [ts,List.mem_append,List.mem_singleton]at hm
    rcases hm with hm | hm
    ·exact k8 m hm
    ·right;rw [hm,e]
  all_goals
   have hb:j<d''.length→lt ((d'').getD (i).toNat default) ((d'').getD (j).toNat default):=fun hj=>by
    rw [decide_eq_true hj,Bool.true_and,decide_eq_false_iff_not]at m1
    have:=s2 i j h1 k1 (by omega)
    unfold le at this;unfold lt;omega
   have hij:i<j:=by
    by_cases hj:j<d''.length
    ·by_cases e:i=j
     ·have:=(hb hj).ne;rw [e]at this;exact absurd rfl this
     ·omega
    ·omega
  ·simp only [List.length_append,List.length_cons,List.length_nil];omega
  ·have co:∀k,cf (o'++ [⟨c,((d'').getD (i).toNat default).atoms⟩]) k=cf (d''.take j.toNat) k%65536:=fun k=>by
    rw [mI,bD,jm]
    dsimp only
    by_cases hk:((d'').getD (i).toNat default).atoms=k
    ·subst hk
     rw [if_pos rfl,gK (fun m hm=>(g1 m hm).ne),k6];omega
    ·rw [if_neg hk,k7 k (fun e=>hk e.symm),h6 k];omega
   refine⟨by omega,by omega,⟨?_,?_⟩,?_,co,?_,fun hj=>⟨?_,?_⟩⟩
   ·rw [List.pairwise_append]
    exact⟨h4.ss,List.pairwise_singleton _ _,fun a ha b hb=>by rw [List.mem_singleton]at hb;subst hb;exact g1 a ha⟩
   ·intro m hm
    rw [List.mem_append,List.mem_singleton]at hm
    rcases hm with hm | rfl
    ·exact h4.co m hm
    ·dsimp only;omega
   ·simp only [List.length_append,List.length_cons,List.length_nil];omega
   ·intro m hm _
    rw [List.mem_append,List.mem_singleton]at hm
    rcases hm with hm | rfl
    ·exact h7 m hm hm
    ·exact hs.at _
   ·intro m hm
    rw [List.mem_append,List.mem_singleton]at hm
    rcases hm with hm | rfl
    ·exact dD (le_of_lt (g1 m hm)) (hb hj)
    ·exact hb hj
   ·intro m hm
    rcases k8 m hm with k | k
    ·exact dD (le_of_lt k) (hb hj)
    ·have:=hb hj;unfold lt at this ⊢;rw [k];exact this
  ·omega
  ·refine⟨by omega,by omega,h4,by omega,fun k=> ?_,h7,fun hj=>⟨?_,?_⟩⟩
   ·by_cases hk:((d'').getD (i).toNat default).atoms=k
    ·subst hk
     rw [gK (fun m hm=>(g1 m hm).ne)];omega
    ·rw [k7 k (fun e=>hk e.symm),h6 k]
   ·intro m hm
    exact dD (le_of_lt (g1 m hm)) (hb hj)
   ·intro m hm
    rcases k8 m hm with k | k
    ·exact dD (le_of_lt k) (hb hj)
    ·have:=hb hj;unfold lt at this ⊢;rw [k];exact this
  ·omega
 ·have e:nf l=o:=Jo h4 (fun k=>by rw [h6 k,List.take_of_length_le (by omega),s1.cf k])
  unfold jZ
  rw [e]
  refine⟨fun h=> ?_,fun h=> ?_⟩
  ·rw [h];exact⟨rfl,by simp⟩
  ·rw [h];exact⟨rfl,by simp⟩
end Go.TX.F
namespace Go.TX.F
open Go Go.AE Go.TX
theorem ah5 (n:Int) (h1:0≤n) (h2:n≤1073741824):RL (std 0) (n,()) (fun y=>y=([],())):=by
 dsimp only [RL,Alg.cl,Alg.cg,Alg.rb,Alg.bd,Alg.l1,Tup.q,Tup.o]
 simp (disch:=omega) only [RR]
 refine⟨fun h=>by omega,fun _ h=>⟨by omega,by omega,by rw [List.length_replicate];omega,by omega,by omega,by omega,by omega,by omega,?_⟩⟩
 rfl
theorem aos {p:Int×Unit→Bool} {f:Int×Unit→List aj×Unit} (hp:∀n:Int,0≤n→n≤1073741824→p (n,())=true) (hf:∀n:Int,0≤n→n≤1073741824→f (n,())=([],()))
  (a b:List aj) (ha:a.length≤100000000) (hb:b.length≤100000000):Y9 (std 0) p f ([a,b],()) (fun y=>y=(a++b,())):=by
 dsimp only [Y9,Alg.cl,Alg.cg,Alg.rb,Alg.bd,Alg.l1,Tup.q,Tup.o]
 refine aA (fun(y:List (List aj)×Int×List (List aj)×Int×Int×Unit)=>y.1=[a,b]∧y.2.2.1=[a,b]∧y.2.2.2.1=2∧((y.2.2.2.2.1=0∧y.2.1=0)∨(y.2.2.2.2.1=1∧y.2.1=a.length)∨(y.2.2.2.2.1=2∧y.2.1=a.length+b.length))) (fun y=>(2-y.2.2.2.2.1).toNat)
  ⟨rfl,rfl,rfl,Or.inl ⟨rfl,rfl⟩⟩ ?_
 rintro⟨(l:List (List aj)),(s:Int),(l2:List (List aj)),(n:Int),(i:Int),⟨⟩⟩ hI
 dsimp only at hI ⊢
 obtain⟨rfl,rfl,rfl,h⟩:=hI
 simp (disch:=omega) only [RR]
 have g0: [a,b].getD (Int.toNat 0) default=a:=rfl
 have g1: [a,b].getD (Int.toNat 1) default=b:=rfl
 have gl:([a,b].length:Int)=2:=rfl
 refine⟨fun hi=> ?_,fun hi=> ?_⟩
 ·rcases h with⟨rfl,rfl⟩ | ⟨rfl,rfl⟩ | ⟨rfl,rfl⟩
  ·rw [g0,w64 (by omega) (by omega)]
   exact⟨by omega,by omega,fun h=>by omega,fun h=>⟨Or.inr (Or.inl ⟨by omega,by omega⟩),by omega⟩⟩
  ·rw [g1,w64 (by omega) (by omega)]
   exact⟨by omega,by omega,fun h=>by omega,fun h=>⟨Or.inr (Or.inr ⟨by omega,by omega⟩),by omega⟩⟩
  ·omega
 ·have hs:0≤s∧s≤200000000:=by omega
  refine⟨hp s (by omega) (by omega),?_⟩
  rw [hf s (by omega) (by omega)]
  refine aA (fun(y:List (List aj)×Int×Int×List aj×Unit)=>y.1=[a,b]∧y.2.1=2∧((y.2.2.1=0∧y.2.2.2.1=[])∨(y.2.2.1=1∧y.2.2.2.1=a)∨(y.2.2.1=2∧y.2.2.2.1=a++b))) (fun y=>(2-y.2.2.1).toNat)
   ⟨rfl,rfl,Or.inl ⟨rfl,rfl⟩⟩ ?_
  rintro⟨(l:List (List aj)),(n:Int),(j:Int),(o:List aj),⟨⟩⟩ hI
  dsimp only at hI ⊢
  obtain⟨rfl,rfl,h3⟩:=hI
  simp (disch:=omega) only [RR]
  refine⟨fun hj=> ?_,fun hj=> ?_⟩
  ·rcases h3 with⟨rfl,rfl⟩ | ⟨rfl,rfl⟩ | ⟨rfl,rfl⟩
   ·rw [g0]
    exact⟨by omega,by omega,by simp only [List.length_nil];omega,Or.inr (Or.inl ⟨by omega,rfl⟩),by omega⟩
   ·rw [g1]
    exact⟨by omega,by omega,by omega,Or.inr (Or.inr ⟨by omega,rfl⟩),by omega⟩
   ·omega
  ·rcases h3 with⟨rfl,rfl⟩ | ⟨rfl,rfl⟩ | ⟨rfl,rfl⟩
   ·omega
   ·omega
   ·rfl
theorem ZP (n:Int) (h1:0≤n) (h2:n≤1073741824):RN (std 0) (n,()) (fun y=>y=([],())):=by
 dsimp only [RN,Alg.cl,Alg.cg,Alg.rb,Alg.bd,Alg.l1,Tup.q,Tup.o]
 simp (disch:=omega) only [RR]
 refine⟨fun h=>by omega,fun _ h=>⟨by omega,by omega,by rw [List.length_replicate];omega,by omega,by omega,by omega,by omega,by omega,?_⟩⟩
 rfl
theorem ah6 {p:Int×Unit→Bool} {f:Int×Unit→List Int×Unit} (hp:∀n:Int,0≤n→n≤1073741824→p (n,())=true) (hf:∀n:Int,0≤n→n≤1073741824→f (n,())=([],()))
  (a b:List Int) (ha:a.length≤100000000) (hb:b.length≤100000000):RO (std 0) p f ([a,b],()) (fun y=>y=(a++b,())):=by
 dsimp only [RO,Alg.cl,Alg.cg,Alg.rb,Alg.bd,Alg.l1,Tup.q,Tup.o]
 refine aA (fun(y:List (List Int)×Int×List (List Int)×Int×Int×Unit)=>y.1=[a,b]∧y.2.2.1=[a,b]∧y.2.2.2.1=2∧((y.2.2.2.2.1=0∧y.2.1=0)∨(y.2.2.2.2.1=1∧y.2.1=a.length)∨(y.2.2.2.2.1=2∧y.2.1=a.length+b.length))) (fun y=>(2-y.2.2.2.2.1).toNat)
  ⟨rfl,rfl,rfl,Or.inl ⟨rfl,rfl⟩⟩ ?_
 rintro⟨(l:List (List Int)),(s:Int),(l2:List (List Int)),(n:Int),(i:Int),⟨⟩⟩ hI
 dsimp only at hI ⊢
 obtain⟨rfl,rfl,rfl,h⟩:=hI
 simp (disch:=omega) only [RR]
 have g0: [a,b].getD (Int.toNat 0) default=a:=rfl
 have g1: [a,b].getD (Int.toNat 1) default=b:=rfl
 have gl:([a,b].length:Int)=2:=rfl
 refine⟨fun hi=> ?_,fun hi=> ?_⟩
 ·rcases h with⟨rfl,rfl⟩ | ⟨rfl,rfl⟩ | ⟨rfl,rfl⟩
  ·rw [g0,w64 (by omega) (by omega)]
   exact⟨by omega,by omega,fun h=>by omega,fun h=>⟨Or.inr (Or.inl ⟨by omega,by omega⟩),by omega⟩⟩
  ·rw [g1,w64 (by omega) (by omega)]
   exact⟨by omega,by omega,fun h=>by omega,fun h=>⟨Or.inr (Or.inr ⟨by omega,by omega⟩),by omega⟩⟩
  ·omega
 ·have hs:0≤s∧s≤200000000:=by omega
  refine⟨hp s (by omega) (by omega),?_⟩
  rw [hf s (by omega) (by omega)]
  refine aA (fun(y:List (List Int)×Int×Int×List Int×Unit)=>y.1=[a,b]∧y.2.1=2∧((y.2.2.1=0∧y.2.2.2.1=[])∨(y.2.2.1=1∧y.2.2.2.1=a)∨(y.2.2.1=2∧y.2.2.2.1=a++b))) (fun y=>(2-y.2.2.1).toNat)
   ⟨rfl,rfl,Or.inl ⟨rfl,rfl⟩⟩ ?_
  rintro⟨(l:List (List Int)),(n:Int),(j:Int),(o:List Int),⟨⟩⟩ hI
  dsimp only at hI ⊢
  obtain⟨rfl,rfl,h3⟩:=hI
  simp (disch:=omega) only [RR]
  refine⟨fun hj=> ?_,fun hj=> ?_⟩
  ·rcases h3 with⟨rfl,rfl⟩ | ⟨rfl,rfl⟩ | ⟨rfl,rfl⟩
   ·rw [g0]
    exact⟨by omega,by omega,by simp only [List.length_nil];omega,Or.inr (Or.inl ⟨by omega,rfl⟩),by omega⟩
   ·rw [g1]
    exact⟨by omega,by omega,by omega,Or.inr (Or.inr ⟨by omega,rfl⟩),by omega⟩
   ·omega
  ·rcases h3 with⟨rfl,rfl⟩ | ⟨rfl,rfl⟩ | ⟨rfl,rfl⟩
   ·omega
   ·omega
   ·rfl
theorem mOk.le {m:aj} (h:mOk m):m.atoms.length≤4:=h.2.1
theorem aO.at {p:List aj} (h:aO p) {m:aj} (hm:m∈p):mOk m:=by
 obtain⟨i,hi,rfl⟩:=List.getElem_of_mem hm
 have:=(h.1 i (by omega) (by omega)).1
 rw [show(i:Int).toNat=i from rfl,getD_lt hi]at this;exact this
theorem aO.len {p:List aj} (h:aO p):p.length≤12:=h.2.1
noncomputable def nU (a b:List aj):Bool×List aj:=if bp (aO a)&&bp (aO b)then jZ (a++b)else(false,[])
theorem aot {p1:List aj×Unit→Bool} {f1:List aj×Unit→Bool×Unit} (hp1:∀a,Sh a→p1 (a,())=true) (hf1:∀a,Sh a→f1 (a,())=(bp (aO a),()))
  {p2:List aj×Unit→Bool} {f2:List aj×Unit→Bool×List aj×List aj×Unit} (hp2:∀a,Sh a→Cb a→p2 (a,())=true) (hf2:∀a,Sh a→Cb a→(f2 (a,())).1=(jZ a).1∧(f2 (a,())).2.2.1=(jZ a).2)
  {p3:List (List aj)×Unit→Bool} {f3:List (List aj)×Unit→List aj×Unit} (hp3:∀a b:List aj,a.length≤100000000→b.length≤100000000→p3 ([a,b],())=true) (hf3:∀a b:List aj,a.length≤100000000→b.length≤100000000→f3 ([a,b],())=(a++b,()))
  (a b:List aj) (ha:Sh a) (hb:Sh b):Za (std 0) p1 f1 p2 f2 p3 f3 (a,b,()) (fun y=>y=((nU a b).1,(nU a b).2,())):=by
 dsimp only [Za,Alg.cl,Alg.cg,Alg.rb,Alg.bd,Alg.l1,Tup.q,Tup.o]
 simp (disch:=omega) only [RR,hp1 a ha,hf1 a ha,hp1 b hb,hf1 b hb,bQ,uP]
 unfold nU
 refine⟨fun h=> ?_,fun⟨h1,h2⟩=> ?_⟩
 ·rw [if_neg]
  rw [Bool.and_eq_true,bQ,bQ];rintro⟨g1,g2⟩
  rcases h with h | h
  ·exact h g1
  ·exact h g2
 ·have l1:=h1.len
  have l2:=h2.len
  rw [hp3 a b (by omega) (by omega),hf3 a b (by omega) (by omega)]
  have hs:Sh (a++b):=⟨by rw [List.length_append];omega,fun m hm=>by
   rw [List.mem_append]at hm
   rcases hm with hm | hm
   ·exact ha.2 m hm
   ·exact hb.2 m hm⟩
  have hc:Cb (a++b):=fun m hm=>by
   rw [List.mem_append]at hm
   rcases hm with hm | hm
   ·have:=(h1.at hm).1;omega
   ·have:=(h2.at hm).1;omega
  obtain⟨g1,g2⟩:=hf2 _ hs hc
  refine⟨rfl,hp2 _ hs hc,?_⟩
  rw [if_pos (by rw [bN h1,bN h2];rfl),g1,g2]
def dJ (l:List Int):List Int:=l.mergeSort fun x y=>decide (x≤y)
theorem vY (l:List Int):(dJ l).length=l.length:=List.length_mergeSort l
def mulM (m n:aj):aj:=⟨m.gq*n.gq%65536,dJ (m.atoms++n.atoms)⟩
def prods (a b:List aj):List aj:=a.flatMap fun m=>b.map (mulM m)
theorem R7 (a b:List aj) (m:aj):prods (a++ [m]) b=prods a b++b.map (mulM m):=by simp [prods]
noncomputable def lH (a b:List aj):Bool×List aj:=if bp (aO a)&&bp (aO b)then jZ (prods a b)else(false,[])
theorem UY {a b:Int} (h1:0≤a) (h2:a≤65535) (h3:0≤b) (h4:b≤65535):0≤a*b∧a*b≤65535*65535:=⟨Int.mul_nonneg h1 h3,Int.mul_le_mul h2 h4 h3 (by omega)⟩
theorem aou {p1:List aj×Unit→Bool} {f1:List aj×Unit→Bool×Unit} (hp1:∀a,Sh a→p1 (a,())=true) (hf1:∀a,Sh a→f1 (a,())=(bp (aO a),()))
  {p0:Int×Unit→Bool} {f0:Int×Unit→Int×Unit} (hp0:∀a,p0 (a,())=true) (hf0:∀a,f0 (a,())=(a%65536,()))
  {p2:List aj×Unit→Bool} {f2:List aj×Unit→Bool×List aj×List aj×Unit} (hp2:∀a,Sh a→Cb a→p2 (a,())=true) (hf2:∀a,Sh a→Cb a→(f2 (a,())).1=(jZ a).1∧(f2 (a,())).2.2.1=(jZ a).2)
  {p3:List (List Int)×Unit→Bool} {f3:List (List Int)×Unit→List Int×Unit} (hp3:∀a b:List Int,a.length≤100000000→b.length≤100000000→p3 ([a,b],())=true) (hf3:∀a b:List Int,a.length≤100000000→b.length≤100000000→f3 ([a,b],())=(a++b,()))
  {p4:List Int×Unit→Bool} {f4:List Int×Unit→List Int×Unit} (hp4:∀a:List Int,a.length≤8→p4 (a,())=true) (hf4:∀a:List Int,a.length≤8→f4 (a,())=(dJ a,()))
  (a b:List aj) (ha:Sh a) (hb:Sh b):Zd (std 0) p1 f1 p0 f0 p2 f2 p3 f3 p4 f4 (a,b,()) (fun y=>y=((lH a b).1,(lH a b).2,())):=by
 dsimp only [Zd,Alg.cl,Alg.cg,Alg.rb,Alg.bd,Alg.l1,Tup.q,Tup.o]
 simp (disch:=omega) only [RR,hp1 a ha,hf1 a ha,hp1 b hb,hf1 b hb,bQ,uP]
 unfold lH
 refine⟨fun h=> ?_,fun⟨h1,h2⟩=> ?_⟩
 ·rw [if_neg]
  rw [Bool.and_eq_true,bQ,bQ];rintro⟨g1,g2⟩
  rcases h with h | h
  ·exact h g1
  ·exact h g2
 have l1:=h1.len
 have l2:=h2.len
 rw [if_pos (by rw [bN h1,bN h2];rfl)]
 have mm:∀i j:Int,0≤i→i<a.length→0≤j→j<b.length→mOk ((a).getD (i).toNat default)∧mOk ((b).getD (j).toNat default):=fun i j i1 i2 j1 j2=>⟨h1.at (lG i1 i2),h2.at (lG j1 j2)⟩
 refine aA (fun(y:List aj×Int×Int×List aj×List aj×Unit)=>y.1=a∧y.2.1=a.length∧0≤y.2.2.1∧y.2.2.1≤a.length∧y.2.2.2.1=b∧y.2.2.2.2.1=prods (a.take y.2.2.1.toNat) b∧y.2.2.2.2.1.length≤12*y.2.2.1∧Sh y.2.2.2.2.1∧Cb y.2.2.2.2.1) (fun y=>(a.length-y.2.2.1).toNat)
  ⟨rfl,rfl,by simp,by simp,rfl,rfl,by simp,⟨by simp,fun m hm=>absurd hm (by simp)⟩,fun m hm=>absurd hm (by simp)⟩ ?_
 rintro⟨(a':List aj),(n:Int),(i:Int),(b':List aj),(o:List aj),⟨⟩⟩ hI
 dsimp only at hI ⊢
 obtain⟨rfl,rfl,h3,h4,rfl,h5,h6,h7,h8⟩:=hI
 simp (disch:=omega) only [RR]
 refine⟨fun h9=>⟨by omega,by omega,?_⟩,fun h9=> ?_⟩
 ·refine aA (fun(y:List aj×Int×Int×List aj×Int×Int×List aj×List aj×aj×Unit)=>y.1=a'∧y.2.1=a'.length∧y.2.2.1=i∧y.2.2.2.1=b'∧y.2.2.2.2.1=b'.length∧0≤y.2.2.2.2.2.1∧y.2.2.2.2.2.1≤b'.length∧y.2.2.2.2.2.2.1=b'∧y.2.2.2.2.2.2.2.2.1=((a').getD (i).toNat default)
    ∧y.2.2.2.2.2.2.2.1=o++(b'.take y.2.2.2.2.2.1.toNat).map (mulM ((a').getD (i).toNat default))∧Sh y.2.2.2.2.2.2.2.1∧Cb y.2.2.2.2.2.2.2.1) (fun y=>(b'.length-y.2.2.2.2.2.1).toNat)
   ⟨rfl,rfl,rfl,rfl,rfl,by simp,by simp,rfl,rfl,by simp,h7,h8⟩ ?_
  rintro⟨(a'':List aj),(n:Int),(i':Int),(b'':List aj),(nb:Int),(j:Int),(b3:List aj),(o':List aj),(m:aj),⟨⟩⟩ hI
  dsimp only at hI ⊢
  obtain⟨rfl,rfl,rfl,rfl,rfl,k1,k2,rfl,rfl,k3,k4,k5⟩:=hI
  have lo:(o'.length:Int)≤12*i'+j:=by
   rw [k3,List.length_append,List.length_map];have:=List.length_take_le j.toNat b3;omega
  by_cases hj:j<b3.length
  ·obtain⟨m1,m2⟩:=mm i' j h3 h9 k1 hj
   have e1:=m1.le
   have e2:=m2.le
   have la:(((a'').getD (i').toNat default).atoms++((b3).getD (j).toNat default).atoms).length≤8:=by rw [List.length_append];omega
   have hm:=UY (show 0≤((a'').getD (i').toNat default).gq by have:=m1.1;omega) (by have:=m1.1;omega) (show 0≤((b3).getD (j).toNat default).gq by have:=m2.1;omega) (by have:=m2.1;omega)
   simp (disch:=omega) only [RR,hp3 ((a'').getD (i').toNat default).atoms ((b3).getD (j).toNat default).atoms (by omega) (by omega),hf3 ((a'').getD (i').toNat default).atoms ((b3).getD (j).toNat default).atoms (by omega) (by omega),hp4 _ la,hf4 _ la,hp0,hf0]
   refine⟨fun _=>⟨by omega,by omega,by simp only [List.length_cons,List.length_nil];omega,⟨by omega,by omega,?_,⟨?_,?_⟩,?_⟩,by omega⟩,fun h=>by omega⟩
   ·rw [←jG (d:=default) k1 hj rfl,List.map_append,k3,List.append_assoc];rfl
   ·rw [List.length_append];simp only [List.length_cons,List.length_nil];omega
   ·intro m hm
    rw [List.mem_append,List.mem_singleton]at hm
    rcases hm with hm | rfl
    ·exact k4.2 m hm
    ·dsimp only;rw [vY];omega
   ·intro m hm
    rw [List.mem_append,List.mem_singleton]at hm
    rcases hm with hm | rfl
    ·exact k5 m hm
    ·dsimp only;omega
  ·simp (disch:=omega) only [RR]
   refine⟨fun h=>absurd h hj,fun _=>⟨⟨by omega,by omega,?_,by omega,k4,k5⟩,by omega⟩⟩
   rw [←jG (d:=default) h3 h9 rfl,R7,←h5,k3,List.take_of_length_le (by omega)]
 ·obtain⟨g1,g2⟩:=hf2 _ h7 h8
  refine⟨hp2 _ h7 h8,?_⟩
  rw [g1,g2,h5,List.take_of_length_le (by omega)]
noncomputable def iM (a:List aj) (n:Int):List aj:=if bp (aO a)&&inB n 0 65535 then(lH a (aP n)).2 else []
theorem Jp (n:Int):Sh (aP n):=by
 unfold aP;split
 ·exact⟨by simp,fun m hm=>by rw [List.mem_singleton]at hm;subst hm;simp⟩
 ·exact⟨by simp,fun m hm=>absurd hm (by simp)⟩
theorem aov {p1:List aj×Unit→Bool} {f1:List aj×Unit→Bool×Unit} (hp1:∀a,Sh a→p1 (a,())=true) (hf1:∀a,Sh a→f1 (a,())=(bp (aO a),()))
  {p2:Int×Unit→Bool} {f2:Int×Unit→List aj×Unit} (hp2:∀n,p2 (n,())=true) (hf2:∀n,f2 (n,())=(aP n,()))
  {p3:Int×Unit→Bool} {f3:Int×Unit→Bool×Unit} (hp3:∀a,p3 (a,())=true) (hf3:∀a,f3 (a,())=(inB a 0 65535,()))
  {p4:List aj×List aj×Unit→Bool} {f4:List aj×List aj×Unit→Bool×List aj×Unit} (hp4:∀a b,Sh a→Sh b→p4 (a,b,())=true) (hf4:∀a b,Sh a→Sh b→f4 (a,b,())=((lH a b).1,(lH a b).2,()))
  (a:List aj) (n:Int) (ha:Sh a):Ze (std 0) p1 f1 p2 f2 p3 f3 p4 f4 (a,n,()) (fun y=>y=(iM a n,())):=by
 dsimp only [Ze,Alg.cl,Alg.cg,Alg.rb,Alg.bd,Alg.l1,Tup.q,Tup.o]
 simp (disch:=omega) only [RR,hp1 a ha,hf1 a ha,hp2,hf2,hp3,hf3,hp4 a _ ha (Jp n),hf4 a _ ha (Jp n)]
 unfold iM
 refine⟨fun h=> ?_,fun⟨h1,h2⟩=> ?_⟩
 ·rw [if_neg];rw [Bool.and_eq_true];rintro⟨g1,g2⟩
  rcases h with h | h
  ·rw [g1]at h;cases h
  ·rw [g2]at h;cases h
 ·rw [h1,h2];rfl
end Go.TX.F
namespace Go.TX.F
open Go Go.AE Go.TX
noncomputable def Cy (op:Int) (x y:List aj):List aj×Bool:=
 if(dL x).2&& (dL y).2 then(aP (wdo op (dL x).1 (dL y).1),true)
 else if dP x y=0∧op=4 then(x,true)
 else if dP x y=0 then([],true)
 else if(dL x).2 then
  (if op=4∧(dL x).1=0 then([],true)else if(op=4∧(dL x).1=65535)∨(op=5∧(dL x).1=0)then(y,true)else([],false))
 else if(dL y).2 then
  (if op=4∧(dL y).1=0 then([],true)else if(op=4∧(dL y).1=65535)∨(op=5∧(dL y).1=0)then(x,true)else([],false))
 else([],false)
noncomputable def fQ (op:Int) (x y:List aj):List aj×Bool:=
 if op=1 then((nU x y).2,(nU x y).1)else if op=2 then((nU x (iM y 65535)).2,(nU x (iM y 65535)).1)else if op=3 then((lH x y).2,(lH x y).1)else Cy op x y
theorem aO.sh {l:List aj}:aO l→Sh l:=fun h=>⟨by have:=h.len;omega,fun m hm=>by have:=(h.at hm).le;omega⟩
theorem acv (l:List aj):Sh (jZ l).2:=by
 unfold jZ
 by_cases h:aO (nf l)
 ·rw [bN h];exact h.sh
 ·rw [gU h];exact⟨by simp,fun m hm=>absurd hm (by simp)⟩
theorem nJ:Sh []:=⟨by simp,fun m hm=>absurd hm (by simp)⟩
theorem acw (a b:List aj):Sh (lH a b).2:=by unfold lH;split;exact acv _;exact nJ
theorem Jq (a:List aj) (n:Int):Sh (iM a n):=by unfold iM;split;exact acw _ _;exact nJ
theorem aow {p1:List aj×List aj×Unit→Bool} {f1:List aj×List aj×Unit→Bool×Unit} (hp1:∀a b,Sh a→p1 (a,b,())=true) (hf1:∀a b,Sh a→f1 (a,b,())=(decide (dP a b=0),()))
  {p2:Int×Unit→Bool} {f2:Int×Unit→List aj×Unit} (hp2:∀n,p2 (n,())=true) (hf2:∀n,f2 (n,())=(aP n,()))
  {p3:Int×Int×Int×Unit→Bool} {f3:Int×Int×Int×Unit→Int×Unit} (hp3:∀op a b,p3 (op,a,b,())=true) (hf3:∀op a b,f3 (op,a,b,())=(wdo op a b,()))
  {p4:List aj×List aj×Unit→Bool} {f4:List aj×List aj×Unit→Bool×List aj×Unit} (hp4:∀a b,Sh a→Sh b→p4 (a,b,())=true) (hf4:∀a b,Sh a→Sh b→f4 (a,b,())=((nU a b).1,(nU a b).2,()))
  {p5:List aj×List aj×Unit→Bool} {f5:List aj×List aj×Unit→Bool×List aj×Unit} (hp5:∀a b,Sh a→Sh b→p5 (a,b,())=true) (hf5:∀a b,Sh a→Sh b→f5 (a,b,())=((lH a b).1,(lH a b).2,()))
  {p6:List aj×Int×Unit→Bool} {f6:List aj×Int×Unit→List aj×Unit} (hp6:∀a n,Sh a→p6 (a,n,())=true) (hf6:∀a n,Sh a→f6 (a,n,())=(iM a n,()))
  {p7:List aj×Unit→Bool} {f7:List aj×Unit→Int×Bool×Unit} (hp7:∀a,Sh a→p7 (a,())=true) (hf7:∀a,Sh a→f7 (a,())=((dL a).1,(dL a).2,()))
  (op:Int) (x y:List aj) (hx:Sh x) (hy:Sh y):Zh (std 0) p1 f1 p2 f2 p3 f3 p4 f4 p5 f5 p6 f6 p7 f7 (op,x,y,()) (fun z=>z=((fQ op x y).1,(fQ op x y).2,())):=by
 dsimp only [Zh,Alg.cl,Alg.cg,Alg.rb,Alg.bd,Alg.l1,Tup.q,Tup.o]
 simp (disch:=omega) only [RR,hp1 x y hx,hf1 x y hx,hp2,hf2,hp3,hf3,hp4 x y hx hy,hf4 x y hx hy,hp4 x _ hx (Jq y 65535),hf4 x _ hx (Jq y 65535),hp5 x y hx hy,hf5 x y hx hy,hp6 y _ hy,hf6 y _ hy,hp7 x hx,hf7 x hx,hp7 y hy,hf7 y hy]
 unfold fQ
 refine⟨fun h=>by rw [if_pos h],fun h=>⟨fun h1=>by rw [if_neg h,if_pos h1],fun h1=>⟨fun h2=>by rw [if_neg h,if_neg h1,if_pos h2],fun h2=> ?_⟩⟩⟩
 rw [if_neg h,if_neg h1,if_neg h2]
 unfold Cy
 generalize dL x=nx
 generalize dL y=ny
 obtain⟨n,bn⟩:=nx
 obtain⟨m,bm⟩:=ny
 dsimp only
 by_cases e:dP x y=0<;>by_cases o4:op=4<;>cases bn<;>cases bm<;>simp [e,o4]
 ·by_cases c:m=0<;>by_cases c2:m=65535<;>simp [c,c2]
 ·by_cases c:n=0<;>by_cases c2:n=65535<;>simp [c,c2]
 ·by_cases c:op=5<;>by_cases c2:m=0<;>simp [c,c2]
 ·by_cases c:op=5<;>by_cases c2:n=0<;>simp [c,c2]
noncomputable def tDo (t:List Atom) (op:Int) (x y:List aj):List Atom×List aj:=
 if(fQ op x y).2 then(t,(fQ op x y).1)else
 if op≠2∧0<dP x y then(if(bf t ⟨4,op,y,x⟩).2<0 then([],[])else((bf t ⟨4,op,y,x⟩).1,dB (bf t ⟨4,op,y,x⟩).2))
 else(if(bf t ⟨4,op,x,y⟩).2<0 then([],[])else((bf t ⟨4,op,x,y⟩).1,dB (bf t ⟨4,op,x,y⟩).2))
noncomputable def tOk (t:List Atom) (op:Int) (x y:List aj):Bool:=(fQ op x y).2 || !decide ((if op≠2∧0<dP x y then(bf t ⟨4,op,y,x⟩).2 else(bf t ⟨4,op,x,y⟩).2)<0)
theorem aox {p1:List aj×List aj×Unit→Bool} {f1:List aj×List aj×Unit→Int×Unit} (hp1:∀a b,Sh a→p1 (a,b,())=true) (hf1:∀a b,Sh a→f1 (a,b,())=(dP a b,()))
  {p2:Int×List aj×List aj×Unit→Bool} {f2:Int×List aj×List aj×Unit→List aj×Bool×Unit} (hp2:∀op x y,Sh x→Sh y→p2 (op,x,y,())=true) (hf2:∀op x y,Sh x→Sh y→f2 (op,x,y,())=((fQ op x y).1,(fQ op x y).2,()))
  {p3:List Atom×Atom×Unit→Bool} {f3:List Atom×Atom×Unit→List Atom×Int×Unit} (hp3:∀t a,t.length<1000000000→ShA a→p3 (t,a,())=true) (hf3:∀t a,t.length<1000000000→ShA a→f3 (t,a,())=((bf t a).1,(bf t a).2,()))
  {p4:Int×Unit→Bool} {f4:Int×Unit→List aj×Unit} (hp4:∀n,p4 (n,())=true) (hf4:∀n,f4 (n,())=(dB n,()))
  (t:List Atom) (op:Int) (x y:List aj) (ht:t.length<1000000000) (hx:Sh x) (hy:Sh y):Zi (std 0) p1 f1 p2 f2 p3 f3 p4 f4 (t,op,x,y,()) (fun z=>z.1=(tDo t op x y).1∧z.2.1=(tDo t op x y).2∧z.2.2.1=tOk t op x y):=by
 have s1:ShA ⟨4,op,x,y⟩:=⟨hx,hy⟩
 have s2:ShA ⟨4,op,y,x⟩:=⟨hy,hx⟩
 dsimp only [Zi,Alg.cl,Alg.cg,Alg.rb,Alg.bd,Alg.l1,Tup.q,Tup.o]
 simp (disch:=omega) only [RR,hp1 x y hx,hf1 x y hx,hp2 op x y hx hy,hf2 op x y hx hy,hp3 t _ ht s1,hf3 t _ ht s1,hp3 t _ ht s2,hf3 t _ ht s2,hp4,hf4]
 unfold tDo tOk
 refine⟨fun h=>by rw [if_pos h,h];exact⟨rfl,rfl,rfl⟩,fun h=> ?_⟩
 rw [if_neg (by rw [h];simp),h,Bool.false_or]
 generalize bf t ⟨4,op,y,x⟩=r1
 generalize bf t ⟨4,op,x,y⟩=r2
 generalize dP x y=o
 by_cases c1:op=2<;>by_cases c2:0<o<;>by_cases c3:r1.2<0<;>by_cases c4:r2.2<0<;>simp [c1,c2,c3,c4]
theorem acy:ShT []:=⟨by simp,fun m hm=>absurd hm (by simp)⟩
theorem aoy {p1:Int×Unit→Bool} {f1:Int×Unit→Bool×Unit} (hp1:∀a,p1 (a,())=true) (hf1:∀a,f1 (a,())=(inB a 0 65535,())):Yf (std 0) p1 f1 () (fun z=>z=(true,())):=by
 dsimp only [Yf,Alg.cl,Alg.cg,Alg.rb,Alg.bd,Alg.l1,Tup.q,Tup.o]
 simp (disch:=omega) only [RR,hp1,hf1]
 rfl
theorem KE {α:Type} {d:α} {a b:List α} (h:a.length=b.length) (h2:All a.length (fun i=>a.getD i.toNat d=b.getD i.toNat d)):a=b:=by
 refine List.ext_getElem h fun i h3 h4=> ?_
 have:=h2 i (by omega) (by omega)
 dsimp only at this
 rw [show(i:Int).toNat=i from rfl,getD_lt h3,getD_lt h4]at this;exact this
end Go.TX.F
namespace Go.TX.F
open Go Go.AE Go.TX
theorem ZQ {a b:Int}:or2 a b=0↔a=0∧b=0:=by unfold or2;split<;>omega
theorem Jr {a b:aj}:Hr a b=0↔a=b:=by
 unfold Hr;rw [ZQ,iD,mH]
 constructor
 ·rintro⟨h1,h2⟩;cases a;cases b;simp_all
 ·rintro rfl;exact⟨rfl,rfl⟩
theorem Ws (a b:aj):Hr b a= -Hr a b:=by
 unfold Hr or2;rw [kP,vW];repeat' split<;>omega
theorem Js:∀a b:List aj,zw b a= -zw a b
 | [],[]=>rfl | [],_::_=>rfl | _::_,[]=>rfl
 | a::az,b::bs=>by
  simp only [zw,Ws a b,Js az bs]
  split<;>split<;>omega
theorem Jt:∀ {a b:List aj},a.length=b.length→zw a b=0→a=b
 | [],[],_,_=>rfl | [],_::_,h,_=>by simp at h
 | _::_,[],h,_=>by simp at h
 | a::az,b::bs,hl,h=>by
  simp only [zw]at h
  split at h
  ·exact absurd h (by assumption)
  ·rename_i h1
   rw [Jr.1 (Classical.not_not.1 h1),Jt (by simpa using hl) h]
theorem Ju:∀a:List aj,zw a a=0
 | []=>rfl
 | a::az=>by simp only [zw,Jr.2 rfl];simp [Ju az]
theorem mJ (a b:List aj):dP b a= -dP a b:=by
 unfold dP;rw [vW,Js];repeat' split<;>omega
theorem gT {a b:List aj}:dP a b=0↔a=b:=by
 unfold dP
 constructor
 ·intro h
  split at h
  ·exact absurd h (by assumption)
  ·rename_i h1
   have:=mH.1 (Classical.not_not.1 h1)
   exact Jt (by omega) h
 ·rintro rfl;rw [if_neg (by rw [mH.2 rfl];simp),Ju]
theorem Jv {a b:Atom}:uS a b=true↔a=b:=by
 unfold uS
 rw [Bool.and_eq_true,Bool.and_eq_true,Bool.and_eq_true,decide_eq_true_eq,decide_eq_true_eq,decide_eq_true_eq,decide_eq_true_eq,gT,gT]
 constructor
 ·rintro⟨⟨⟨h1,h2⟩,h3⟩,h4⟩;cases a;cases b;simp_all
 ·rintro rfl;exact⟨⟨⟨rfl,rfl⟩,rfl⟩,rfl⟩
theorem zy {α:Type} {d:α} {l:List α} {G:α→Prop}:All l.length (fun i=>G (l.getD i.toNat d))↔∀m∈l,G m:=by
 constructor
 ·intro h m hm
  obtain⟨i,hi,rfl⟩:=List.getElem_of_mem hm
  have:=h i (by omega) (by omega)
  dsimp only at this
  rw [show(i:Int).toNat=i from rfl,getD_lt hi]at this;exact this
 ·intro h i h1 h2
  exact h _ (lG h1 h2)
theorem bO {p:List aj} {n:Int}:bg p n↔∀m∈p,∀k∈m.atoms,k<n:=by
 unfold bg R4
 rw [zy (d:=default) (G:=fun m:aj=>All m.atoms.length (fun i=>¬n≤m.atoms.getD i.toNat default))]
 refine forall_congr' fun m=>forall_congr' fun _=> ?_
 rw [zy (d:=default) (G:=fun k:Int=>¬n≤k)]
 exact forall_congr' fun k=>forall_congr' fun _=>by omega
theorem mG {α:Type} {d:α} {R:α→α→Prop} (tr:∀ {a b c},R a b→R b c→R a c) {l:List α}:l.Pairwise R↔∀i:Int,0<i→i<l.length→R (l.getD (i-1).toNat d) (l.getD i.toNat d):=by
 rw [List.pairwise_iff_getElem]
 constructor
 ·intro h i h1 h2
  rw [getD_lt (by omega),getD_lt (by omega)]
  exact h _ _ (by omega) (by omega) (by omega)
 ·intro h i j hi hj hij
  obtain⟨n,rfl⟩:∃n,j=i+1+n:=⟨j-i-1,by omega⟩
  clear hij
  induction n with
  | zero=>
   have:=h (i+1:Nat) (by omega) (by omega)
   rw [show(((i+1:Nat):Int)-1).toNat=i by omega,show(((i+1:Nat):Int)).toNat=i+1 by omega,getD_lt hi,getD_lt (by omega)]at this
   exact this
  | succ n ih=>
   have h1:=ih (by omega)
   have:=h (i+1+n+1:Nat) (by omega) (by omega)
   rw [show(((i+1+n+1:Nat):Int)-1).toNat=i+1+n by omega,show(((i+1+n+1:Nat):Int)).toNat=i+1+n+1 by omega,getD_lt (by omega),getD_lt (by omega)]at this
   exact tr h1 this
theorem KF {l:List Int}:Srt l↔l.Pairwise (· ≤ ·):=by
 rw [mG (d:=default) (R:=fun a b:Int=>a≤b) (fun h1 h2=>Int.le_trans h1 h2)]
 unfold Srt
 constructor
 ·intro h i h1 h2
  have:=h (i-1) (by omega) (by omega)
  dsimp only at this
  rw [show i-1+1=i by omega]at this;exact this
 ·intro h i h1 h2
  have:=h (i+1) (by omega) (by omega)
  rw [show i+1-1=i by omega]at this;exact this
theorem AV {a b c:aj} (h1:lt a b) (h2:lt b c):lt a c:=dD (le_of_lt h1) h2
def aok (l:List Int):Prop:=l.Pairwise (· ≤ ·)∧∀k∈l,0≤k∧k≤199
theorem iE {p:List aj}:aO p↔Nf p∧p.length≤12∧∀m∈p,m.atoms.length≤4∧aok m.atoms:=by
 constructor
 ·rintro⟨h1,h2,h3,h4⟩
  have h1':∀m∈p,mOk m:=zy (d:=default) (G:=mOk).1 (fun i g1 g2=>(h1 i g1 g2).1)
  have h4':∀m∈p,¬(0<m.atoms.length∧m.atoms.getD 0 default<0):=zy (d:=default) (G:=fun m:aj=>¬(0<m.atoms.length∧m.atoms.getD 0 default<0)).1 h4
  refine⟨⟨(mG (d:=default) (R:=lt) AV).2 fun i g1 g2=>(h1 i (by omega) g2).2 g1,fun m hm=>(h1' m hm).1⟩,h2,fun m hm=>⟨(h1' m hm).2.1,KF.1 (h1' m hm).2.2,fun k hk=>⟨?_,by have:=bO.1 h3 m hm k hk;omega⟩⟩⟩
  have hs:=KF.1 (h1' m hm).2.2
  have hn:=h4' m hm
  cases ha:m.atoms with
  | nil=>rw [ha]at hk;exact absurd hk (by simp)
  | cons b l=>
   rw [ha]at hk hs hn
   simp at hn
   rcases List.mem_cons.1 hk with rfl | hk
   ·exact hn
   ·have:=List.rel_of_pairwise_cons hs hk;omega
 ·rintro⟨h1,h2,h3⟩
  refine⟨fun i g1 g2=>⟨⟨h1.co _ (lG g1 g2),(h3 _ (lG g1 g2)).1,KF.2 (h3 _ (lG g1 g2)).2.1⟩,fun g3=>(mG (d:=default) (R:=lt) AV).1 h1.ss i g3 g2⟩,h2,bO.2 fun m hm k hk=>by have:=((h3 m hm).2.2 k hk);omega,?_⟩
  refine zy (d:=default) (G:=fun m:aj=>¬(0<m.atoms.length∧m.atoms.getD 0 default<0)).2 fun m hm=> ?_
  rintro⟨g1,g2⟩
  have:=(h3 m hm).2.2 _ (lG (i:=0) (d:=default) (xs:=m.atoms) (by omega) (by omega))
  rw [show Int.toNat 0=0 from rfl]at this;omega
theorem ZR {l:List aj} {k:List Int} (h:cf l k≠0):∃m∈l,m.atoms=k:=Classical.byContradiction fun h2=>h (gK fun m hm e=>h2 ⟨m,hm,e⟩)
theorem Nf.cf {o:List aj} (h:Nf o) {m:aj} (hm:m∈o):cf o m.atoms=m.gq:=by
 induction o with
 | nil=>exact absurd hm (by simp)
 | cons a o ih=>
  rw [bD]
  rcases List.mem_cons.1 hm with rfl | hm
  ·rw [if_pos rfl,gK (fun m' hm'=>((List.rel_of_pairwise_cons h.ss hm').ne).symm)];omega
  ·rw [if_neg (List.rel_of_pairwise_cons h.ss hm).ne,ih ⟨h.ss.tail,fun m hm=>h.co m (by simp [hm])⟩ hm];omega
theorem Nf.from {o l:List aj} (h:Nf o) (h2:∀k,F.cf o k=F.cf l k%65536) {m:aj} (hm:m∈o):∃m'∈l,m'.atoms=m.atoms:=by
 refine ZR fun e=> ?_
 have:=h2 m.atoms
 rw [h.cf hm,e]at this
 have:=h.co m hm;omega
theorem Nf.bnd {o:List aj} (h:Nf o) (k:List Int):0≤F.cf o k∧F.cf o k≤65535:=by
 by_cases e:F.cf o k=0
 ·omega
 ·obtain⟨m,hm,rfl⟩:=ZR e
  rw [h.cf hm];have:=h.co m hm;omega
theorem vZ {o:List aj} (h:Nf o):nf o=o:=Jo h fun k=>by have:=h.bnd k;omega
end Go.TX.F
namespace Go.TX.F
open Go Go.AE Go.TX
theorem ZT (a b c:Int):Qm (std 0) (a,b,c,()) (fun y=>y=(inB a b c,())):=by
 dsimp only [Qm,Alg.cl,Alg.cg,Alg.rb,Alg.bd,Alg.l1,Tup.q,Tup.o]
 simp (disch:=omega) only [RR]
 rfl
theorem ZU (a:Int):Qn (std 0) (a,()) (fun y=>y=(inB a 0 65535,())):=by
 dsimp only [Qn,Alg.cl,Alg.cg,Alg.rb,Alg.bd,Alg.l1,Tup.q,Tup.o]
 simp (disch:=omega) only [RR]
 refine congrArg (fun b=>(b,())) ?_
 rw [Bool.eq_iff_iff,fF,Bool.and_eq_true,decide_eq_true_eq,decide_eq_true_eq];omega
theorem ZV (a:Int):a.tmod 65536=if 0≤a then a%65536 else- (-a%65536):=by
 split
 ·rw [Int.tmod_eq_emod_of_nonneg (by omega)]
 ·have:=Int.neg_tmod (-a) 65536
  rw [Int.neg_neg]at this;rw [this,Int.tmod_eq_emod_of_nonneg (by omega)]
theorem ZW (a:Int):QG (std 0) (a,()) (fun y=>y=(a%65536,())):=by
 dsimp only [QG,Alg.cl,Alg.cg,Alg.rb,Alg.bd,Alg.l1,Tup.q,Tup.o]
 simp only [ZJ]
 by_cases h:0≤a
 ·rw [show a.tmod 65536=a%65536 by rw [ZV,if_pos h]]
  simp (disch:=omega) only [RR]
  refine⟨by omega,fun h2=> ?_⟩
  exfalso;omega
 ·rw [show a.tmod 65536= - (-a%65536) by rw [ZV,if_neg h]]
  simp (disch:=omega) only [RR]
  refine⟨by omega,fun h2=> ?_,fun h2=> ?_⟩
  ·rw [show-(-a%65536)+65536=a%65536 by omega]
  ·rw [show-(-a%65536)=a%65536 by omega]
end Go.TX.F
namespace Go.TX.F
open Go Go.AE Go.TX
theorem ZX (G:Int→Prop):∀n:Nat,∃r,Idx n G r
 | 0=>⟨-1,Or.inl ⟨rfl,All.zero⟩⟩
 | n+1=>by
  obtain⟨r,h⟩:=ZX G n
  rcases h with⟨h1,h2⟩ | ⟨h1,h2,h3,h4⟩
  ·by_cases g:G n
   ·exact⟨n,Or.inr ⟨by omega,by omega,g,h2⟩⟩
   ·exact⟨-1,Or.inl ⟨rfl,by have:=h2.snoc g;exact this.le (by omega)⟩⟩
  ·exact⟨r,Or.inr ⟨h1,by omega,h3,h4⟩⟩
theorem R8 (G:Int→Prop) (n:Nat):Idx n G (idxOf n G):=by
 obtain⟨r,h⟩:=ZX G n
 rw [←h.eq];exact h
theorem kQ (t:List Atom) (a:Atom):Idx t.length (fun i=>a=t.getD i.toNat default) (sD t a):=by
 have:=R8 (fun i=>uS a (t.getD i.toNat default)=true) t.length
 simp only [Jv]at this
 unfold sD;simp only [Jv];exact this
theorem jI {t:List Atom}:aG t↔All t.length (fun i=>gV (t.getD i.toNat default) i∧All i (fun j=>¬t.getD i.toNat default=t.getD j.toNat default))∧t.length≤200:=by
 unfold aG
 refine and_congr ⟨fun h i h1 h2=>⟨(h i h1 h2).1,?_⟩,fun h i h1 h2=>⟨(h i h1 h2).1,?_⟩⟩ Iff.rfl
 ·have:=kQ t (t.getD i.toNat default)
  rw [(h i h1 h2).2]at this
  rcases this with⟨g1,_⟩ | ⟨_,_,_,g⟩
  ·omega
  ·exact g
 ·exact((kQ t (t.getD i.toNat default)).uniq (Or.inr ⟨h1,h2,rfl,(h i h1 h2).2⟩))
theorem ah7 {p1:Int×Unit→Bool} {f1:Int×Unit→Bool×Unit} (hp1:∀a,p1 (a,())=true) (hf1:∀a,f1 (a,())=(inB a 0 65535,()))
  {p2:Int×Unit→Bool} {f2:Int×Unit→Int×Unit} (hp2:∀a,p2 (a,())=true) (hf2:∀a,f2 (a,())=(a%65536,())) (op a b:Int):
  QH (std 0) p2 f2 p1 f1 (op,a,b,()) (fun y=>y=(wdo op a b,())):=by
 dsimp only [QH,Alg.cl,Alg.cg,Alg.rb,Alg.bd,Alg.l1,Tup.q,Tup.o]
 simp (disch:=omega) only [RR,hp1,hf1,hp2,hf2,R5,R6,fF,sw]
 by_cases ha:(0≤a∧a≤65535)∧(0≤b∧b≤65535)
 ·have hm:0≤a*b∧a*b≤65535*65535:=⟨Int.mul_nonneg ha.1.1 ha.2.1,Int.mul_le_mul ha.1.2 ha.2.2 ha.2.1 (by omega)⟩
  rw [w64 (x:=a+b) (by omega) (by omega),w64 (x:=a-b) (by omega) (by omega),w64 (x:=a*b) (by omega) (by omega)]
  unfold wdo
  rw [if_pos ha]
  refine⟨fun h=>absurd h (by omega),fun _=>⟨fun h=> ?_,fun h=>⟨fun h1=> ?_,fun h1=>⟨fun h2=> ?_,fun h2=>⟨fun h3=> ?_,fun h3=>⟨fun h4=> ?_,fun h4=> ?_⟩⟩⟩⟩⟩⟩<;>(subst_vars;first | rfl | simp only [if_true,if_false, *])
 ·refine⟨fun h=> ?_,fun h=>absurd h ?_⟩
  ·unfold wdo;rw [if_neg ha]
  ·exact ha
end Go.TX.F
namespace Go.TX.F
open Go Go.AE Go.TX
theorem Jw {p:List aj} {n m:Int} (h:bg p n) (h2:n≤m):bg p m:=bO.2 fun a ha k hk=>by have:=bO.1 h a ha k hk;omega
def ZY (op n:Int) (y:List aj):List aj×Bool:=if op=4∧n=0 then([],true)else if(op=4∧n=65535)∨(op=5∧n=0)then(y,true)else([],false)
theorem acz (op:Int) (x y:List aj):Cy op x y=if(dL x).2&& (dL y).2 then(aP (wdo op (dL x).1 (dL y).1),true)
  else if dP x y=0 then(if op=4 then(x,true)else([],true))else if(dL x).2 then ZY op (dL x).1 y else if(dL y).2 then ZY op (dL y).1 x else([],false):=by
 unfold Cy ZY
 by_cases c1:dP x y=0<;>by_cases c2:op=4<;>simp [c1,c2]
end Go.TX.F
namespace Go.TX.F
open Go Go.AE Go.TX
structure Plus (l:List aj) (m:aj) (o:List aj):Prop where
 nf:Nf o
 cf:∀k,cf o k=F.cf (l++ [m]) k%65536
 len:o.length≤l.length+1
end Go.TX.F
namespace Go.TX.F
open Go Go.AE Go.TX
theorem rG {a o:List Int} (h:o.Pairwise (· ≤ ·)) (hp:o.Perm a):o=dJ a:=by
 refine List.Perm.eq_of_pairwise (le:=fun x y:Int=>x≤y) (fun a b _ _ h1 h2=>Int.le_antisymm h1 h2) h ?_ (hp.trans (List.mergeSort_perm a _).symm)
 have:=List.pairwise_mergeSort (le:=fun x y:Int=>decide (x≤y)) (fun a b c h1 h2=>by simp at*;omega) (fun a b=>by simp;omega) a
 exact this.imp (fun h=>by simpa using h)
end Go.TX.F
namespace Go.TX.F
open Go Go.AE Go.TX
theorem aO.nf {p:List aj} (h:aO p):Nf p:=(iE.1 h).1
theorem aO.aok {p:List aj} (h:aO p) {m:aj} (hm:m∈p):m.atoms.length≤4∧F.aok m.atoms:=(iE.1 h).2.2 m hm
end Go.TX.F
namespace Go.TX.F
open Go Go.AE Go.TX
theorem OA {m:aj} (n:Int) (h:aok m.atoms):mulM m ⟨n,[]⟩=⟨m.gq*n%65536,m.atoms⟩:=by
 unfold mulM
 rw [←rG (a:=m.atoms++ []) (o:=m.atoms) h.1 (by simp)]
theorem Jy (a:List aj) (n:aj):prods a [n]=a.map (fun m=>mulM m n):=by
 induction a with
 | nil=>rfl
 | cons x a ih=>simp only [prods,List.flatMap_cons,List.map_cons,List.map_nil]at ih ⊢;rw [ih];rfl
theorem bR:aO []:=iE.2 ⟨⟨List.Pairwise.nil,fun m hm=>absurd hm (by simp)⟩,by simp,fun m hm=>absurd hm (by simp)⟩
theorem bW (n:Int):aO (aP n):=by
 unfold aP;split
 ·refine iE.2 ⟨⟨List.pairwise_singleton _ _,fun m hm=> ?_⟩,by simp,fun m hm=> ?_⟩
  ·rw [List.mem_singleton]at hm;subst hm;assumption
  ·rw [List.mem_singleton]at hm;subst hm;exact⟨by simp,List.Pairwise.nil,fun k hk=>absurd hk (by simp)⟩
 ·exact bR
theorem kR (n:Int):aO (dB n):=by
 unfold dB;split
 ·refine iE.2 ⟨⟨List.pairwise_singleton _ _,fun m hm=> ?_⟩,by simp,fun m hm=> ?_⟩
  ·rw [List.mem_singleton]at hm;subst hm;dsimp only;omega
  ·rw [List.mem_singleton]at hm;subst hm;exact⟨by simp,List.pairwise_singleton _ _,fun k hk=>by rw [List.mem_singleton]at hk;omega⟩
 ·exact bR
theorem Z0 (l:List aj):(Nf (nf l)∧∀k,cf (nf l) k=cf l k%65536)∨nf l=[]:=by
 by_cases he:∃o,Nf o∧∀k,cf o k=cf l k%65536
 ·obtain⟨o,h1,h2⟩:=he
  rw [Jo h1 h2];exact Or.inl ⟨h1,h2⟩
 ·right;unfold nf;rw [dif_neg he]
theorem Z4 {l:List aj} {n:Int} (h:bg l n):bg (nf l) n:=by
 rcases Z0 l with⟨h1,h2⟩ | h1
 ·refine bO.2 fun m hm k hk=> ?_
  obtain⟨m',g1,g2⟩:=h1.from h2 hm
  exact bO.1 h m' g1 k (g2▸hk)
 ·rw [h1];exact bO.2 fun m hm=>absurd hm (by simp)
theorem iR (n:Int):bg [] n:=bO.2 fun m hm=>absurd hm (by simp)
theorem UZ (l:List aj):aO (jZ l).2:=by
 unfold jZ
 by_cases h:aO (nf l)
 ·rw [bN h];exact h
 ·rw [gU h];exact bR
theorem Hu {l:List aj} {n:Int} (h:bg l n):bg (jZ l).2 n:=by
 unfold jZ
 dsimp only
 split
 ·exact Z4 h
 ·exact iR n
theorem Wt {a b:List aj} {n:Int} (h1:bg a n) (h2:bg b n):bg (a++b) n:=bO.2 fun m hm k hk=>by
 rw [List.mem_append]at hm
 rcases hm with hm | hm
 ·exact bO.1 h1 m hm k hk
 ·exact bO.1 h2 m hm k hk
theorem OB {a b:List aj} {n:Int} (h1:bg a n) (h2:bg b n):bg (prods a b) n:=bO.2 fun m hm k hk=>by
 unfold prods at hm
 rw [List.mem_flatMap]at hm
 obtain⟨x,hx,hm⟩:=hm
 rw [List.mem_map]at hm
 obtain⟨y,hy,rfl⟩:=hm
 have:k∈x.atoms++y.atoms:=List.mem_mergeSort.1 hk
 rw [List.mem_append]at this
 rcases this with hk | hk
 ·exact bO.1 h1 x hx k hk
 ·exact bO.1 h2 y hy k hk
theorem U0 (a b:List aj):aO (nU a b).2:=by unfold nU;split;exact UZ _;exact bR
theorem acA (a b:List aj):aO (lH a b).2:=by unfold lH;split;exact UZ _;exact bR
theorem Hw {a b:List aj} {n:Int} (h1:bg a n) (h2:bg b n):bg (nU a b).2 n:=by unfold nU;split;exact Hu (Wt h1 h2);exact iR n
theorem Hy {a b:List aj} {n:Int} (h1:bg a n) (h2:bg b n):bg (lH a b).2 n:=by unfold lH;split;exact Hu (OB h1 h2);exact iR n
theorem uU (c n:Int):bg (aP c) n:=bO.2 fun m hm k hk=>by
 unfold aP at hm;split at hm
 ·rw [List.mem_singleton]at hm;subst hm;exact absurd hk (by simp)
 ·exact absurd hm (by simp)
theorem rH {k n:Int} (h:k<n):bg (dB k) n:=bO.2 fun m hm j hj=>by
 unfold dB at hm;split at hm
 ·rw [List.mem_singleton]at hm;subst hm;rw [List.mem_singleton]at hj;omega
 ·exact absurd hm (by simp)
theorem aG.sh {t:List Atom} (h:aG t):ShT t:=⟨by have:=h.2;omega,fun a ha=>by
 obtain⟨i,hi,rfl⟩:=List.getElem_of_mem ha
 have:=(h.1 i (by omega) (by omega)).1
 rw [show(i:Int).toNat=i from rfl,getD_lt hi]at this
 unfold gV at this
 split at this
 ·exact⟨this.2.1.sh,this.2.2.1.sh⟩
 ·rw [ShA,this.1.1,this.1.2];exact⟨nJ,nJ⟩⟩
theorem zB {t:List Atom} {a:Atom} (h:aG t) (h2:t.length<200):aG (bf t a).1∧t.length≤(bf t a).1.length∧(bf t a).1.length≤t.length+1∧(gV a t.length→0≤(bf t a).2):=by
 have hsp:=kQ t a
 unfold bf
 split
 ·rename_i h3;exact⟨h,Nat.le_refl _,Nat.le_succ _,fun _=>h3⟩
 ·rename_i h3
  split
  ·rename_i h4;exact⟨h,Nat.le_refl _,Nat.le_succ _,fun h5=>by rcases h4 with h4 | h4;exact absurd h5 h4;omega⟩
  ·rename_i h4
   have h5:gV a t.length:=Classical.byContradiction fun h5=>h4 (Or.inl h5)
   refine⟨jI.2 ⟨?_,by rw [List.length_append];simp only [List.length_cons,List.length_nil];omega⟩,by rw [List.length_append];exact Nat.le_add_right _ _,by rw [List.length_append];exact Nat.le_refl _,fun _=>by dsimp only;omega⟩
   have hl:((t++ [a]).length:Int)=t.length+1:=by rw [List.length_append];rfl
   have g1:∀i:Int,0≤i→i<t.length→(t++ [a]).getD i.toNat default=t.getD i.toNat default:=fun i i1 i2=>by
    rw [getD_lt (show i.toNat< (t++ [a]).length by omega),getD_lt (show i.toNat<t.length by omega),List.getElem_append_left]
   have g2:(t++ [a]).getD ((t.length:Int)).toNat default=a:=by
    rw [getD_lt (show((t.length:Int)).toNat< (t++ [a]).length by omega)];simp
   rw [hl]
   intro i i1 i2
   dsimp only
   by_cases i3:i<t.length
   ·rw [g1 i i1 i3]
    have:=(jI.1 h).1 i i1 i3
    exact⟨this.1,fun j j1 j2=>by dsimp only;rw [g1 j j1 (by omega)];exact this.2 j j1 j2⟩
   ·have:i=t.length:=by omega
    subst this
    rw [g2]
    refine⟨h5,fun j j1 j2=> ?_⟩
    dsimp only;rw [g1 j j1 j2]
    rcases hsp with⟨_,g⟩ | ⟨g,_⟩
    ·exact g j j1 j2
    ·exact absurd g h3
end Go.TX.F
namespace Go.TX.F
open Go Go.AE Go.TX
def By (b:List Int):Prop:=∀z∈b,0≤z∧z≤255
structure Bt (b:List Int):Prop where
 len:b.length≤2000
 rng:By b
theorem By.at {b:List Int} (h:By b) (n:Nat):0≤b.getD n default∧b.getD n default≤255:=by
 by_cases h1:n<b.length
 ·rw [getD_lt h1];exact h _ (List.getElem_mem _)
 ·simp only [List.getD,List.getElem?_eq_none (by omega:b.length≤n)];decide
theorem Z5 (b:List Int) (hb:By b) (hl:b.length<1000000000):Rp (std 0) (b,()) (fun y=>Bt y.1∧y.2.1=0):=by
 dsimp only [Rp,Alg.cl,Alg.cg,Alg.rb,Alg.bd,Alg.l1,Tup.q,Tup.o]
 simp (disch:=omega) only [RR]
 refine⟨fun h=>⟨by omega,by omega,by omega,⟨?_,?_⟩⟩,fun h=>⟨by omega,hb⟩⟩
 ·rw [List.length_drop,List.length_take];omega
 ·intro z hz;exact hb z (List.mem_of_mem_take (List.mem_of_mem_drop hz))
theorem ah8 {a b:Int} (h1:0≤a) (h2:a<4611686018427387904) (h3:0≤b) (h4:b<4611686018427387904):0≤jY .xor .i64 a b∧jY .xor .i64 a b<4611686018427387904:=by
 have e:((2^IntKind.i64.bits:Nat):Int)=18446744073709551616:=by decide
 have e2:jY .xor .i64 a b=((a.toNat^^^b.toNat:Nat):Int):=by
  unfold jY;dsimp only
  rw [BitVec.toNat_xor,BitVec.toNat_ofInt,BitVec.toNat_ofInt,e,show a%18446744073709551616=a by omega,show b%18446744073709551616=b by omega]
  have:=Nat.xor_lt_two_pow (show a.toNat<2^62 by omega) (show b.toNat<2^62 by omega)
  rw [w64 (by omega) (by omega)]
 rw [e2]
 have:=Nat.xor_lt_two_pow (show a.toNat<2^62 by omega) (show b.toNat<2^62 by omega)
 omega
theorem CP {a b:Int} (h:0≤a):a.tmod b=a%b:=Int.tmod_eq_emod_of_nonneg h
theorem U1 {a b:Int} (h:0≤a):a.tdiv b=a/b:=Int.tdiv_eq_ediv_of_nonneg h
def Pk (n:Int) (b:List Int) (p:Int) (y:Int×List Int×Int×Unit):Prop:=y.2.1=b∧y.2.2.1=p+1∧0≤y.1∧(y.1<n∨y.1=0)
theorem Z6 (n:Int) (b:List Int) (p:Int) (hb:Bt b) (h1:0≤p) (h2:p<1000000000):Qk (std 0) (n,b,p,()) (fun y=>Pk n b p y):=by
 have hl:=hb.1
 have cvu:∀k:Nat,IntKind.i64.wrap (b.getD k default)=b.getD k default:=fun k=>by have:=hb.2.at k;exact w64 (by omega) (by omega)
 dsimp only [Qk,Alg.cl,Alg.cg,Alg.rb,Alg.bd,Alg.l1,Tup.q,Tup.o]
 simp (disch:=omega) only [RR,cvu]
 refine⟨fun h=>⟨rfl,rfl,by omega,Or.inr rfl⟩,fun⟨h3,h4⟩=> ?_⟩
 have e1:p+1-1=p:=by omega
 rw [e1]
 refine⟨fun h=>⟨by omega,by omega,by omega,?_⟩,fun h=> ?_⟩
 ·have:=hb.2.at p.toNat
  rw [CP this.1]
  exact⟨rfl,rfl,Int.emod_nonneg _ (by omega),Or.inl (Int.emod_lt_of_pos _ (by omega))⟩
 ·have hb0:(0:Int)<b.length:=by omega
  have k1:=Int.emod_nonneg p (show(b.length:Int)≠0 by omega)
  have k2:=Int.emod_lt_of_pos p hb0
  have k3:=Int.emod_nonneg (p*7+3) (show(b.length:Int)≠0 by omega)
  have k4:=Int.emod_lt_of_pos (p*7+3) hb0
  have k5:0≤p/b.length:=Int.ediv_nonneg h1 (by omega)
  have k6:p/b.length≤p:=Int.ediv_le_self _ h1
  simp (disch:=omega) only [w64,CP,U1]
  have q1:=hb.2.at (p%b.length).toNat
  have q2:=hb.2.at ((p*7+3)%b.length).toNat
  generalize (b.getD (p%b.length).toNat default)=u at q1 ⊢
  generalize (b.getD ((p*7+3)%b.length).toNat default)=v at q2 ⊢
  generalize p/b.length=w at k5 k6 ⊢
  simp (disch:=omega) only [w64,CP,U1]
  have q:=ah8 (a:=u*131+v*1117+p*29+w*53) (b:=(u*131+v*1117+p*29+w*53)/64) (by omega) (by omega) (by omega) (by omega)
  rw [R6]
  generalize jY .xor .i64 (u*131+v*1117+p*29+w*53) ((u*131+v*1117+p*29+w*53)/64)=g at q ⊢
  rw [CP q.1]
  exact⟨h4,k1,k2,h4,k3,k4,h4,by omega,by omega,rfl,rfl,Int.emod_nonneg _ (by omega),Or.inl (Int.emod_lt_of_pos _ (by omega))⟩
theorem ah9 {p1:Int×List Int×Int×Unit→Bool} {f1:Int×List Int×Int×Unit→Int×List Int×Int×Unit} (hp1:∀n b p,Bt b→0≤p→p<1000000000→p1 (n,b,p,())=true) (hf1:∀n b p,Bt b→0≤p→p<1000000000→Pk n b p (f1 (n,b,p,())))
  (n:Int) (b:List Int) (p:Int) (hb:Bt b) (h1:0≤p) (h2:p<1000000000):Ql (std 0) p1 f1 (n,b,p,()) (fun y=>y.2.1=b∧y.2.2.1=p+1):=by
 obtain⟨e1,e2,_⟩:=hf1 n b p hb h1 h2
 dsimp only [Ql,Alg.cl,Alg.cg,Alg.rb,Alg.bd,Alg.l1,Tup.q,Tup.o]
 simp (disch:=omega) only [RR,hp1 n b p hb h1 h2,e1,e2]
end Go.TX.F
namespace Go.TX.F
open Go Go.AE Go.TX
structure arP (n:Int) (b:List Int) (p:Int) (y:List Int×Int×List aj×Unit):Prop where
 b:y.1=b
 lo:p≤y.2.1
 hi:y.2.1≤p+200
 ok:aO y.2.2.1
 un:bg y.2.2.1 n
end Go.TX.F
namespace Go.TX.F
open Go Go.AE Go.TX
structure arU (b:List Int) (p n:Int) (y:List Int×Int×List Atom×Unit):Prop where
 b:y.1=b
 lo:p≤y.2.1
 hi:y.2.1≤p+10000
 sh:ShT y.2.2.1
 ne:0<y.2.2.1.length
 le:(y.2.2.1.length:Int)≤n
end Go.TX.F
namespace Go.TX.F
open Go Go.AE Go.TX
theorem zC {l o:List aj} (h:aO o) (h2:∀k,cf o k=cf l k%65536):jZ l=(true,o):=by
 unfold jZ;rw [Jo h.nf h2,bN h,if_pos rfl]
theorem Hz {x:List aj} (h:aO x):aO (iM x 65535)∧∀k,cf (iM x 65535) k=(65535*cf x k)%65536:=by
 have hc:∀(l:List aj) k,cf (l.map fun m=>(⟨m.gq*65535%65536,m.atoms⟩:aj)) k%65536=(65535*cf l k)%65536:=fun l k=>by
  induction l with
  | nil=>rfl
  | cons m l ih=>rw [List.map_cons,bD,bD];dsimp only;split<;>omega
 have no:Nf (x.map fun m=>(⟨m.gq*65535%65536,m.atoms⟩:aj)):=⟨by
  rw [List.pairwise_map];exact h.nf.ss,fun m hm=>by
  rw [List.mem_map]at hm
  obtain⟨n,hn,rfl⟩:=hm
  have:=h.nf.co n hn
  dsimp only;omega⟩
 have ok:aO (x.map fun m=>(⟨m.gq*65535%65536,m.atoms⟩:aj)):=iE.2 ⟨no,by rw [List.length_map];exact h.len,fun m hm=>by
  rw [List.mem_map]at hm
  obtain⟨n,hn,rfl⟩:=hm
  exact show n.atoms.length≤4∧aok n.atoms from h.aok hn⟩
 have pe:prods x (aP 65535)=x.map fun m=>(⟨m.gq*65535%65536,m.atoms⟩:aj):=by
  unfold aP;rw [if_pos (by omega),Jy]
  exact List.map_congr_left fun m hm=>OA 65535 (h.aok hm).2
 have e:iM x 65535=x.map fun m=>(⟨m.gq*65535%65536,m.atoms⟩:aj):=by
  unfold iM lH
  rw [if_pos (by rw [bN h];rfl),if_pos (by rw [bN h,bN (bW _)];rfl),pe,zC ok (fun k=>by have:=no.bnd k;omega)]
 rw [e]
 exact⟨ok,fun k=>by rw [←hc];have:=no.bnd k;omega⟩
theorem sub_self {x:List aj} (h:aO x):fQ 2 x x=([],true):=by
 obtain⟨h1,h2⟩:=Hz h
 unfold fQ nU
 rw [if_neg (by omega),if_pos rfl,if_pos (by rw [bN h,bN h1];rfl),zC bR (fun k=>by rw [mI,h2,jm];omega)]
theorem HV {x:List aj} (h:(dL x).2=true):aO x∧x=aP (dL x).1∧0≤(dL x).1∧(dL x).1≤65535:=by
 unfold dL at h ⊢
 by_cases c:aO x
 ·rw [bN c,if_pos rfl]at h ⊢
  refine⟨c,?_⟩
  by_cases c1:x.length=0
  ·rw [if_pos c1];exact⟨by rw [List.eq_nil_of_length_eq_zero c1];rfl,by omega,by omega⟩
  ·rw [if_neg c1]at h ⊢
   by_cases c2:x.length=1∧(x.getD 0 default).atoms.length=0
   ·rw [if_pos c2]
    match x,c,c2 with
    | [m],c,c2=>
     have hc:=c.nf.co m (by simp)
     have ha:m.atoms=[]:=List.eq_nil_of_length_eq_zero c2.2
     refine⟨?_,by show 0≤m.gq;omega,by show m.gq≤65535;omega⟩
     show [m]=aP m.gq
     unfold aP;rw [if_pos hc,←ha]
   ·rw [if_neg c2]at h;exact absurd h (by simp)
 ·rw [gU c]at h;exact absurd h (by simp)
theorem nK {a:Int} (h:0≤a∧a≤65535) (k:List Int):cf (aP a) k=if []=k then a else 0:=by
 unfold aP
 by_cases c:1≤a∧a≤65535
 ·rw [if_pos c,bD,jm,Int.add_zero]
 ·rw [if_neg c,jm];split<;>omega
theorem gW {a:Int} (h:0≤a∧a≤65535):dL (aP a)=(a,true):=by
 unfold dL
 rw [bN (bW a),if_pos rfl]
 unfold aP
 by_cases c:1≤a∧a≤65535
 ·rw [if_pos c];rfl
 ·rw [if_neg c,show a=0 by omega];rfl
theorem R9 {op a b:Int} (hop:1≤op∧op≤5) (ha:0≤a∧a≤65535) (hb:0≤b∧b≤65535):fQ op (aP a) (aP b)=(aP (wdo op a b),true):=by
 have hm:=UY ha.1 ha.2 hb.1 hb.2
 unfold fQ
 by_cases c1:op=1
 ·subst c1
  have w:wdo 1 a b=(a+b)%65536:=by unfold wdo;rw [if_pos ⟨ha,hb⟩];rfl
  rw [if_pos rfl,w];unfold nU
  rw [if_pos (by rw [bN (bW _),bN (bW _)];rfl),zC (bW ((a+b)%65536)) (fun k=>by rw [mI,nK ha,nK hb,nK (by omega)];split<;>omega)]
 ·rw [if_neg c1]
  by_cases c2:op=2
  ·subst c2
   have w:wdo 2 a b=(a-b)%65536:=by unfold wdo;rw [if_pos ⟨ha,hb⟩];rfl
   obtain⟨s1,s2⟩:=Hz (bW b)
   rw [if_pos rfl,w];unfold nU
   rw [if_pos (by rw [bN (bW _),bN s1];rfl),zC (bW ((a-b)%65536)) (fun k=>by rw [mI,nK ha,s2,nK hb,nK (by omega)];split<;>omega)]
  ·rw [if_neg c2]
   by_cases c3:op=3
   ·subst c3
    have w:wdo 3 a b=(a*b)%65536:=by unfold wdo;rw [if_pos ⟨ha,hb⟩];rfl
    rw [if_pos rfl,w];unfold lH
    rw [if_pos (by rw [bN (bW _),bN (bW _)];rfl),zC (bW ((a*b)%65536)) (fun k=> ?_)]
    rw [nK (by omega)]
    by_cases p1:1≤a
    ·by_cases p2:1≤b
     ·have e1:aP a=[⟨a,[]⟩]:=by unfold aP;rw [if_pos ⟨p1,ha.2⟩]
      have e2:aP b=[⟨b,[]⟩]:=by unfold aP;rw [if_pos ⟨p2,hb.2⟩]
      rw [e1,e2,Jy,List.map_cons,List.map_nil,OA b ⟨List.Pairwise.nil,fun k hk=>absurd hk (by simp)⟩,bD,jm]
      dsimp only;split<;>omega
     ·have e0:b=0:=by omega
      subst e0
      rw [show prods (aP a) (aP 0)=[] by simp [prods,aP],jm];split<;>simp
    ·have e0:a=0:=by omega
     subst e0
     rw [show prods (aP 0) (aP b)=[] by simp [prods,aP],jm];split<;>simp
   ·rw [if_neg c3,acz,gW ha,gW hb];rfl
end Go.TX.F
namespace Go.TX.F
open Go Go.AE Go.TX
end Go.TX.F
namespace Go.TX.F
open Go Go.AE Go.TX
theorem U2 {d:List Int} {i j x:Int} (h1:0≤i) (h2:i<d.length) (h3:0≤j):((d.set i.toNat x).getD (j).toNat default)=if j=i then x else((d).getD (j).toNat default):=by
 simp only [List.getD]
 by_cases h:j=i
 ·subst h;rw [if_pos rfl,List.getElem?_set_self (by omega)];rfl
 ·rw [if_neg h,List.getElem?_set_ne (by omega)]
theorem Wu {d:List Int} {i j:Int} (h1:0≤i) (h2:i<d.length) (h3:0≤j) (h4:j<d.length) (h5:i≠j):((d.set i.toNat ((d).getD (j).toNat default)).set j.toNat ((d).getD (i).toNat default)).Perm d:=by
 rw [List.perm_iff_count]
 intro x
 rw [getD_lt (show i.toNat<d.length by omega),getD_lt (show j.toNat<d.length by omega),List.count_set (by simp;omega),List.count_set (by omega),List.getElem_set_ne (by omega)]
 have h6:(if d[i.toNat]==x then 1 else 0)≤List.count x d:=by
  split
  ·rename_i h;exact List.count_pos_iff.2 (by rw [←eq_of_beq h];exact List.getElem_mem _)
  ·omega
 split<;>split<;>simp_all<;>omega
theorem aia {p:Int×Int×Unit→Bool} {f:Int×Int×Unit→Bool×Unit} (hp:∀a b,p (a,b,())=true) (hf:∀a b,f (a,b,())=(decide (a<b),()))
  (a b:Int) (d:List Int) (hd:d.length<1000000000) (h1:a=0) (h2:b=d.length):
  RQ (std 0) p f (a,b,d,()) (fun y=>y.1=dJ d):=by
 subst h1
 dsimp only [RQ,Alg.cl,Alg.cg,Alg.rb,Alg.bd,Alg.l1,Tup.q,Tup.o]
 simp (disch:=omega) only [RR]
 have fin:∀e:List Int,e.Perm d→(∀q:Int,1≤q→q<e.length→((e).getD (q-1).toNat default)≤((e).getD (q).toNat default))→e=dJ d:=fun e g1 g2=>
  rG ((mG (d:=default) (R:=fun a b:Int=>a≤b) (fun h1 h2=>Int.le_trans h1 h2)).2 g2) g1
 refine aA (fun(y:Int×Int×Int×List Int×Unit)=>y.1=0∧y.2.1=b∧1≤y.2.2.1∧(y.2.2.1≤b∨y.2.2.1=1)∧y.2.2.2.1.Perm d∧∀q,1≤q→q<y.2.2.1→((y.2.2.2.1).getD (q-1).toNat default)≤((y.2.2.2.1).getD (q).toNat default)) (fun y=>(b-y.2.2.1).toNat)
  ⟨rfl,rfl,by simp,Or.inr rfl,List.Perm.refl d,fun q g1 g2=>by dsimp only at g2;omega⟩ ?_
 rintro⟨(a':Int),(b':Int),(i:Int),(e:List Int),⟨⟩⟩ hI
 dsimp only at hI ⊢
 obtain⟨rfl,rfl,h4,h5,h6,h7⟩:=hI
 have hle:=h6.length_eq
 simp (disch:=omega) only [RR]
 refine⟨fun h9=> ?_,fun h9=>fin e h6 fun q g1 g2=>h7 q g1 (by omega)⟩
 refine aA (fun(y:Int×Int×Int×Int×List Int×Unit)=>y.1=0∧y.2.1=b'∧y.2.2.1=i∧0≤y.2.2.2.1∧y.2.2.2.1≤i∧y.2.2.2.2.1.Perm d
   ∧(∀q,1≤q→q≤i→q≠y.2.2.2.1→((y.2.2.2.2.1).getD (q-1).toNat default)≤((y.2.2.2.2.1).getD (q).toNat default))∧(1≤y.2.2.2.1→y.2.2.2.1+1≤i→((y.2.2.2.2.1).getD (y.2.2.2.1-1).toNat default)≤((y.2.2.2.2.1).getD (y.2.2.2.1+1).toNat default))) (fun y=>y.2.2.2.1.toNat)
  ⟨rfl,rfl,rfl,by simp;omega,by simp,h6,fun q g1 g2 g3=>h7 q g1 (by dsimp only at g3;omega),fun g1 g2=>by dsimp only at g2;omega⟩ ?_
 rintro⟨(a'':Int),(b'':Int),(i':Int),(j:Int),(e':List Int),⟨⟩⟩ hI
 dsimp only at hI ⊢
 obtain⟨rfl,rfl,rfl,h10,h11,h12,h13,h14⟩:=hI
 have hle':=h12.length_eq
 simp (disch:=omega) only [RR,List.length_set,hp,hf]
 repeat' (refine And.intro ?_ ?_)
 all_goals try omega
 ·intro ⟨g1,g2⟩
  have at2:∀k,0≤k→(((e'.set j.toNat ((e').getD (j-1).toNat default)).set (j-1).toNat ((e').getD (j).toNat default)).getD (k).toNat default)=if k=j-1 then((e').getD (j).toNat default)else if k=j then((e').getD (j-1).toNat default)else((e').getD (k).toNat default):=fun k hk=>by
   rw [U2 (by omega) (by simp;omega) hk,U2 (by omega) (by omega) hk]
  repeat' (refine And.intro ?_ ?_)
  all_goals try omega
  ·exact(Wu (by omega) (by omega) (by omega) (by omega) (by omega)).trans h12
  ·intro q k1 k2 k3
   rw [at2 _ (by omega),at2 _ (by omega)]
   by_cases c1:q=j
   ·subst c1;rw [if_pos rfl,if_neg (by omega),if_pos rfl];omega
   ·rw [if_neg (by omega)]
    by_cases c2:q=j+1
    ·subst c2
     rw [if_pos (by omega),if_neg (by omega),if_neg (by omega)]
     exact h14 (by omega) (by omega)
    ·rw [if_neg (by omega),if_neg (by omega),if_neg (by omega)]
     exact h13 q k1 k2 c1
  ·intro k1 k2
   rw [at2 _ (by omega),at2 _ (by omega),if_neg (by omega),if_neg (by omega),if_neg (by omega),if_pos (by omega)]
   have:=h13 (j-1) (by omega) (by omega) (by omega)
   exact this
 ·intro g
  refine⟨⟨by omega,by omega,h12,fun q k1 k2=> ?_⟩,by omega⟩
  by_cases c:q=j
  ·subst c
   rw [Bool.and_eq_false_iff,decide_eq_false_iff_not,decide_eq_false_iff_not]at g
   omega
  ·exact h13 q k1 (by omega) c
theorem aib {p:Int×Int×Unit→Bool} {f:Int×Int×Unit→Bool×Unit}
  {p1:Int×Int×List Int×Unit→Bool} {f1:Int×Int×List Int×Unit→List Int×Unit} (hp1:∀(a b:Int) (d:List Int),d.length<1000000000→a=0→b=d.length→p1 (a,b,d,())=true) (hf1:∀(a b:Int) (d:List Int),d.length<1000000000→a=0→b=d.length→(f1 (a,b,d,())).1=dJ d)
  (p2 p3 f2 f3 p4 f4 p5 f5 p6 f6 p7 f7 p8 f8 p9 f9) (a b k:Int) (d:List Int) (hd:d.length≤12) (h1:a=0) (h2:b=d.length):
  RS (std 0) p f p1 f1 p2 f2 p3 f3 p4 f4 p5 f5 p6 f6 p7 f7 p8 f8 p9 f9 (a,b,k,d,()) (fun y=>y.1=dJ d):=by
 subst h1
 dsimp only [RS,Alg.cl,Alg.cg,Alg.rb,Alg.bd,Alg.l1,Tup.q,Tup.o]
 simp (disch:=omega) only [RR]
 refine aA (fun(y:Int×Int×Int×Bool×Bool×List Int×Unit)=>y.1=0∧y.2.1=b∧y.2.2.2.2.2.1=d) (fun y=>0) ⟨rfl,rfl,rfl⟩ ?_
 rintro⟨(a':Int),(b':Int),(k':Int),(u:Bool),(v:Bool),(e:List Int),⟨⟩⟩ hI
 dsimp only at hI ⊢
 obtain⟨rfl,rfl,rfl⟩:=hI
 simp (disch:=omega) only [RR]
 exact⟨fun _=>⟨hp1 0 b' e (by omega) rfl h2,hf1 0 b' e (by omega) rfl h2⟩,fun h=>absurd h (by omega)⟩
theorem aic {p1:Int×Int×Int×List Int×Unit→Bool} {f1:Int×Int×Int×List Int×Unit→List Int×Unit} (hp1:∀(a b k:Int) (d:List Int),d.length≤12→a=0→b=d.length→p1 (a,b,k,d,())=true) (hf1:∀(a b k:Int) (d:List Int),d.length≤12→a=0→b=d.length→(f1 (a,b,k,d,())).1=dJ d)
  {p2:Int×Unit→Bool} {f2:Int×Unit→Int×Unit} (hp2:∀n,0≤n→n≤18446744073709551615→p2 (n,())=true) (a:List Int) (ha:a.length≤8):
  RU (std 0) p1 f1 p2 f2 (a,()) (fun y=>y=(dJ a,())):=by
 dsimp only [RU,Alg.cl,Alg.cg,Alg.rb,Alg.bd,Alg.l1,Tup.q,Tup.o]
 have e:IntKind.u64.wrap (a.length:Int)=(a.length:Int):=IntWalk.u64_in _ (by omega)
 refine⟨?_,hp1 _ _ _ _ (by omega) rfl rfl,by rw [hf1 _ _ _ _ (by omega) rfl rfl]⟩
 rw [e];exact hp2 _ (by omega) (by omega)
end Go.TX.F
namespace Go.TX.F
open Go Go.AE Go.TX
def wOK (l:List Int):Prop:=∀z∈l,0≤z∧z≤65535
theorem wOK.at {l:List Int} (h:wOK l) (n:Nat):0≤l.getD n default∧l.getD n default≤65535:=by
 by_cases hn:n<l.length
 ·rw [getD_lt hn];exact h _ (List.getElem_mem _)
 ·rw [List.getD,List.getElem?_eq_none (by omega)];decide
theorem wOK.snoc {l:List Int} (h:wOK l) {x:Int} (hx:0≤x∧x≤65535):wOK (l++ [x]):=fun z hz=>by
 rw [List.mem_append,List.mem_singleton]at hz
 rcases hz with hz | rfl
 ·exact h z hz
 ·exact hx
end Go.TX.F
namespace Go.TX.F
open Go Go.AE Go.TX
def ins (c:Int) (at_:List Int):List aj→List aj
 | []=>if c%65536=0 then []else [⟨c%65536,at_⟩]
 | m::o=>if dZ at_ m.atoms<0 then(if c%65536=0 then m::o else⟨c%65536,at_⟩::m::o)
  else if at_=m.atoms then(if(c+m.gq)%65536=0 then o else⟨(c+m.gq)%65536,at_⟩::o)else m::ins c at_ o
theorem Z7 {c:Int} {a:List Int} {x:aj} (hx:dZ x.atoms a<0):∀ {o:List aj},(∀y∈o,lt x y)→∀y∈ins c a o,lt x y
 | [],_,y,hy=>by
  unfold ins at hy
  split at hy
  ·cases hy
  ·rw [List.mem_singleton]at hy;subst hy;exact hx
 | m::o,h,y,hy=>by
  unfold ins at hy
  split at hy
  ·split at hy
   ·exact h y hy
   ·rcases List.mem_cons.1 hy with rfl | hy
    ·exact hx
    ·exact h y hy
  ·split at hy
   ·split at hy
    ·exact h y (List.mem_cons_of_mem _ hy)
    ·rcases List.mem_cons.1 hy with rfl | hy
     ·exact hx
     ·exact h y (List.mem_cons_of_mem _ hy)
   ·rcases List.mem_cons.1 hy with rfl | hy
    ·exact h _ (List.mem_cons_self ..)
    ·exact Z7 hx (fun z hz=>h z (List.mem_cons_of_mem _ hz)) y hy
theorem Z8 (c:Int) (a:List Int):∀ {o:List aj},Nf o→Nf (ins c a o)∧∀k,cf (ins c a o) k=((if a=k then c else 0)+cf o k)%65536
 | [],h=>by
  unfold ins
  by_cases h1:c%65536=0
  ·rw [if_pos h1];exact⟨h,fun k=>by rw [jm];split<;>omega⟩
  ·rw [if_neg h1]
   refine⟨⟨List.pairwise_singleton _ _,fun m hm=>by rw [List.mem_singleton]at hm;subst hm;dsimp only;omega⟩,fun k=> ?_⟩
   rw [bD,jm];dsimp only;split<;>omega
 | m::o,h=>by
  have hb:=h.bnd
  have ho:Nf o:=⟨h.ss.tail,fun x hx=>h.co x (List.mem_cons_of_mem _ hx)⟩
  have hm:=h.co m (List.mem_cons_self ..)
  unfold ins
  by_cases h1:dZ a m.atoms<0
  ·rw [if_pos h1]
   by_cases h2:c%65536=0
   ·rw [if_pos h2];exact⟨h,fun k=>by have:=hb k;split<;>omega⟩
   ·rw [if_neg h2]
    have g:Nf (⟨c%65536,a⟩::m::o):=⟨List.pairwise_cons.2 ⟨fun y hy=>by
     rcases List.mem_cons.1 hy with rfl | hy
     ·exact h1
     ·exact AV (b:=m) h1 (List.rel_of_pairwise_cons h.ss hy),h.ss⟩,fun x hx=>by
     rcases List.mem_cons.1 hx with rfl | hx
     ·dsimp only;omega
     ·exact h.co x hx⟩
    refine⟨g,fun k=> ?_⟩
    have hk:=hb k
    have gk:=g.bnd k
    rw [bD]at gk ⊢
    dsimp only at gk ⊢
    split<;>split at gk<;>omega
  ·rw [if_neg h1]
   by_cases h2:a=m.atoms
   ·rw [if_pos h2]
    by_cases h3:(c+m.gq)%65536=0
    ·rw [if_pos h3]
     refine⟨ho,fun k=> ?_⟩
     have ok:=ho.bnd k
     have hk:=hb k
     rw [bD]at hk ⊢
     rw [h2]
     by_cases h4:m.atoms=k
     ·rw [if_pos h4,if_pos h4]
      have:cf o k=0:=gK fun x hx e=>(List.rel_of_pairwise_cons h.ss hx:lt m x).ne (h4.trans e.symm)
      omega
     ·rw [if_neg h4,if_neg h4];omega
    ·rw [if_neg h3]
     have g:Nf (⟨(c+m.gq)%65536,a⟩::o):=⟨List.pairwise_cons.2 ⟨fun y hy=>by
      have:lt m y:=List.rel_of_pairwise_cons h.ss hy
      unfold lt at this ⊢;rw [h2];exact this,ho.ss⟩,fun x hx=>by
      rcases List.mem_cons.1 hx with rfl | hx
      ·dsimp only;omega
      ·exact ho.co x hx⟩
     refine⟨g,fun k=> ?_⟩
     have ok:=ho.bnd k
     rw [bD,bD]
     dsimp only
     rw [h2]
     by_cases h4:m.atoms=k
     ·rw [if_pos h4,if_pos h4,if_pos h4]
      have:cf o k=0:=gK fun x hx e=>(List.rel_of_pairwise_cons h.ss hx:lt m x).ne (h4.trans e.symm)
      omega
     ·rw [if_neg h4,if_neg h4,if_neg h4];omega
   ·rw [if_neg h2]
    obtain⟨i1,i2⟩:=Z8 c a ho
    have hlt:dZ m.atoms a<0:=by
     have:=kP m.atoms a
     by_cases z:dZ m.atoms a=0
     ·exact absurd (iD.1 z).symm h2
     ·omega
    refine⟨⟨List.pairwise_cons.2 ⟨Z7 hlt (fun y hy=>List.rel_of_pairwise_cons h.ss hy),i1.ss⟩,fun x hx=>by
     rcases List.mem_cons.1 hx with rfl | hx
     ·exact hm
     ·exact i1.co x hx⟩,fun k=> ?_⟩
    rw [bD,bD,i2 k]
    by_cases h4:m.atoms=k
    ·have:cf o k=0:=gK fun x hx e=>(List.rel_of_pairwise_cons h.ss hx:lt m x).ne (h4.trans e.symm)
     rw [if_pos h4,if_neg (by rw [←h4];exact h2),this];omega
    ·rw [if_neg h4];omega
theorem ady:∀l:List aj,∃o,Nf o∧∀k,cf o k=cf l k%65536
 | []=>⟨[],⟨List.Pairwise.nil,fun m hm=>by cases hm⟩,fun k=>rfl⟩
 | m::l=>by
  obtain⟨o,h1,h2⟩:=ady l
  obtain⟨g1,g2⟩:=Z8 m.gq m.atoms h1
  refine⟨_,g1,fun k=> ?_⟩
  rw [g2,bD,h2];split<;>omega
theorem KG (l:List aj):Nf (nf l)∧∀k,cf (nf l) k=cf l k%65536:=by
 obtain⟨o,h1,h2⟩:=ady l
 rw [Jo h1 h2];exact⟨h1,h2⟩
theorem Z9 {op:Int} (hop:1≤op∧op≤5) {x y:List aj} (hx:aO x) (hy:aO y):aO (fQ op x y).1:=by
 unfold fQ
 split
 ·exact U0 _ _
 ·split
  ·exact U0 _ _
  ·split
   ·exact acA _ _
   ·unfold Cy
    repeat' split
    all_goals first | exact bW _ | exact bR | assumption
end Go.TX.F
namespace Go.TX.F
open Go Go.AE Go.TX
end Go.TX.F
namespace Go.TX.F
open Go Go.AE Go.TX
@[reducible] def hX (o : IOp) : Prop := o.kind ≠ 1 ∧ o.kind ≠ 2 ∧ o.kind ≠ 6
@[reducible] def hY (o : IOp) : Prop := o.kind = 3 ∨ o.kind = 5
@[reducible] def mkV (o : IOp) : Prop := (1 ≤ o.kind ∧ o.kind ≤ 4) ∨ o.kind = 6
@[reducible] def evO (o : IOp) : Prop := 4 ≤ o.kind ∧ o.kind ≤ 7
def Vl (ops:List IOp) (x n:Int):Prop:=0≤x∧x<n∧mkV ((ops).getD (x).toNat default)
structure Cz (ops:List IOp) (len i:Int) (o:IOp):Prop where
 kd:1≤o.kind∧o.kind≤8
 x1:hX o→Vl ops o.x i
 x0:¬hX o→o.x=0
 y1:hY o→Vl ops o.y i
 y0:¬hY o→o.y=0
 k1:o.kind=1→0≤o.k∧o.k≤65535
 k2:o.kind=2∨o.kind=8→0≤o.k∧o.k≤3
 k3:o.kind=3→1≤o.k∧o.k≤5
 k0:4≤o.kind→o.kind≤7→o.k=0
 a1:evO o→0≤o.at_∧o.at_<len
 a0:¬evO o→o.at_=0
structure zD (b:Blk):Prop where
 f:1≤b.fin∧b.fin≤4
 x1:b.fin≠1→Vl b.ops b.x b.ops.length
 x0:b.fin=1→b.x=0
 y1:3≤b.fin→Vl b.ops b.y b.ops.length
 y0:b.fin≤2→b.y=0
 k1:b.fin≠2→0≤b.k∧b.k≤65535
 k0:b.fin=2→b.k=0
structure dz (b:Blk):Prop where
 ln:1≤b.len∧b.len≤8
 pc:0≤b.pc∧b.pc≤64-b.len
 sz:b.ops.length≤48
 op:∀i:Int,0≤i→i<b.ops.length→Cz b.ops b.len i ((b.ops).getD (i).toNat default)
 en:zD b
structure SS where
 t:List Atom
 regs:List (List aj)
 vals:List (List aj)
 ld:Int
 inn:Int
 evs:List Ev
def xOf (s:SS) (o:IOp):List aj:=if hX o then((s.vals).getD (o.x).toNat default)else []
def yOf (s:SS) (o:IOp):List aj:=if hY o then((s.vals).getD (o.y).toNat default)else []
def aOf (s:SS) (o:IOp):Atom:=if o.kind=4 then⟨2,s.ld,[],[]⟩else⟨3,s.inn,[],[]⟩
noncomputable def nT (s:SS) (o:IOp):List Atom:=if o.kind=3 then(tDo s.t o.k (xOf s o) (yOf s o)).1 else if o.kind=4∨o.kind=6 then(bf s.t (aOf s o)).1 else s.t
noncomputable def nV (s:SS) (o:IOp):List aj:=if o.kind=1 then aP o.k else if o.kind=2 then((s.regs).getD (o.k).toNat default)else if o.kind=3 then(tDo s.t o.k (xOf s o) (yOf s o)).2 else if o.kind=4∨o.kind=6 then dB (bf s.t (aOf s o)).2 else []
def nR (s:SS) (o:IOp):List (List aj):=if o.kind=8 then s.regs.set o.k.toNat (xOf s o)else s.regs
def nE (s:SS) (o:IOp):List Ev:=if evO o then s.evs++ [⟨o.kind,o.at_,xOf s o,yOf s o,if o.kind=4∨o.kind=5 then s.regs else []⟩]else s.evs
noncomputable def stp (s:SS) (o:IOp):SS:=⟨nT s o,nR s o,s.vals++ [nV s o],if o.kind=4 then s.ld+1 else s.ld,if o.kind=6 then s.inn+1 else s.inn,nE s o⟩
noncomputable def rN (t:List Atom):Nat→List Atom×List (List aj)
 | 0=>(t,[])
 | n+1=>((bf (rN t n).1 ⟨1,n,[],[]⟩).1,(rN t n).2++ [dB (bf (rN t n).1 ⟨1,n,[],[]⟩).2])
noncomputable def s0 (t:List Atom):SS:=⟨(rN t 4).1,(rN t 4).2,[],0,0,[]⟩
noncomputable def cB (t:List Atom) (b:Blk):SS:=b.ops.foldl stp (s0 t)
def jo (b:Blk) (s:SS):Sym:=⟨s.evs,s.regs,b.fin,if b.fin=1 then []else((s.vals).getD (b.x).toNat default),if 3≤b.fin then((s.vals).getD (b.y).toNat default)else [],b.k⟩
def aac:Sym:=⟨[],[],0,[],[],0⟩
noncomputable def symEnd (s:Sym) (behind:Int):Sym:=
 if bp (aO s.x∧aO s.y)=false then aac
 else if s.fin=2∧(dL s.x).2=true then⟨s.events,s.regs,1,[],[],(dL s.x).1⟩
 else if s.fin≠3∧s.fin≠4 then s
 else if s.x=s.y∨(dL s.x).2=true∧(dL s.y).2=true then
  ⟨s.events,s.regs,1,[],[],if s.x=s.y∧s.fin=3∨((dL s.x).2=true∧(dL s.y).2=true)∧(s.fin=3∧(dL s.x).1=(dL s.y).1∨s.fin=4∧(dL s.x).1< (dL s.y).1)then s.k else behind⟩
 else if s.fin=3∧0<dP s.x s.y then⟨s.events,s.regs,s.fin,s.y,s.x,s.k⟩else s
noncomputable def bC (t:List Atom) (b:Blk):List Atom×Sym:=if bp (aG t∧t.length≤100∧dz b)=true then((cB t b).t,symEnd (jo b (cB t b)) (b.pc+b.len))else([],aac)
theorem nL (t:List Atom) (a:Atom):t<+:(bf t a).1:=by
 unfold bf
 split
 ·exact List.prefix_refl _
 ·split
  ·exact List.prefix_refl _
  ·exact List.prefix_append _ _
theorem jd {α:Type} {a b:List α} (h:a<+:b):a.length≤b.length:=h.length_le
theorem aad {α:Type} {d:α} {a b:List α} (h:a<+:b) {i:Int} (h1:i.toNat<a.length):b.getD i.toNat d=a.getD i.toNat d:=by
 obtain⟨c,rfl⟩:=h
 rw [getD_lt h1,getD_lt (by rw [List.length_append];omega),List.getElem_append_left h1]
theorem rJ {t:List Atom} {a:Atom} (h:0≤(bf t a).2):(bf t a).2< (bf t a).1.length∧(((bf t a).1).getD ((bf t a).2).toNat default)=a:=by
 have hsp:=kQ t a
 revert h
 unfold bf
 split
 ·intro h
  rcases hsp with⟨h1,_⟩ | ⟨_,h2,h3,_⟩
  ·exact absurd h (by dsimp only;omega)
  ·exact⟨h2,h3.symm⟩
 ·split
  ·intro h;exact absurd h (by dsimp only;omega)
  ·intro _
   dsimp only
   refine⟨by rw [List.length_append];simp only [List.length_cons,List.length_nil];omega,?_⟩
   rw [getD_lt (by rw [List.length_append];simp only [List.length_cons,List.length_nil];omega)]
   simp
theorem Sb {u:List Atom} {a:Atom} (hu:aG u) {k:Int} (h0:0≤k) (h1:k<u.length) (h2:((u).getD (k).toNat default)=a):bf u a=(u,k):=by
 have hf:sD u a=k:=by
  refine(kQ u a).uniq (Or.inr ⟨h0,h1,h2.symm,fun j j1 j2=> ?_⟩)
  have:=(jI.1 hu).1 k h0 h1
  have g:=this.2 j j1 j2
  dsimp only at g ⊢
  rw [h2]at g;exact g
 unfold bf
 rw [hf,if_pos h0]
theorem zF {t u:List Atom} {a:Atom} (hu:aG u) (h:0≤(bf t a).2) (hp:(bf t a).1<+:u):bf u a=(u,(bf t a).2):=by
 obtain⟨g1,g2⟩:=rJ h
 have:=jd hp
 exact Sb hu h (by omega) (by rw [aad hp (by omega),g2])
theorem OC {op n:Int} {x y:List aj} (ux:bg x n) (uy:bg y n):bg (fQ op x y).1 n:=by
 unfold fQ
 split
 ·exact Hw ux uy
 ·split
  ·refine Hw ux ?_
   unfold iM
   split
   ·exact Hy uy (uU _ _)
   ·exact iR _
  ·split
   ·exact Hy ux uy
   ·unfold Cy
    repeat' split
    all_goals first | exact ux | exact uy | exact iR _ | exact uU _ _
structure aie (t:List Atom) (op:Int) (x y:List aj):Prop where
 tok:aG (tDo t op x y).1
 pre:t<+:(tDo t op x y).1
 len:(tDo t op x y).1.length≤t.length+1
 pok:aO (tDo t op x y).2
 und:bg (tDo t op x y).2 (tDo t op x y).1.length
 ok:tOk t op x y=true
theorem acB {t:List Atom} {op:Int} {x y:List aj} (h:aG t) (h2:t.length<200) (h3:1≤op∧op≤5) (hx:aO x) (hy:aO y) (ux:bg x t.length) (uy:bg y t.length):aie t op x y:=by
 by_cases c:(fQ op x y).2=true
 ·have e:tDo t op x y=(t,(fQ op x y).1):=by unfold tDo;rw [if_pos c]
  refine⟨?_,?_,?_,?_,?_,by unfold tOk;rw [c];rfl⟩<;>rw [e]
  ·exact h
  ·exact List.prefix_refl _
  ·exact Nat.le_succ _
  ·exact Z9 h3 hx hy
  ·exact OC ux uy
 ·have key:∀x' y',aO x'→aO y'→bg x' t.length→bg y' t.length→0≤(bf t ⟨4,op,x',y'⟩).2∧aG (bf t ⟨4,op,x',y'⟩).1∧(bf t ⟨4,op,x',y'⟩).1.length≤t.length+1:=fun x' y' a1 a2 a3 a4=>by
   have p1:=zB (a:=⟨4,op,x',y'⟩) h h2
   have q1:=p1.2.2.2 (by unfold gV;rw [if_pos rfl];exact⟨h3,a1,a2,a3,a4⟩)
   exact⟨q1,p1.1,p1.2.2.1⟩
  by_cases c2:op≠2∧0<dP x y
  ·obtain⟨k1,k2,k3⟩:=key y x hy hx uy ux
   have e:tDo t op x y=((bf t ⟨4,op,y,x⟩).1,dB (bf t ⟨4,op,y,x⟩).2):=by unfold tDo;rw [if_neg c,if_pos c2,if_neg (by omega)]
   refine⟨?_,?_,?_,?_,?_,by unfold tOk;rw [if_pos c2,decide_eq_false (by omega),Bool.not_false,Bool.or_true]⟩<;>rw [e]
   ·exact k2
   ·exact nL _ _
   ·exact k3
   ·exact kR _
   ·exact rH (rJ k1).1
  ·obtain⟨k1,k2,k3⟩:=key x y hx hy ux uy
   have e:tDo t op x y=((bf t ⟨4,op,x,y⟩).1,dB (bf t ⟨4,op,x,y⟩).2):=by unfold tDo;rw [if_neg c,if_neg c2,if_neg (by omega)]
   refine⟨?_,?_,?_,?_,?_,by unfold tOk;rw [if_neg c2,decide_eq_false (by omega),Bool.not_false,Bool.or_true]⟩<;>rw [e]
   ·exact k2
   ·exact nL _ _
   ·exact k3
   ·exact kR _
   ·exact rH (rJ k1).1
theorem aae {t u:List Atom} {op:Int} {x y:List aj} (hu:aG u) (h:tOk t op x y=true) (hp:(tDo t op x y).1<+:u):tDo u op x y=(u,(tDo t op x y).2):=by
 by_cases c:(fQ op x y).2=true
 ·unfold tDo;rw [if_pos c,if_pos c]
 ·by_cases c2:op≠2∧0<dP x y
  ·have k1:0≤(bf t ⟨4,op,y,x⟩).2:=by
    unfold tOk at h;rw [if_pos c2,Bool.or_eq_true,Bool.not_eq_true',decide_eq_false_iff_not]at h;have:=h.resolve_left c;omega
   have e:tDo t op x y=((bf t ⟨4,op,y,x⟩).1,dB (bf t ⟨4,op,y,x⟩).2):=by unfold tDo;rw [if_neg c,if_pos c2,if_neg (by omega)]
   rw [e]at hp ⊢
   have:=zF hu k1 hp
   unfold tDo;rw [if_neg c,if_pos c2,this,if_neg (by dsimp only;omega)]
  ·have k1:0≤(bf t ⟨4,op,x,y⟩).2:=by
    unfold tOk at h;rw [if_neg c2,Bool.or_eq_true,Bool.not_eq_true',decide_eq_false_iff_not]at h;have:=h.resolve_left c;omega
   have e:tDo t op x y=((bf t ⟨4,op,x,y⟩).1,dB (bf t ⟨4,op,x,y⟩).2):=by unfold tDo;rw [if_neg c,if_neg c2,if_neg (by omega)]
   rw [e]at hp ⊢
   have:=zF hu k1 hp
   unfold tDo;rw [if_neg c,if_neg c2,this,if_neg (by dsimp only;omega)]
end Go.TX.F
namespace Go.TX.F
open Go Go.AE Go.TX
structure SI (n:Int) (i:Nat) (s:SS):Prop where
 tok:aG s.t
 tl:(s.t.length:Int)≤n+i
 r4:s.regs.length=4
 rok:∀p∈s.regs,aO p∧bg p s.t.length
 vl:s.vals.length=i
 vok:∀p∈s.vals,aO p∧bg p s.t.length
 ld:0≤s.ld∧s.ld≤i
 inn:0≤s.inn∧s.inn≤i
theorem AX {l:List (List aj)} {n:Int} (h:∀p∈l,aO p∧bg p n) (i:Int):aO ((l).getD (i).toNat default)∧bg ((l).getD (i).toNat default) n:=by
 by_cases c:i.toNat<l.length
 ·rw [getD_lt c];exact h _ (List.getElem_mem _)
 ·rw [List.getD_eq_getElem?_getD,List.getElem?_eq_none (by omega)];exact⟨bR,iR _⟩
theorem SI.x {n:Int} {i:Nat} {s:SS} (h:SI n i s) (o:IOp):aO (xOf s o)∧bg (xOf s o) s.t.length:=by
 unfold xOf;split
 ·exact AX h.vok _
 ·exact⟨bR,iR _⟩
theorem SI.y {n:Int} {i:Nat} {s:SS} (h:SI n i s) (o:IOp):aO (yOf s o)∧bg (yOf s o) s.t.length:=by
 unfold yOf;split
 ·exact AX h.vok _
 ·exact⟨bR,iR _⟩
theorem U3 {n:Int} {i:Nat} {s:SS} (h:SI n i s) (hi:i<200) (o:IOp) (m:Int):gV (aOf s o) m:=by
 have h1:=h.ld
 have h2:=h.inn
 unfold aOf
 split
 ·unfold gV;rw [if_neg (by simp)];exact⟨⟨rfl,rfl⟩,Or.inr ⟨Or.inl rfl,by dsimp only;omega,by dsimp only;omega⟩⟩
 ·unfold gV;rw [if_neg (by simp)];exact⟨⟨rfl,rfl⟩,Or.inr ⟨Or.inr rfl,by dsimp only;omega,by dsimp only;omega⟩⟩
structure SOK (s:SS) (o:IOp):Prop where
 pre:s.t<+:(stp s o).t
 d:o.kind=3→aie s.t o.k (xOf s o) (yOf s o)
 p:o.kind=4∨o.kind=6→0≤(bf s.t (aOf s o)).2
theorem yD {n:Int} {i:Nat} {s:SS} {o:IOp} (h:SI n i s) (hk:o.kind=3→1≤o.k∧o.k≤5) (hn:n+i<200) (hi:i<200):SI n (i+1) (stp s o)∧SOK s o:=by
 have hl:=h.tl
 have tl:s.t.length<200:=by omega
 have hd:o.kind=3→aie s.t o.k (xOf s o) (yOf s o):=fun e=>acB h.tok tl (hk e) (h.x o).1 (h.y o).1 (h.x o).2 (h.y o).2
 have hput:=zB (a:=aOf s o) h.tok tl
 have hp:=hput.2.2.2 (U3 h hi o _)
 have T:aG (nT s o)∧(nT s o).length≤s.t.length+1∧s.t<+:nT s o:=by
  unfold nT
  split
  ·rename_i e;have:=hd e;exact⟨this.tok,this.len,this.pre⟩
  ·split
   ·exact⟨hput.1,hput.2.2.1,nL _ _⟩
   ·exact⟨h.tok,Nat.le_succ _,List.prefix_refl _⟩
 have up:∀ {p:List aj},aO p∧bg p s.t.length→aO p∧bg p (nT s o).length:=fun hp=>⟨hp.1,Jw hp.2 (by have:=jd T.2.2;omega)⟩
 have V:aO (nV s o)∧bg (nV s o) (nT s o).length:=by
  unfold nV
  split
  ·exact⟨bW _,uU _ _⟩
  ·split
   ·exact up (AX h.rok _)
   ·split
    ·rename_i e
     have:=hd e
     refine⟨this.pok,?_⟩
     have e2:nT s o=(tDo s.t o.k (xOf s o) (yOf s o)).1:=by unfold nT;rw [if_pos e]
     rw [e2];exact this.und
    ·split
     ·rename_i e1 e2
      have e3:nT s o=(bf s.t (aOf s o)).1:=by unfold nT;rw [if_neg (by omega),if_pos e2]
      rw [e3]
      exact⟨kR _,rH (rJ hp).1⟩
     ·exact⟨bR,iR _⟩
 have g1:=h.ld
 have g2:=h.inn
 refine⟨⟨T.1,?_,?_,?_,?_,?_,?_,?_⟩,⟨T.2.2,hd,fun _=>hp⟩⟩
 ·have:=T.2.1;show((nT s o).length:Int)≤_;omega
 ·show(nR s o).length=4
  unfold nR;split
  ·rw [List.length_set];exact h.r4
  ·exact h.r4
 ·show∀p∈nR s o,_
  intro p hp
  unfold nR at hp;split at hp
  ·rcases List.mem_or_eq_of_mem_set hp with hp | rfl
   ·exact up (h.rok p hp)
   ·exact up (h.x o)
  ·exact up (h.rok p hp)
 ·show(s.vals++ [nV s o]).length=i+1
  rw [List.length_append,h.vl];rfl
 ·show∀p∈s.vals++ [nV s o],_
  intro p hp
  rw [List.mem_append,List.mem_singleton]at hp
  rcases hp with hp | rfl
  ·exact up (h.vok p hp)
  ·exact V
 ·show 0≤(if o.kind=4 then s.ld+1 else s.ld)∧(if o.kind=4 then s.ld+1 else s.ld)≤_
  split<;>omega
 ·show 0≤(if o.kind=6 then s.inn+1 else s.inn)∧(if o.kind=6 then s.inn+1 else s.inn)≤_
  split<;>omega
theorem yE {n:Int}:∀(ops:List IOp) (i:Nat) (s:SS),SI n i s→(∀o∈ops,o.kind=3→1≤o.k∧o.k≤5)→n+i+ops.length≤200→i+ops.length≤200→SI n (i+ops.length) (ops.foldl stp s)∧s.t<+:(ops.foldl stp s).t
 | [],i,s,h,_,_,_=>⟨h,List.prefix_refl _⟩
 | o::r,i,s,h,hk,h1,h2=>by
  rw [List.length_cons]at h1 h2
  obtain⟨a1,a2⟩:=yD h (hk o List.mem_cons_self) (by omega) (by omega)
  obtain⟨b1,b2⟩:=yE r (i+1) (stp s o) a1 (fun o ho=>hk o (List.mem_cons_of_mem _ ho)) (by omega) (by omega)
  rw [List.foldl_cons,List.length_cons,show i+(r.length+1)=i+1+r.length by omega]
  exact⟨b1,a2.pre.trans b2⟩
structure RI (t:List Atom) (n:Nat) (r:List Atom×List (List aj)):Prop where
 tok:aG r.1
 tl:r.1.length≤t.length+n
 pre:t<+:r.1
 r4:r.2.length=n
 rok:∀p∈r.2,aO p∧bg p r.1.length
theorem Ca {t:List Atom} (h:aG t) (hl:t.length≤196):∀n:Nat,n≤4→RI t n (rN t n)
 | 0,_=>⟨h,Nat.le_refl _,List.prefix_refl _,rfl,fun p hp=>absurd hp (by simp [rN])⟩
 | n+1,hn=>by
  have ih:=Ca h hl n (by omega)
  have l:=ih.tl
  have hp:=zB (a:=⟨1,n,[],[]⟩) ih.tok (by omega)
  have h0:=hp.2.2.2 (by unfold gV;rw [if_neg (by simp)];exact⟨⟨rfl,rfl⟩,Or.inl ⟨rfl,by dsimp only;omega,by dsimp only;omega⟩⟩)
  have pr:=nL (rN t n).1 ⟨1,n,[],[]⟩
  unfold rN
  refine⟨hp.1,?_,ih.pre.trans pr,?_,fun p h=> ?_⟩
  ·have:=hp.2.2.1;dsimp only;omega
  ·dsimp only;rw [List.length_append,ih.r4];rfl
  ·dsimp only at h ⊢
   rw [List.mem_append,List.mem_singleton]at h
   rcases h with h | rfl
   ·have:=ih.rok p h;exact⟨this.1,Jw this.2 (by have:=jd pr;omega)⟩
   ·exact⟨kR _,rH (rJ h0).1⟩
theorem HZ {t:List Atom} (h:aG t) (hl:t.length≤196) {n:Nat} (hn:n<4):0≤(bf (rN t n).1 ⟨1,n,[],[]⟩).2:=by
 have ih:=Ca h hl n (by omega)
 have l:=ih.tl
 exact(zB (a:=⟨1,n,[],[]⟩) ih.tok (by omega)).2.2.2 (by unfold gV;rw [if_neg (by simp)];exact⟨⟨rfl,rfl⟩,Or.inl ⟨rfl,by dsimp only;omega,by dsimp only;omega⟩⟩)
theorem zG {t:List Atom} (h:aG t) (hl:t.length≤196):SI (t.length+4) 0 (s0 t):=by
 have:=Ca h hl 4 (by omega)
 have l:=this.tl
 exact⟨this.tok,by show((rN t 4).1.length:Int)≤_;omega,this.r4,this.rok,rfl,fun p hp=>absurd hp (by simp [s0]),by simp [s0],by simp [s0]⟩
theorem dz.k3 {b:Blk} (h:dz b):∀o∈b.ops,o.kind=3→1≤o.k∧o.k≤5:=fun o ho=>by
 obtain⟨i,hi,rfl⟩:=List.getElem_of_mem ho
 have:=(h.op i (by omega) (by omega)).k3
 rw [show(i:Int).toNat=i from rfl,getD_lt hi]at this
 exact this
theorem rM {t:List Atom} {b:Blk} (h:aG t) (hl:t.length≤100) (hb:dz b):SI (t.length+4) b.ops.length (cB t b)∧t<+:(cB t b).t:=by
 have sz:=hb.sz
 obtain⟨h1,h2⟩:=yE b.ops 0 (s0 t) (zG h (by omega)) hb.k3 (by omega) (by omega)
 rw [Nat.zero_add]at h1
 exact⟨h1,(Ca h (by omega) 4 (by omega)).pre.trans h2⟩
def SS.on (s:SS) (u:List Atom):SS:=⟨u,s.regs,s.vals,s.ld,s.inn,s.evs⟩
theorem aif {s:SS} {o:IOp} {u:List Atom} (hu:aG u) (h:SOK s o) (hp:(stp s o).t<+:u):stp (s.on u) o=(stp s o).on u:=by
 have hp:nT s o<+:u:=hp
 have ex:xOf (s.on u) o=xOf s o:=rfl
 have ey:yOf (s.on u) o=yOf s o:=rfl
 have ea:aOf (s.on u) o=aOf s o:=rfl
 have eT:nT (s.on u) o=u:=by
  unfold nT
  split
  ·rename_i e
   rw [ex,ey]
   have h3:=(h.d e).ok
   unfold nT at hp;rw [if_pos e]at hp
   rw [show(s.on u).t=u from rfl,aae hu h3 hp]
  ·split
   ·rename_i e1 e2
    unfold nT at hp;rw [if_neg e1,if_pos e2]at hp
    rw [ea,show(s.on u).t=u from rfl,zF hu (h.p e2) hp]
   ·rfl
 have eV:nV (s.on u) o=nV s o:=by
  unfold nV
  split
  ·rfl
  ·split
   ·rfl
   ·split
    ·rename_i e
     rw [ex,ey]
     have h3:=(h.d e).ok
     unfold nT at hp;rw [if_pos e]at hp
     rw [show(s.on u).t=u from rfl,aae hu h3 hp]
    ·split
     ·rename_i e1 e2
      unfold nT at hp;rw [if_neg e1,if_pos e2]at hp
      rw [ea,show(s.on u).t=u from rfl,zF hu (h.p e2) hp]
     ·rfl
 show SS.mk (nT (s.on u) o) (nR (s.on u) o) ((s.on u).vals++ [nV (s.on u) o]) _ _ (nE (s.on u) o)=SS.mk u (nR s o) (s.vals++ [nV s o]) _ _ (nE s o)
 rw [eT,eV];rfl
theorem aaf {n:Int} {u:List Atom} (hu:aG u):∀(ops:List IOp) (i:Nat) (s:SS),SI n i s→(∀o∈ops,o.kind=3→1≤o.k∧o.k≤5)→n+i+ops.length≤200→i+ops.length≤200→(ops.foldl stp s).t<+:u→ops.foldl stp (s.on u)=(ops.foldl stp s).on u
 | [],i,s,h,_,_,_,_=>rfl
 | o::r,i,s,h,hk,h1,h2,hp=>by
  rw [List.length_cons]at h1 h2
  obtain⟨a1,a2⟩:=yD h (hk o List.mem_cons_self) (by omega) (by omega)
  rw [List.foldl_cons]at hp
  obtain⟨_,b2⟩:=yE r (i+1) (stp s o) a1 (fun o ho=>hk o (List.mem_cons_of_mem _ ho)) (by omega) (by omega)
  rw [List.foldl_cons,List.foldl_cons,aif hu a2 (b2.trans hp)]
  exact aaf hu r (i+1) (stp s o) a1 (fun o ho=>hk o (List.mem_cons_of_mem _ ho)) (by omega) (by omega) hp
theorem aag {t u:List Atom} (h:aG t) (hl:t.length≤196) (hu:aG u):∀n:Nat,n≤4→(rN t n).1<+:u→rN u n=(u,(rN t n).2)
 | 0,_,_=>rfl
 | n+1,hn,hp=>by
  have h0:=HZ h hl (n:=n) (by omega)
  have pr:=nL (rN t n).1 ⟨1,n,[],[]⟩
  have hp':(bf (rN t n).1 ⟨1,n,[],[]⟩).1<+:u:=hp
  have ih:=aag h hl hu n (by omega) (pr.trans hp')
  show((bf (rN u n).1 ⟨1,n,[],[]⟩).1,(rN u n).2++ [dB (bf (rN u n).1 ⟨1,n,[],[]⟩).2])=(u,(rN t n).2++ [dB (bf (rN t n).1 ⟨1,n,[],[]⟩).2])
  rw [ih]
  dsimp only
  rw [zF hu h0 hp']
theorem KH {t u:List Atom} {b:Blk} (h:aG t) (hl:t.length≤100) (hb:dz b) (hu:aG u) (hp:(cB t b).t<+:u):cB u b=(cB t b).on u:=by
 have sz:=hb.sz
 have i0:=zG h (by omega)
 obtain⟨_,h2⟩:=yE b.ops 0 (s0 t) i0 hb.k3 (by omega) (by omega)
 have e:s0 u=(s0 t).on u:=by
  unfold s0 SS.on
  rw [aag h (by omega) hu 4 (by omega) (h2.trans hp)]
 unfold cB at hp ⊢
 rw [e]
 exact aaf hu b.ops 0 (s0 t) i0 hb.k3 (by omega) (by omega) hp
theorem U4 (b:Blk) (s:SS) (u:List Atom):jo b (s.on u)=jo b s:=rfl
theorem jq {t:List Atom} {b:Blk} (h:aG t) (hl:t.length≤100) (hb:dz b):bC t b=((cB t b).t,symEnd (jo b (cB t b)) (b.pc+b.len)):=by
 unfold bC;rw [if_pos (bN ⟨h,hl,hb⟩)]
theorem Wv {t u:List Atom} {b:Blk} (h:aG t) (hl:t.length≤100) (hb:dz b) (hu:aG u) (hlu:u.length≤100) (hp:(bC t b).1<+:u):bC u b=(u,(bC t b).2):=by
 rw [jq h hl hb]at hp ⊢
 rw [jq hu hlu hb,KH h hl hb hu hp]
 rfl
theorem Jz {t:List Atom} {b:Blk} (h:aG t) (hl:t.length≤100) (hb:dz b):aG (bC t b).1∧t<+:(bC t b).1∧(bC t b).1.length≤t.length+b.ops.length+4:=by
 unfold bC
 rw [if_pos (bN ⟨h,hl,hb⟩)]
 obtain⟨h1,h2⟩:=rM h hl hb
 have:=h1.tl
 exact⟨h1.tok,h2,by dsimp only;omega⟩
end Go.TX.F
namespace Go.TX.F
open Go Go.AE Go.TX
def ShP (l:List (List aj)):Prop:=l.length<1000000000∧∀p∈l,Sh p
def ShE (e:Ev):Prop:=Sh e.x∧Sh e.y∧ShP e.regs
def Ww (l:List Ev):Prop:=l.length<1000000000∧∀e∈l,ShE e
structure ShY (s:Sym):Prop where
 e:Ww s.events
 r:ShP s.regs
 x:Sh s.x
 y:Sh s.y
theorem ShP.at {l:List (List aj)} (h:ShP l) (n:Nat):Sh (l.getD n default):=by
 by_cases c:n<l.length
 ·rw [getD_lt c];exact h.2 _ (List.getElem_mem _)
 ·rw [List.getD_eq_getElem?_getD,List.getElem?_eq_none (by omega)];exact nJ
theorem KJ:ShP []:=⟨by simp,fun p h=>absurd h (by simp)⟩
theorem Ww.at {l:List Ev} (h:Ww l) (n:Nat):ShE (l.getD n default):=by
 by_cases c:n<l.length
 ·rw [getD_lt c];exact h.2 _ (List.getElem_mem _)
 ·rw [List.getD_eq_getElem?_getD,List.getElem?_eq_none (by omega)];exact⟨nJ,nJ,KJ⟩
theorem acC:ShY aac:=⟨⟨by simp [aac],fun e h=>absurd h (by simp [aac])⟩,KJ,nJ,nJ⟩
theorem SI.regs {n:Int} {i:Nat} {s:SS} (h:SI n i s):ShP s.regs:=⟨by have:=h.r4;omega,fun p hp=>(h.rok p hp).1.sh⟩
theorem acD {n:Int} {i:Nat} {s:SS} {o:IOp} (h:SI n i s) (h2:s.evs.length≤i∧∀e∈s.evs,ShE e):(stp s o).evs.length≤i+1∧∀e∈(stp s o).evs,ShE e:=by
 show(nE s o).length≤i+1∧∀e∈nE s o,ShE e
 unfold nE
 split
 ·refine⟨by rw [List.length_append];have:=h2.1;simp only [List.length_cons,List.length_nil];omega,fun e he=> ?_⟩
  rw [List.mem_append,List.mem_singleton]at he
  rcases he with he | rfl
  ·exact h2.2 e he
  ·refine⟨(h.x o).1.sh,(h.y o).1.sh,?_⟩
   dsimp only
   split
   ·exact h.regs
   ·exact KJ
 ·exact⟨by have:=h2.1;omega,h2.2⟩
theorem Sc {n:Int}:∀(ops:List IOp) (i:Nat) (s:SS),SI n i s→(∀o∈ops,o.kind=3→1≤o.k∧o.k≤5)→n+i+ops.length≤200→i+ops.length≤200→(s.evs.length≤i∧∀e∈s.evs,ShE e)→(ops.foldl stp s).evs.length≤i+ops.length∧∀e∈(ops.foldl stp s).evs,ShE e
 | [],i,s,h,_,_,_,h3=>h3
 | o::r,i,s,h,hk,h1,h2,h3=>by
  rw [List.length_cons]at h1 h2
  obtain⟨a1,a2⟩:=yD h (hk o List.mem_cons_self) (by omega) (by omega)
  have:=Sc r (i+1) (stp s o) a1 (fun o ho=>hk o (List.mem_cons_of_mem _ ho)) (by omega) (by omega) (acD h h3)
  rw [List.foldl_cons,List.length_cons,show i+(r.length+1)=i+1+r.length by omega]
  exact this
def evT (e:Ev):Int×Int×Nat:=(e.kind,e.at_,e.regs.length)
def opT (o:IOp):Int×Int×Nat:=(o.kind,o.at_,if o.kind=4∨o.kind=5 then 4 else 0)
def kg (ops:List IOp):List IOp:=ops.filter fun o=>decide (evO o)
theorem U5:∀(ops:List IOp) (s:SS),s.regs.length=4→(ops.foldl stp s).evs.map evT=s.evs.map evT++(kg ops).map opT
 | [],s,_=>by simp [kg]
 | o::r,s,h=>by
  have h':(stp s o).regs.length=4:=by
   show(nR s o).length=4
   unfold nR;split
   ·rw [List.length_set];exact h
   ·exact h
  rw [List.foldl_cons,U5 r (stp s o) h']
  show(nE s o).map evT++_=_
  unfold nE kg
  by_cases c:evO o
  ·have e:evT ⟨o.kind,o.at_,xOf s o,yOf s o,if o.kind=4∨o.kind=5 then s.regs else []⟩=opT o:=by
    unfold evT opT
    dsimp only
    split
    ·rw [h]
    ·rfl
   rw [if_pos c,List.filter_cons_of_pos (by simpa using c),List.map_append,List.append_assoc]
   refine congrArg (s.evs.map evT++ ·) ?_
   show evT _::_=opT o::_
   rw [e];rfl
  ·rw [if_neg c,List.filter_cons_of_neg (by simpa using c)]
theorem KL {n:Int} {i:Nat} {s:SS} {b:Blk} (h:SI n i s):aO (jo b s).x∧aO (jo b s).y:=by
 unfold jo
 dsimp only
 constructor
 ·split
  ·exact bR
  ·exact(AX h.vok _).1
 ·split
  ·exact(AX h.vok _).1
  ·exact bR
theorem KM {s:Sym} {n:Int} (h:aO s.x∧aO s.y):(symEnd s n).events=s.events∧(symEnd s n).regs=s.regs∧aO (symEnd s n).x∧aO (symEnd s n).y:=by
 unfold symEnd
 rw [if_neg (by rw [bN h];simp)]
 repeat' split
 all_goals first | exact⟨rfl,rfl,h⟩ | exact⟨rfl,rfl,bR,bR⟩ | exact⟨rfl,rfl,h.2,h.1⟩
structure aoz (t:List Atom) (b:Blk):Prop where
 evs:(bC t b).2.events.map evT=(kg b.ops).map opT
 r4:(bC t b).2.regs.length=4
 sh:ShY (bC t b).2
 ne:0< (bC t b).1.length
theorem uV {t:List Atom} {b:Blk} (h:aG t) (hl:t.length≤100) (hb:dz b):aoz t b:=by
 have sz:=hb.sz
 have i0:=zG h (by omega)
 obtain⟨h1,h2⟩:=rM h hl hb
 have hs:=Sc b.ops 0 (s0 t) i0 hb.k3 (by omega) (by omega) ⟨by simp [s0],fun e he=>absurd he (by simp [s0])⟩
 have he:=U5 b.ops (s0 t) i0.r4
 have hk:=KM (n:=b.pc+b.len) (KL (b:=b) h1)
 have e:bC t b=((cB t b).t,symEnd (jo b (cB t b)) (b.pc+b.len)):=by unfold bC;rw [if_pos (bN ⟨h,hl,hb⟩)]
 rw [Nat.zero_add]at hs
 refine⟨?_,?_,?_,?_⟩
 ·rw [e];dsimp only;rw [hk.1];show(cB t b).evs.map evT=_;unfold cB;rw [he];rfl
 ·rw [e];dsimp only;rw [hk.2.1];exact h1.r4
 ·rw [e]
  refine⟨?_,?_,hk.2.2.1.sh,hk.2.2.2.sh⟩
  ·rw [hk.1];exact⟨by have:=hs.1;show(b.ops.foldl stp (s0 t)).evs.length<_;omega,hs.2⟩
  ·rw [hk.2.1];exact h1.regs
 ·rw [e]
  have r:=yE b.ops 0 (s0 t) i0 hb.k3 (by omega) (by omega)
  have:=jd r.2
  have p:=rJ (HZ h (by omega) (n:=3) (by omega))
  have p0:=HZ h (by omega) (n:=3) (by omega)
  show 0< (cB t b).t.length
  have:(s0 t).t.length=(bf (rN t 3).1 ⟨1,(3:Nat),[],[]⟩).1.length:=rfl
  unfold cB
  omega
theorem KN (t:List Atom) (b:Blk):ShY (bC t b).2∧ShT (bC t b).1:=by
 by_cases c:aG t∧t.length≤100∧dz b
 ·exact⟨(uV c.1 c.2.1 c.2.2).sh,(Jz c.1 c.2.1 c.2.2).1.sh⟩
 ·unfold bC;rw [gU c,if_neg (by simp)];exact⟨acC,acy⟩
noncomputable def t4:List Atom:=(rN [] 4).1
theorem mK:aG []:=jI.2 ⟨All.zero,by simp⟩
theorem OD:aG t4∧t4.length≤4:=by
 have:=Ca mK (by simp) 4 (by omega)
 exact⟨this.tok,Nat.le_trans this.tl (by simp)⟩
noncomputable def chk (b c:Blk):Bool:=bp (dz b∧dz c∧b.pc=c.pc∧b.len=c.len∧(b=c∨(bC t4 b).2=(bC (bC t4 b).1 c).2))
structure Lk (b c:Blk):Prop where
 ob:dz b
 oc:dz c
 pc:b.pc=c.pc
 len:b.len=c.len
 run:∀u,aG u→u.length≤100→(bC u b).1=u→bC u c=bC u b
theorem Lk.refl {b:Blk} (h:dz b):Lk b b:=⟨h,h,rfl,rfl,fun _ _ _ _=>rfl⟩
theorem Lk.trans {b c d:Blk} (h:Lk b c) (g:Lk c d):Lk b d:=⟨h.ob,g.oc,h.pc.trans g.pc,h.len.trans g.len,fun u h1 h2 h3=>by
 have e:=h.run u h1 h2 h3
 rw [g.run u h1 h2 (by rw [e];exact h3),e]⟩
theorem U6 {b:Blk} (hb:dz b):aG (bC t4 b).1∧(bC t4 b).1.length≤100∧bC (bC t4 b).1 b=bC t4 b:=by
 have h4:=OD
 have hr:=Jz h4.1 (by omega) hb
 have sz:=hb.sz
 refine⟨hr.1,by omega,?_⟩
 have:=Wv h4.1 (by omega) hb hr.1 (by omega) (List.prefix_refl _)
 rw [this]
theorem Lk.chk {b c:Blk} (h:Lk b c):chk b c=true:=by
 obtain⟨h1,h2,h3⟩:=U6 h.ob
 refine bN ⟨h.ob,h.oc,h.pc,h.len,Or.inr ?_⟩
 rw [h.run _ h1 h2 (by rw [h3]),h3]
theorem acE {b c:Blk} (h:chk b c=true):(kg b.ops).map opT=(kg c.ops).map opT:=by
 obtain⟨h1,h2,_,_,h3⟩:=bQ.1 h
 rcases h3 with h3 | h3
 ·rw [h3]
 ·have h4:=OD
  obtain⟨g1,g2,_⟩:=U6 h1
  rw [←(uV h4.1 (by omega) h1).evs,h3,(uV g1 g2 h2).evs]
end Go.TX.F
namespace Go.TX.F
open Go Go.AE Go.TX
def acF:Blk:=⟨0,0,[],0,0,0,0⟩
theorem iT {α:Type} {d x:α} {l:List α} {i:Nat}:(l++ [x]).getD i d=if i<l.length then l.getD i d else if i=l.length then x else d:=by
 split
 ·rename_i h;rw [getD_lt (by rw [List.length_append];omega),getD_lt h,List.getElem_append_left]
 ·split
  ·rename_i h1 h2;subst h2;rw [getD_lt (by simp)];simp
  ·rw [List.getD_eq_getElem?_getD,List.getElem?_eq_none (by rw [List.length_append];simp only [List.length_cons,List.length_nil];omega)];rfl
theorem nM (f:SS→IOp→SS) (s:SS) {l:List IOp} {i:Nat} (h:i<l.length):(l.take (i+1)).foldl f s=f ((l.take i).foldl f s) l[i]:=by
 rw [List.take_succ_eq_append_getElem h,List.foldl_append];rfl
theorem AY:∀(l:List IOp) (s:SS),(l.foldl stp s).vals.length=s.vals.length+l.length
 | [],_=>rfl
 | o::r,s=>by
  rw [List.foldl_cons,AY r,List.length_cons]
  show(s.vals++ [nV s o]).length+_=_
  rw [List.length_append];simp only [List.length_cons,List.length_nil];omega
def ren (nm:List Int) (o:IOp):IOp:=⟨o.kind,if hX o then((nm).getD (o.x).toNat default)else o.x,if hY o then((nm).getD (o.y).toNat default)else o.y,o.k,o.at_⟩
def Sd (nm:List Int) (b:Blk) (ops:List IOp):Blk:=⟨b.pc,b.len,ops.map (ren nm),b.fin,if b.fin=1 then b.x else((nm).getD (b.x).toNat default),if 3≤b.fin then((nm).getD (b.y).toNat default)else b.y,b.k⟩
def cpN (s:List Int×List Int) (i:Int) (o:IOp):Int:=if o.kind=2∧0≤((s.2).getD (o.k).toNat default)then((s.2).getD (o.k).toNat default)else i
def cpL (s:List Int×List Int) (i:Int) (o:IOp):List Int:=if o.kind=2 then(if 0≤((s.2).getD (o.k).toNat default)then s.2 else s.2.set o.k.toNat i)else if o.kind=8 then s.2.set o.k.toNat ((s.1).getD (o.x).toNat default)else s.2
def cpS (ops:List IOp):Nat→List Int×List Int
 | 0=>([],[-1, -1, -1, -1])
 | i+1=>((cpS ops i).1++ [cpN (cpS ops i) i (ops.getD i default)],cpL (cpS ops i) i (ops.getD i default))
noncomputable def dx (b:Blk):Blk:=if bp (dz b)=true then Sd (cpS b.ops b.ops.length).1 b b.ops else acF
theorem zH (ops:List IOp):∀i,(cpS ops i).1.length=i∧(cpS ops i).2.length=4
 | 0=>⟨rfl,rfl⟩
 | i+1=>by
  obtain⟨h1,h2⟩:=zH ops i
  constructor
  ·show((cpS ops i).1++ [_]).length=_
   rw [List.length_append,h1];rfl
  ·show(cpL (cpS ops i) i (ops.getD i default)).length=4
   unfold cpL
   repeat' split
   all_goals first | exact h2 | (rw [List.length_set];exact h2)
theorem Sg (ops:List IOp):∀ {i n:Nat} {j:Nat},j<i→i≤n→(cpS ops n).1.getD j default=(cpS ops i).1.getD j default:=by
  intro i n j h1 h2
  induction n with
  | zero => have : i = 0 := by omega
            subst this;rfl
  | succ n ih=>
    by_cases c:i=n+1
    · subst c;rfl
    · have:=ih (by omega)
      rw [←this]
      show((cpS ops n).1++ [_]).getD j default=_
      rw [iT,if_pos (by rw [(zH ops n).1];omega)]
structure CI (ops:List IOp) (i:Nat) (s:SS):Prop where
 nm:∀j:Int,0≤j→j<i→(0≤(((cpS ops i).1).getD (j).toNat default)∧(((cpS ops i).1).getD (j).toNat default)≤j)∧((s.vals).getD ((((cpS ops i).1).getD (j).toNat default)).toNat default)=((s.vals).getD (j).toNat default)∧(mkV ((ops).getD (j).toNat default)→mkV ((ops).getD ((((cpS ops i).1).getD (j).toNat default)).toNat default))
 la:∀r:Int,0≤r→r≤3→0≤(((cpS ops i).2).getD (r).toNat default)→(((cpS ops i).2).getD (r).toNat default)<i∧((s.vals).getD ((((cpS ops i).2).getD (r).toNat default)).toNat default)=((s.regs).getD (r).toNat default)∧mkV ((ops).getD ((((cpS ops i).2).getD (r).toNat default)).toNat default)
theorem KO {α:Type} {d x:α} {l:List α} {i j:Int} (h0:0≤i) (h1:0≤j) (h2:j<l.length):(l.set j.toNat x).getD i.toNat d=if i=j then x else l.getD i.toNat d:=by
 by_cases c:i<l.length
 ·rw [getD_lt (by rw [List.length_set];omega),getD_lt (by omega),List.getElem_set]
  by_cases e:i=j
  ·subst e;rw [if_pos rfl,if_pos rfl]
  ·rw [if_neg (by omega),if_neg e]
 ·rw [if_neg (by omega)]
  simp only [List.getD_eq_getElem?_getD]
  rw [List.getElem?_eq_none (by rw [List.length_set];omega),List.getElem?_eq_none (by omega)]
theorem H6 {b:Blk} (hb:dz b) (t:List Atom) (h4:(s0 t).regs.length=4):∀i:Nat,i≤b.ops.length→
  ((b.ops.map (ren (cpS b.ops b.ops.length).1)).take i).foldl stp (s0 t)=(b.ops.take i).foldl stp (s0 t)∧((b.ops.take i).foldl stp (s0 t)).regs.length=4∧CI b.ops i ((b.ops.take i).foldl stp (s0 t))
 | 0,_=>⟨rfl,h4,⟨fun j h1 h2=>absurd h2 (by omega),fun r h1 h2 h3=>by
   exfalso
   have:(((cpS b.ops 0).2).getD (r).toNat default)= -1:=by
    show((([-1, -1, -1, -1]:List Int)).getD (r).toNat default)= -1
    rcases(by omega:r=0∨r=1∨r=2∨r=3)with h | h | h | h<;>subst h<;>rfl
   omega⟩⟩
 | i+1,hi=>by
  obtain⟨ih1,ihr,ih2⟩:=H6 hb t h4 i (by omega)
  have hlt:i<b.ops.length:=hi
  have hok:=hb.op i (by omega) (by omega)
  rw [show(i:Int).toNat=i from rfl,getD_lt hlt]at hok
  have eo:b.ops.getD i default=b.ops[i]:=getD_lt hlt
  have hv:=AY (b.ops.take i) (s0 t)
  rw [List.length_take,Nat.min_eq_left (by omega),show(s0 t).vals.length=0 from rfl,Nat.zero_add]at hv
  obtain⟨cl1,cl2⟩:=zH b.ops i
  rw [nM _ _ (by rw [List.length_map];exact hlt),nM _ _ hlt,ih1,List.getElem_map]
  clear ih1
  generalize (b.ops.take i).foldl stp (s0 t)=s at ihr ih2 hv ⊢
  generalize ho:b.ops[i]=o at hok eo ⊢
  have nmx:∀j:Int,0≤j→j<i→(((cpS b.ops b.ops.length).1).getD (j).toNat default)=(((cpS b.ops i).1).getD (j).toNat default):=fun j h1 h2=>Sg b.ops (by omega) (by omega)
  have vx:∀j:Int,0≤j→j<i→((s.vals).getD ((((cpS b.ops b.ops.length).1).getD (j).toNat default)).toNat default)=((s.vals).getD (j).toNat default):=fun j h1 h2=>by rw [nmx j h1 h2];exact(ih2.nm j h1 h2).2.1
  have ex:xOf s (ren (cpS b.ops b.ops.length).1 o)=xOf s o:=by
   unfold xOf
   by_cases c:hX o
   ·rw [if_pos (show hX (ren _ o)from c),if_pos c]
    show((s.vals).getD ((if hX o then(((cpS b.ops b.ops.length).1).getD (o.x).toNat default)else o.x)).toNat default)=_
    rw [if_pos c];exact vx _ (hok.x1 c).1 (hok.x1 c).2.1
   ·rw [if_neg (show¬hX (ren _ o)from c),if_neg c]
  have ey:yOf s (ren (cpS b.ops b.ops.length).1 o)=yOf s o:=by
   unfold yOf
   by_cases c:hY o
   ·rw [if_pos (show hY (ren _ o)from c),if_pos c]
    show((s.vals).getD ((if hY o then(((cpS b.ops b.ops.length).1).getD (o.y).toNat default)else o.y)).toNat default)=_
    rw [if_pos c];exact vx _ (hok.y1 c).1 (hok.y1 c).2.1
   ·rw [if_neg (show¬hY (ren _ o)from c),if_neg c]
  have es:stp s (ren (cpS b.ops b.ops.length).1 o)=stp s o:=by
   unfold stp nT nV nR nE aOf
   rw [ex,ey];rfl
  have r4:(stp s o).regs.length=4:=by
   show(nR s o).length=4
   unfold nR;split
   ·rw [List.length_set];exact ihr
   ·exact ihr
  refine⟨es,r4,?_⟩
  have vs:∀j:Int,0≤j→j<i→(((stp s o).vals).getD (j).toNat default)=((s.vals).getD (j).toNat default):=fun j h1 h2=>by
   show(((s.vals++ [nV s o])).getD (j).toNat default)=_
   rw [iT,if_pos (by omega)]
  have vi:(((stp s o).vals).getD ((i:Int)).toNat default)=nV s o:=by
   show(((s.vals++ [nV s o])).getD ((i:Int)).toNat default)=_
   rw [iT,if_neg (by omega),if_pos (by omega)]
  have ns:∀j:Int,0≤j→j<i→(((cpS b.ops (i+1)).1).getD (j).toNat default)=(((cpS b.ops i).1).getD (j).toNat default):=fun j h1 h2=>Sg b.ops (by omega) (by omega)
  have ni:(((cpS b.ops (i+1)).1).getD ((i:Int)).toNat default)=cpN (cpS b.ops i) i o:=by
   show((((cpS b.ops i).1++ [cpN (cpS b.ops i) i (b.ops.getD i default)])).getD ((i:Int)).toNat default)=_
   rw [iT,if_neg (by omega),if_pos (by omega),eo]
  have nl:(cpS b.ops (i+1)).2=cpL (cpS b.ops i) i o:=by
   show cpL (cpS b.ops i) i (b.ops.getD i default)=_
   rw [eo]
  have eoi:((b.ops).getD ((i:Int)).toNat default)=o:=by rw [show(i:Int).toNat=i from rfl,eo]
  refine⟨fun j h1 h2=> ?_,fun r h1 h2 h3=> ?_⟩
  ·by_cases c:j<i
   ·obtain⟨⟨g1,g2⟩,g3,g4⟩:=ih2.nm j h1 c
    rw [ns j h1 c]
    exact⟨⟨g1,g2⟩,by rw [vs _ g1 (by omega),vs j h1 c];exact g3,g4⟩
   ·have:j=(i:Int):=by omega
    subst this
    rw [ni]
    unfold cpN
    by_cases c2:o.kind=2∧0≤(((cpS b.ops i).2).getD (o.k).toNat default)
    ·rw [if_pos c2]
     have hk:=hok.k2 (Or.inl c2.1)
     obtain⟨g1,g2,g3⟩:=ih2.la o.k hk.1 hk.2 c2.2
     refine⟨⟨c2.2,by omega⟩,?_,fun _=>g3⟩
     rw [vs _ c2.2 g1,vi,g2]
     unfold nV;rw [if_neg (by omega),if_pos c2.1]
    ·rw [if_neg c2]
     exact⟨⟨by omega,Int.le_refl _⟩,rfl,fun h=>h⟩
  ·rw [nl]at h3 ⊢
   unfold cpL at h3 ⊢
   have old:0≤(((cpS b.ops i).2).getD (r).toNat default)→(o.kind=8→r≠o.k)→(((cpS b.ops i).2).getD (r).toNat default)< ((i+1:Nat):Int)∧(((stp s o).vals).getD ((((cpS b.ops i).2).getD (r).toNat default)).toNat default)=(((stp s o).regs).getD (r).toNat default)∧mkV ((b.ops).getD ((((cpS b.ops i).2).getD (r).toNat default)).toNat default):=fun g0 g=>by
    obtain⟨g1,g2,g3⟩:=ih2.la r h1 h2 g0
    refine⟨by omega,?_,g3⟩
    rw [vs _ g0 g1,g2]
    show _=(((nR s o)).getD (r).toNat default)
    unfold nR
    split
    ·rename_i c8
     have hk:=hok.k2 (Or.inr c8)
     rw [KO h1 hk.1 (by omega),if_neg (g c8)]
    ·rfl
   by_cases c2:o.kind=2
   ·have hk:=hok.k2 (Or.inl c2)
    rw [if_pos c2]at h3 ⊢
    by_cases c3:0≤(((cpS b.ops i).2).getD (o.k).toNat default)
    ·rw [if_pos c3]at h3 ⊢
     exact old h3 (fun e=>absurd e (by omega))
    ·rw [if_neg c3]at h3 ⊢
     rw [KO h1 hk.1 (by omega)]at h3 ⊢
     by_cases c4:r=o.k
     ·rw [if_pos c4]at h3 ⊢
      refine⟨by omega,?_,by rw [eoi];exact Or.inl (by omega)⟩
      rw [vi]
      show nV s o=(((nR s o)).getD (r).toNat default)
      unfold nV nR
      rw [if_neg (by omega),if_pos c2,if_neg (by omega),c4]
     ·rw [if_neg c4]at h3 ⊢
      exact old h3 (fun e=>absurd e (by omega))
   ·rw [if_neg c2]at h3 ⊢
    by_cases c8:o.kind=8
    ·have hk:=hok.k2 (Or.inr c8)
     have hx:hX o:=by unfold hX;omega
     have v:=hok.x1 hx
     obtain⟨⟨g1,g2⟩,g3,g4⟩:=ih2.nm o.x v.1 v.2.1
     rw [if_pos c8]at h3 ⊢
     rw [KO h1 hk.1 (by omega)]at h3 ⊢
     by_cases c4:r=o.k
     ·rw [if_pos c4]at h3 ⊢
      have v1:=v.2.1
      refine⟨by omega,?_,g4 v.2.2⟩
      rw [vs _ g1 (by omega),g3]
      show _=(((nR s o)).getD (r).toNat default)
      unfold nR
      rw [if_pos c8,KO h1 hk.1 (by omega),if_pos c4]
      unfold xOf;rw [if_pos hx]
     ·rw [if_neg c4]at h3 ⊢
      exact old h3 (fun _=>c4)
    ·rw [if_neg c8]at h3 ⊢
     exact old h3 (fun e=>absurd e c8)
theorem aah {nm:List Int} {b:Blk} {ops:List IOp} (i:Int):((((ops.map (ren nm))).getD (i).toNat default)).kind=(((ops).getD (i).toNat default)).kind:=by
 by_cases c:i.toNat<ops.length
 ·rw [getD_lt (by rw [List.length_map];exact c),getD_lt c,List.getElem_map];rfl
 ·simp only [List.getD_eq_getElem?_getD]
  rw [List.getElem?_eq_none (by rw [List.length_map];omega),List.getElem?_eq_none (by omega)]
theorem Cc {b:Blk} (hb:dz b):Lk b (dx b)∧(dx b).ops.length=b.ops.length∧∀u,aG u→u.length≤100→bC u (dx b)=bC u b:=by
 have e:dx b=Sd (cpS b.ops b.ops.length).1 b b.ops:=by unfold dx;rw [if_pos (bN hb)]
 have i0:=zG mK (by simp)
 obtain⟨_,_,ci⟩:=H6 hb [] i0.r4 b.ops.length (Nat.le_refl _)
 have kd:∀i:Int,((((b.ops.map (ren (cpS b.ops b.ops.length).1))).getD (i).toNat default)).kind=(((b.ops).getD (i).toNat default)).kind:=fun i=>aah (b:=b) i
 have vl:∀ {x n:Int},Vl b.ops x n→n≤b.ops.length→Vl (b.ops.map (ren (cpS b.ops b.ops.length).1)) (((cpS b.ops b.ops.length).1).getD (x).toNat default) n:=fun {x n} ⟨h1,h2,h3⟩ hn=>by
  obtain⟨⟨g1,g2⟩,_,g4⟩:=ci.nm x h1 (by omega)
  have:=g4 h3
  exact⟨g1,by omega,by unfold mkV at this ⊢;rw [kd];exact this⟩
 have ok:dz (dx b):=by
  rw [e]
  refine⟨hb.ln,hb.pc,by show(b.ops.map _).length≤48;rw [List.length_map];exact hb.sz,fun i h1 h2=> ?_,?_⟩
  ·have h2:i< (b.ops.map (ren (cpS b.ops b.ops.length).1)).length:=h2
   rw [List.length_map]at h2
   have ho:=hb.op i h1 h2
   show Cz (b.ops.map _) b.len i (((b.ops.map (ren (cpS b.ops b.ops.length).1))).getD (i).toNat default)
   rw [getD_lt (show i.toNat< (b.ops.map (ren (cpS b.ops b.ops.length).1)).length by rw [List.length_map];omega),List.getElem_map]
   rw [getD_lt (show i.toNat<b.ops.length by omega)]at ho
   generalize b.ops[i.toNat]=o at ho
   refine⟨ho.kd,fun h=> ?_,fun h=> ?_,fun h=> ?_,fun h=> ?_,ho.k1,ho.k2,ho.k3,ho.k0,ho.a1,ho.a0⟩
   ·have h:hX o:=h
    show Vl _ (if hX o then _ else _) i;rw [if_pos h];exact vl (ho.x1 h) (by omega)
   ·have h:¬hX o:=h
    show(if hX o then _ else _)=_;rw [if_neg h];exact ho.x0 h
   ·have h:hY o:=h
    show Vl _ (if hY o then _ else _) i;rw [if_pos h];exact vl (ho.y1 h) (by omega)
   ·have h:¬hY o:=h
    show(if hY o then _ else _)=_;rw [if_neg h];exact ho.y0 h
  ·have he:=hb.en
   refine⟨he.f,fun h=> ?_,fun h=> ?_,fun h=> ?_,fun h=> ?_,he.k1,he.k0⟩
   ·have h:b.fin≠1:=h
    show Vl (b.ops.map _) (if b.fin=1 then _ else _) ((b.ops.map _).length:Nat)
    rw [if_neg h,List.length_map];exact vl (he.x1 h) (Int.le_refl _)
   ·have h:b.fin=1:=h
    show(if b.fin=1 then _ else _)=_;rw [if_pos h];exact he.x0 h
   ·have h:3≤b.fin:=h
    show Vl (b.ops.map _) (if 3≤b.fin then _ else _) ((b.ops.map _).length:Nat)
    rw [if_pos h,List.length_map];exact vl (he.y1 h) (Int.le_refl _)
   ·have h:b.fin≤2:=h
    show(if 3≤b.fin then _ else _)=_;rw [if_neg (by omega)];exact he.y0 h
 suffices R:∀u,aG u→u.length≤100→bC u (dx b)=bC u b from⟨⟨hb,ok,by rw [e];rfl,by rw [e];rfl,fun u h1 h2 _=>R u h1 h2⟩,by rw [e];exact List.length_map _,R⟩
 intro u h1 h2
 have i1:=zG h1 (by omega)
 obtain⟨r1,_,r3⟩:=H6 hb u i1.r4 b.ops.length (Nat.le_refl _)
 rw [List.take_of_length_le (by rw [List.length_map];omega),List.take_of_length_le (by omega)]at r1
 rw [List.take_of_length_le (by omega)]at r3
 have es:cB u (dx b)=cB u b:=by rw [e];exact r1
 unfold bC
 rw [if_pos (bN ⟨h1,h2,ok⟩),if_pos (bN ⟨h1,h2,hb⟩),es]
 have em:jo (dx b) (cB u b)=jo b (cB u b):=by
  rw [e]
  unfold jo Sd
  dsimp only
  have en:=hb.en
  have xe:b.fin≠1→(((cB u b).vals).getD ((((cpS b.ops b.ops.length).1).getD (b.x).toNat default)).toNat default)=(((cB u b).vals).getD (b.x).toNat default):=fun h=>(r3.nm b.x (en.x1 h).1 (en.x1 h).2.1).2.1
  have ye:3≤b.fin→(((cB u b).vals).getD ((((cpS b.ops b.ops.length).1).getD (b.y).toNat default)).toNat default)=(((cB u b).vals).getD (b.y).toNat default):=fun h=>(r3.nm b.y (en.y1 h).1 (en.y1 h).2.1).2.1
  congr 1
  ·split
   ·rfl
   ·rename_i h;exact xe h
  ·split
   ·rename_i h;exact ye h
   ·rfl
 rw [em]
 rw [show(dx b).pc=b.pc by rw [e];rfl,show(dx b).len=b.len by rw [e];rfl]
theorem Si {b:Blk} (hb:dz b):Lk b (dx b)∧(dx b).ops.length=b.ops.length:=⟨(Cc hb).1,(Cc hb).2.1⟩
end Go.TX.F
namespace Go.TX.F
open Go Go.AE Go.TX
def fcO (f:List IOp) (o:IOp):IOp:=if o.kind=3∧(((f).getD (o.x).toNat default)).kind=1∧(((f).getD (o.y).toNat default)).kind=1 then⟨1,0,0,wdo o.k (((f).getD (o.x).toNat default)).k (((f).getD (o.y).toNat default)).k,0⟩else o
def fc (ops:List IOp):Nat→List IOp
 | 0=> []
 | i+1=>fc ops i++ [fcO (fc ops i) (ops.getD i default)]
def fcB (b:Blk) (f:List IOp):Blk:=
 if b.fin=2∧(((f).getD (b.x).toNat default)).kind=1 then⟨b.pc,b.len,f,1,0,b.y,(((f).getD (b.x).toNat default)).k⟩
 else if 3≤b.fin∧(((f).getD (b.x).toNat default)).kind=1∧(((f).getD (b.y).toNat default)).kind=1 then⟨b.pc,b.len,f,1,0,0,if b.fin=3∧(((f).getD (b.x).toNat default)).k=(((f).getD (b.y).toNat default)).k∨b.fin=4∧(((f).getD (b.x).toNat default)).k< (((f).getD (b.y).toNat default)).k then b.k else b.pc+b.len⟩
 else⟨b.pc,b.len,f,b.fin,b.x,b.y,b.k⟩
noncomputable def fD (b:Blk):Blk:=if bp (dz b)=true then fcB b (fc b.ops b.ops.length)else acF
theorem pV (ops:List IOp):∀i,(fc ops i).length=i
 | 0=>rfl
 | i+1=>by show(fc ops i++ [_]).length=_;rw [List.length_append,pV ops i];rfl
theorem adz (ops:List IOp) {i n j:Nat} (h1:j<i) (h2:i≤n):(fc ops n).getD j default=(fc ops i).getD j default:=by
  induction n with
  | zero => have : i = 0 := by omega
            subst this;rfl
  | succ n ih=>
    by_cases c:i=n+1
    · subst c;rfl
    · have:=ih (by omega)
      rw [←this]
      show(fc ops n++ [_]).getD j default=_
      rw [iT,if_pos (by rw [pV];omega)]
theorem Sj (ops:List IOp) {i n:Nat} (h:i<n):(fc ops n).getD i default=fcO (fc ops i) (ops.getD i default):=by
 rw [adz ops (show i<i+1 by omega) (show i+1≤n by omega)]
 show(fc ops i++ [_]).getD i default=_
 rw [iT,if_neg (by rw [pV];omega),if_pos (by rw [pV])]
structure FI (ops:List IOp) (i:Nat) (s:SS):Prop where
 c:∀j:Int,0≤j→j<i→((((fc ops i)).getD (j).toNat default)).kind=1→(0≤((((fc ops i)).getD (j).toNat default)).k∧((((fc ops i)).getD (j).toNat default)).k≤65535)∧((s.vals).getD (j).toNat default)=aP ((((fc ops i)).getD (j).toNat default)).k
 m:∀j:Int,0≤j→j<i→mkV ((ops).getD (j).toNat default)→mkV (((fc ops i)).getD (j).toNat default)
theorem Wx (t:List Atom) {op a b:Int} (hop:1≤op∧op≤5) (ha:0≤a∧a≤65535) (hb:0≤b∧b≤65535):tDo t op (aP a) (aP b)=(t,aP (wdo op a b)):=by
 unfold tDo;rw [R9 hop ha hb,if_pos rfl]
theorem AZ {b:Blk} (hb:dz b) (t:List Atom):∀i:Nat,i≤b.ops.length→
  ((fc b.ops b.ops.length).take i).foldl stp (s0 t)=(b.ops.take i).foldl stp (s0 t)∧FI b.ops i ((b.ops.take i).foldl stp (s0 t))
 | 0,_=>⟨rfl,⟨fun j h1 h2=>absurd h2 (by omega),fun j h1 h2=>absurd h2 (by omega)⟩⟩
 | i+1,hi=>by
  obtain⟨ih1,ih2⟩:=AZ hb t i (by omega)
  have hlt:i<b.ops.length:=hi
  have hok:=hb.op i (by omega) (by omega)
  rw [show(i:Int).toNat=i from rfl,getD_lt hlt]at hok
  have eo:b.ops.getD i default=b.ops[i]:=getD_lt hlt
  have hv:=AY (b.ops.take i) (s0 t)
  rw [List.length_take,Nat.min_eq_left (by omega),show(s0 t).vals.length=0 from rfl,Nat.zero_add]at hv
  have fl:=pV b.ops i
  have fo:(fc b.ops b.ops.length)[i]'(by rw [pV];exact hlt)=fcO (fc b.ops i) b.ops[i]:=by
   rw [←eo,←Sj b.ops hlt,getD_lt]
  rw [nM _ _ (by rw [pV];exact hlt),nM _ _ hlt,ih1,fo]
  clear ih1
  generalize (b.ops.take i).foldl stp (s0 t)=s at ih2 hv ⊢
  generalize ho:b.ops[i]=o at hok eo fo ⊢
  have key:o.kind=3∧((((fc b.ops i)).getD (o.x).toNat default)).kind=1∧((((fc b.ops i)).getD (o.y).toNat default)).kind=1→xOf s o=aP ((((fc b.ops i)).getD (o.x).toNat default)).k∧yOf s o=aP ((((fc b.ops i)).getD (o.y).toNat default)).k∧(0≤((((fc b.ops i)).getD (o.x).toNat default)).k∧((((fc b.ops i)).getD (o.x).toNat default)).k≤65535)∧(0≤((((fc b.ops i)).getD (o.y).toNat default)).k∧((((fc b.ops i)).getD (o.y).toNat default)).k≤65535):=fun⟨c1,c2,c3⟩=>by
   have hx:hX o:=by unfold hX;omega
   have hy:hY o:=Or.inl c1
   have v1:=hok.x1 hx
   have v2:=hok.y1 hy
   have g1:=ih2.c o.x v1.1 v1.2.1 c2
   have g2:=ih2.c o.y v2.1 v2.2.1 c3
   refine⟨?_,?_,g1.1,g2.1⟩
   ·unfold xOf;rw [if_pos hx];exact g1.2
   ·unfold yOf;rw [if_pos hy];exact g2.2
  have es:stp s (fcO (fc b.ops i) o)=stp s o∧((fcO (fc b.ops i) o).kind=1→(0≤(fcO (fc b.ops i) o).k∧(fcO (fc b.ops i) o).k≤65535)∧nV s o=aP (fcO (fc b.ops i) o).k)∧(mkV o→mkV (fcO (fc b.ops i) o)):=by
   unfold fcO
   by_cases c:o.kind=3∧((((fc b.ops i)).getD (o.x).toNat default)).kind=1∧((((fc b.ops i)).getD (o.y).toNat default)).kind=1
   ·rw [if_pos c]
    obtain⟨k1,k2,k3,k4⟩:=key c
    have hd:=Wx s.t (hok.k3 c.1) k3 k4
    have e1:nT s o=s.t:=by unfold nT;rw [if_pos c.1,k1,k2,hd]
    have e2:nV s o=aP (wdo o.k ((((fc b.ops i)).getD (o.x).toNat default)).k ((((fc b.ops i)).getD (o.y).toNat default)).k):=by unfold nV;rw [if_neg (by omega),if_neg (by omega),if_pos c.1,k1,k2,hd]
    refine⟨?_,fun _=>⟨UU _ _ _,e2⟩,fun _=>Or.inl ⟨by dsimp only;omega,by dsimp only;omega⟩⟩
    have e3:nR s o=s.regs:=by unfold nR;rw [if_neg (by omega)]
    have e4:nE s o=s.evs:=by unfold nE;rw [if_neg (by omega)]
    show SS.mk (nT s ⟨1,0,0,_,0⟩) (nR s ⟨1,0,0,_,0⟩) (s.vals++ [nV s ⟨1,0,0,_,0⟩]) (if(1:Int)=4 then _ else _) (if(1:Int)=6 then _ else _) (nE s ⟨1,0,0,_,0⟩)=SS.mk (nT s o) (nR s o) (s.vals++ [nV s o]) (if o.kind=4 then _ else _) (if o.kind=6 then _ else _) (nE s o)
    rw [e1,e2,e3,e4,if_neg (show¬o.kind=4 by omega),if_neg (show¬o.kind=6 by omega)]
    rfl
   ·rw [if_neg c]
    refine⟨rfl,fun h=>⟨hok.k1 h,by unfold nV;rw [if_pos h]⟩,fun h=>h⟩
  refine⟨es.1,?_⟩
  have vs:∀j:Int,0≤j→j<i→(((stp s o).vals).getD (j).toNat default)=((s.vals).getD (j).toNat default):=fun j h1 h2=>by
   show(((s.vals++ [nV s o])).getD (j).toNat default)=_
   rw [iT,if_pos (by omega)]
  have vi:(((stp s o).vals).getD ((i:Int)).toNat default)=nV s o:=by
   show(((s.vals++ [nV s o])).getD ((i:Int)).toNat default)=_
   rw [iT,if_neg (by omega),if_pos (by omega)]
  have ns:∀j:Int,0≤j→j<i→(((fc b.ops (i+1))).getD (j).toNat default)=(((fc b.ops i)).getD (j).toNat default):=fun j h1 h2=>adz b.ops (by omega) (by omega)
  have ni:(((fc b.ops (i+1))).getD ((i:Int)).toNat default)=fcO (fc b.ops i) o:=by
   rw [show((i:Int)).toNat=i from rfl,Sj b.ops (show i<i+1 by omega),eo]
  have eoi:((b.ops).getD ((i:Int)).toNat default)=o:=by rw [show(i:Int).toNat=i from rfl,eo]
  refine⟨fun j h1 h2 h3=> ?_,fun j h1 h2 h3=> ?_⟩
  ·by_cases c:j<i
   ·rw [ns j h1 c]at h3 ⊢;rw [vs j h1 c];exact ih2.c j h1 c h3
   ·have:j=(i:Int):=by omega
    subst this
    rw [ni]at h3 ⊢;rw [vi];exact es.2.1 h3
  ·by_cases c:j<i
   ·rw [ns j h1 c];exact ih2.m j h1 c h3
   ·have:j=(i:Int):=by omega
    subst this
    rw [eoi]at h3
    rw [ni];exact es.2.2 h3
theorem Sk {a b:Int} (ha:0≤a∧a≤65535) (hb:0≤b∧b≤65535) (h:aP a=aP b):a=b:=by
 have:=gW ha
 rw [h,gW hb]at this
 exact(congrArg Prod.fst this).symm
theorem aoA (b:Blk) (f:List IOp):(fcB b f).pc=b.pc∧(fcB b f).len=b.len∧(fcB b f).ops=f:=by
 unfold fcB;split
 ·exact⟨rfl,rfl,rfl⟩
 ·split<;>exact⟨rfl,rfl,rfl⟩
theorem OE {b:Blk} (hb:dz b):Lk b (fD b)∧(fD b).ops.length=b.ops.length:=by
 have e:fD b=fcB b (fc b.ops b.ops.length):=by unfold fD;rw [if_pos (bN hb)]
 obtain⟨p1,p2,p3⟩:=aoA b (fc b.ops b.ops.length)
 have fl:=pV b.ops b.ops.length
 obtain⟨_,fi⟩:=AZ hb [] b.ops.length (Nat.le_refl _)
 have vl:∀ {x n:Int},Vl b.ops x n→n≤b.ops.length→Vl (fc b.ops b.ops.length) x n:=fun {x n} ⟨h1,h2,h3⟩ hn=>⟨h1,h2,fi.m x h1 (by omega) h3⟩
 have en:=hb.en
 have h1:=hb.ln
 have h2:=hb.pc
 have ok:dz (fD b):=by
  rw [e]
  refine⟨by rw [p2];exact hb.ln,by rw [p1,p2];exact hb.pc,by rw [p3,fl];exact hb.sz,fun i i1 i2=> ?_,?_⟩
  ·rw [p3]at i2 ⊢
   rw [fl]at i2
   rw [p2]
   have ho:=hb.op i i1 i2
   rw [Sj b.ops (show i.toNat<b.ops.length by omega)]
   generalize b.ops.getD i.toNat default=o at ho
   unfold fcO
   split
   ·refine⟨by dsimp only;omega,fun h=>absurd h (by unfold hX;simp),fun _=>rfl,fun h=>absurd h (by unfold hY;simp),fun _=>rfl,fun _=>UU _ _ _,fun h=>absurd h (by simp),fun h=>absurd h (by simp),fun h=>absurd h (by simp),fun h=>absurd h (by unfold evO;simp),fun _=>rfl⟩
   ·exact⟨ho.kd,fun h=>vl (ho.x1 h) (by omega),ho.x0,fun h=>vl (ho.y1 h) (by omega),ho.y0,ho.k1,ho.k2,ho.k3,ho.k0,ho.a1,ho.a0⟩
  ·unfold fcB
   split
   ·rename_i c
    have v:=en.x1 (by omega)
    have g:=fi.c b.x v.1 v.2.1 c.2
    exact⟨by dsimp only;omega,fun h=>absurd rfl h,fun _=>rfl,fun h=>absurd h (by dsimp only;omega),fun _=>en.y0 (by omega),fun _=>g.1,fun h=>absurd h (by simp)⟩
   ·split
    ·rename_i c
     refine⟨by dsimp only;omega,fun h=>absurd rfl h,fun _=>rfl,fun h=>absurd h (by dsimp only;omega),fun _=>rfl,fun _=> ?_,fun h=>absurd h (by simp)⟩
     dsimp only
     split
     ·exact en.k1 (by omega)
     ·omega
    ·exact⟨en.f,fun h=>by dsimp only at h ⊢;rw [fl];exact vl (en.x1 h) (Int.le_refl _),en.x0,fun h=>by dsimp only at h ⊢;rw [fl];exact vl (en.y1 h) (Int.le_refl _),en.y0,en.k1,en.k0⟩
 refine⟨⟨hb,ok,by rw [e,p1],by rw [e,p2],fun u u1 u2 u3=> ?_⟩,by rw [e,p3,fl]⟩
 obtain⟨r1,r3⟩:=AZ hb u b.ops.length (Nat.le_refl _)
 rw [List.take_of_length_le (by omega),List.take_of_length_le (by omega)]at r1
 rw [List.take_of_length_le (by omega)]at r3
 have es:cB u (fD b)=cB u b:=by unfold cB;rw [e,p3];exact r1
 unfold bC
 rw [if_pos (bN ⟨u1,u2,ok⟩),if_pos (bN ⟨u1,u2,hb⟩),es]
 rw [e,p1,p2]
 have i1:=(rM u1 u2 hb).1
 have pk:=KL (b:=b) i1
 congr 1
 have r3:FI b.ops b.ops.length (cB u b):=r3
 generalize cB u b=s at r3 pk
 unfold fcB
 split
 ·rename_i c
  have v:=en.x1 (by omega)
  obtain⟨g1,g2⟩:=r3.c b.x v.1 v.2.1 c.2
  have ex:(jo b s).x=aP ((((fc b.ops b.ops.length)).getD (b.x).toNat default)).k:=by unfold jo;dsimp only;rw [if_neg (by omega)];exact g2
  have ey:(jo b s).y=[]:=by unfold jo;dsimp only;rw [if_neg (by omega)]
  have e1:symEnd (jo b s) (b.pc+b.len)=⟨s.evs,s.regs,1,[],[],((((fc b.ops b.ops.length)).getD (b.x).toNat default)).k⟩:=by
   unfold symEnd
   rw [if_neg (by rw [bN pk];simp),if_pos ⟨c.1,by rw [ex,gW g1]⟩,ex,gW g1];rfl
  rw [e1]
  unfold symEnd jo
  dsimp only
  rw [if_neg (by rw [bN ⟨by rw [if_pos rfl];exact bR,by rw [if_neg (by omega)];exact bR⟩];simp),if_neg (by omega),if_pos (by omega)]
  rw [if_pos rfl,if_neg (by omega)]
 ·split
  ·rename_i _ c
   have v:=en.x1 (by omega)
   have w:=en.y1 c.1
   obtain⟨g1,g2⟩:=r3.c b.x v.1 v.2.1 c.2.1
   obtain⟨g3,g4⟩:=r3.c b.y w.1 w.2.1 c.2.2
   have ex:(jo b s).x=aP ((((fc b.ops b.ops.length)).getD (b.x).toNat default)).k:=by unfold jo;dsimp only;rw [if_neg (by omega)];exact g2
   have ey:(jo b s).y=aP ((((fc b.ops b.ops.length)).getD (b.y).toNat default)).k:=by unfold jo;dsimp only;rw [if_pos c.1];exact g4
   have hf:=en.f
   have e1:symEnd (jo b s) (b.pc+b.len)=⟨s.evs,s.regs,1,[],[],if b.fin=3∧((((fc b.ops b.ops.length)).getD (b.x).toNat default)).k=((((fc b.ops b.ops.length)).getD (b.y).toNat default)).k∨b.fin=4∧((((fc b.ops b.ops.length)).getD (b.x).toNat default)).k< ((((fc b.ops b.ops.length)).getD (b.y).toNat default)).k then b.k else b.pc+b.len⟩:=by
    unfold symEnd
    rw [if_neg (by rw [bN pk];simp),if_neg (by show¬(b.fin=2∧_);omega),if_neg (by show¬(b.fin≠3∧b.fin≠4);omega)]
    rw [ex,ey,gW g1,gW g3,if_pos (Or.inr ⟨rfl,rfl⟩)]
    show Sym.mk s.evs s.regs 1 [] [] _=_
    congr 1
    show(if(_∧b.fin=3∨(true=true∧true=true)∧(b.fin=3∧_∨b.fin=4∧_))then b.k else _)=_
    by_cases d:b.fin=3∧((((fc b.ops b.ops.length)).getD (b.x).toNat default)).k=((((fc b.ops b.ops.length)).getD (b.y).toNat default)).k∨b.fin=4∧((((fc b.ops b.ops.length)).getD (b.x).toNat default)).k< ((((fc b.ops b.ops.length)).getD (b.y).toNat default)).k
    ·rw [if_pos d];exact if_pos (Or.inr ⟨⟨rfl,rfl⟩,d⟩)
    ·rw [if_neg d]
     refine if_neg ?_
     rintro(⟨q1,q2⟩ | ⟨_,q⟩)
     ·exact d (Or.inl ⟨q2,Sk g1 g3 q1⟩)
     ·exact d q
   rw [e1]
   unfold symEnd jo
   dsimp only
   rw [if_neg (by rw [bN ⟨by rw [if_pos rfl];exact bR,by rw [if_neg (by omega)];exact bR⟩];simp),if_neg (by omega),if_pos (by omega)]
   rw [if_pos rfl,if_neg (by omega)]
  ·rfl
def kpS (ops:List IOp) (kp:List Bool):Nat→List Int×List IOp
 | 0=>([],[])
 | i+1=>((kpS ops kp i).1++ [((kpS ops kp i).2.length:Int)],if kp.getD i default=true then(kpS ops kp i).2++ [ops.getD i default]else(kpS ops kp i).2)
def Ce (b:Blk) (kp:List Bool):Blk:=Sd (kpS b.ops kp b.ops.length).1 b (kpS b.ops kp b.ops.length).2
def qG:List IOp→Int→Bool
 | [],_=>false
 | o::l,r=>if o.kind=4∨o.kind=5∨o.kind=2∧o.k=r then false else if o.kind=8∧o.k=r then true else qG l r
theorem zI (ops:List IOp) (kp:List Bool):∀i,(kpS ops kp i).1.length=i∧(kpS ops kp i).2.length≤i
 | 0=>⟨rfl,Nat.le_refl _⟩
 | i+1=>by
  obtain⟨h1,h2⟩:=zI ops kp i
  unfold kpS
  refine⟨by rw [List.length_append,h1];rfl,?_⟩
  dsimp only
  split
  ·rw [List.length_append];simp only [List.length_cons,List.length_nil];omega
  ·omega
theorem acG (ops:List IOp) (kp:List Bool) {i n:Nat} (h:i≤n):(kpS ops kp i).2<+:(kpS ops kp n).2∧(kpS ops kp i).1<+:(kpS ops kp n).1:=by
 induction n with
 | zero=>rw [show i=0 by omega];exact⟨List.prefix_refl _,List.prefix_refl _⟩
 | succ n ih=>
  by_cases c:i=n+1
  ·subst c;exact⟨List.prefix_refl _,List.prefix_refl _⟩
  ·obtain⟨h1,h2⟩:=ih (by omega)
   refine⟨h1.trans ?_,h2.trans (List.prefix_append _ _)⟩
   show _<+:if kp.getD n default=true then _ else _
   split
   ·exact List.prefix_append _ _
   ·exact List.prefix_refl _
structure KP (b:Blk) (kp:List Bool):Prop where
 x:∀i:Int,0≤i→i<b.ops.length→((kp).getD (i).toNat default)=true→hX ((b.ops).getD (i).toNat default)→((kp).getD ((((b.ops).getD (i).toNat default)).x).toNat default)=true
 y:∀i:Int,0≤i→i<b.ops.length→((kp).getD (i).toNat default)=true→hY ((b.ops).getD (i).toNat default)→((kp).getD ((((b.ops).getD (i).toNat default)).y).toNat default)=true
 ex:b.fin≠1→((kp).getD (b.x).toNat default)=true
 ey:3≤b.fin→((kp).getD (b.y).toNat default)=true
 no:∀i:Int,0≤i→i<b.ops.length→((kp).getD (i).toNat default)=false→(((b.ops).getD (i).toNat default)).kind≤3∨(((b.ops).getD (i).toNat default)).kind=8∧qG (b.ops.drop (i.toNat+1)) (((b.ops).getD (i).toNat default)).k=true
structure KI (b:Blk) (kp:List Bool) (i:Nat) (s s':SS):Prop where
 t:s'.t=s.t
 ld:s'.ld=s.ld
 inn:s'.inn=s.inn
 evs:s'.evs=s.evs
 vl:s'.vals.length=(kpS b.ops kp i).2.length
 v:∀j:Nat,j<i→kp.getD j default=true→s'.vals.getD (kpS b.ops kp j).2.length default=s.vals.getD j default
 r4:s'.regs.length=4∧s.regs.length=4
 rg:∀r:Int,0≤r→r≤3→qG (b.ops.drop i) r=false→((s'.regs).getD (r).toNat default)=((s.regs).getD (r).toNat default)
def rO (ops:List IOp):List Bool:=(List.range ops.length).map fun i=> !(decide ((ops.getD i default).kind=8)&&qG (ops.drop (i+1)) (ops.getD i default).k)
noncomputable def wm (b:Blk):Blk:=if bp (dz b)=true then Ce b (rO b.ops)else acF
theorem Wy {ops:List IOp} {i:Nat} (h:i<ops.length):(rO ops).getD i default= !(decide ((ops.getD i default).kind=8)&&qG (ops.drop (i+1)) (ops.getD i default).k):=by
 unfold rO
 rw [getD_lt (by rw [List.length_map,List.length_range];exact h),List.getElem_map,List.getElem_range]
def us0 (b:Blk):List Bool:=(fun m:List Bool=>if 3≤b.fin then m.set b.y.toNat true else m) (if b.fin=1 then List.replicate b.ops.length false else(List.replicate b.ops.length false).set b.x.toNat true)
def usO (o:IOp) (i:Nat) (m:List Bool):List Bool:=
 if(m.getD i default || decide (4≤o.kind))=true then(fun m:List Bool=>if hY o then m.set o.y.toNat true else m) ((fun m:List Bool=>if hX o then m.set o.x.toNat true else m) (m.set i true))else m
def us (b:Blk):Nat→List Bool
 | 0=>us0 b
 | k+1=>usO (b.ops.getD (b.ops.length-1-k) default) (b.ops.length-1-k) (us b k)
noncomputable def CQ (b:Blk):List Bool:=if bp (dz b)=true then us b b.ops.length else []
noncomputable def oD (b:Blk):Blk:=if bp (dz b)=true then Ce b (us b b.ops.length)else acF
theorem acH (o:IOp) (i:Nat) (m:List Bool):(usO o i m).length=m.length:=by
 unfold usO;dsimp only;repeat' split
 all_goals simp only [List.length_set]
theorem acI (b:Blk):(us0 b).length=b.ops.length:=by
 unfold us0;dsimp only;repeat' split
 all_goals simp only [List.length_set,List.length_replicate]
theorem A8 (b:Blk):∀k,(us b k).length=b.ops.length
 | 0=>acI b
 | k+1=>by unfold us;rw [acH,A8 b k]
theorem wo {m:List Bool} {i:Nat} {j:Int} (h:j.toNat<m.length):(m.set j.toNat true).getD i default=(m.getD i default || decide (i=j.toNat)):=by
 by_cases c:i=j.toNat
 ·subst c;rw [getD_lt (by rw [List.length_set];exact h),List.getElem_set_self,decide_eq_true rfl,Bool.or_true]
 ·rw [decide_eq_false c,Bool.or_false]
  simp only [List.getD,List.getElem?_set_ne (Ne.symm c)]
theorem U7 {o:IOp} {i t:Nat} {m:List Bool} (hi:i<m.length) (hx:hX o→o.x.toNat<m.length) (hy:hY o→o.y.toNat<m.length):(usO o i m).getD t default=true↔m.getD t default=true∨(m.getD i default=true∨4≤o.kind)∧(t=i∨hX o∧t=o.x.toNat∨hY o∧t=o.y.toNat):=by
 unfold usO
 dsimp only
 by_cases c:(m.getD i default || decide (4≤o.kind))=true
 ·rw [if_pos c]
  rw [Bool.or_eq_true,decide_eq_true_eq]at c
  have e1:∀t:Nat,(m.set i true).getD t default=true↔m.getD t default=true∨t=i:=fun t=>by
   have:=wo (m:=m) (i:=t) (j:=(i:Int)) hi
   rw [show((i:Int)).toNat=i from rfl]at this
   rw [this,Bool.or_eq_true,decide_eq_true_eq]
  have e2:∀t:Nat,((if hX o then(m.set i true).set o.x.toNat true else m.set i true).getD t default=true)↔(m.getD t default=true∨t=i)∨hX o∧t=o.x.toNat:=fun t=>by
   by_cases d:hX o
   ·rw [if_pos d,wo (by rw [List.length_set];exact hx d),Bool.or_eq_true,decide_eq_true_eq,e1];exact⟨fun h=>h.elim Or.inl (fun h=>Or.inr ⟨d,h⟩),fun h=>h.elim Or.inl (fun h=>Or.inr h.2)⟩
   ·rw [if_neg d,e1];exact⟨Or.inl,fun h=>h.elim id (fun h=>absurd h.1 d)⟩
  have l2:(if hX o then(m.set i true).set o.x.toNat true else m.set i true).length=m.length:=by split<;>simp only [List.length_set]
  by_cases d:hY o
  ·rw [if_pos d,wo (by rw [l2];exact hy d),Bool.or_eq_true,decide_eq_true_eq,e2];have c':=eq_true c;have d':=eq_true d;generalize hY o=Y at d' ⊢;generalize hX o=Z;rw [c',d'];grind
  ·rw [if_neg d,e2];have c':=eq_true c;have d':=eq_false d;generalize hY o=Y at d' ⊢;generalize hX o=Z;rw [c',d'];grind
 ·rw [if_neg c]
  rw [Bool.or_eq_true,decide_eq_true_eq]at c
  simp only [c,false_and,or_false]
theorem Sl {m:List Bool} {t:Nat} {j:Int} (h:j.toNat<m.length):(m.set j.toNat true).getD t default=true↔m.getD t default=true∨t=j.toNat:=by rw [wo h,Bool.or_eq_true,decide_eq_true_eq]
structure UI (b:Blk) (p:Nat) (m:List Bool):Prop where
 k:∀i:Nat,p≤i→i<b.ops.length→4≤(b.ops.getD i default).kind→m.getD i default=true
 x:∀i:Nat,p≤i→i<b.ops.length→m.getD i default=true→hX (b.ops.getD i default)→((m).getD ((b.ops.getD i default).x).toNat default)=true
 y:∀i:Nat,p≤i→i<b.ops.length→m.getD i default=true→hY (b.ops.getD i default)→((m).getD ((b.ops.getD i default).y).toNat default)=true
 ex:b.fin≠1→((m).getD (b.x).toNat default)=true
 ey:3≤b.fin→((m).getD (b.y).toNat default)=true
 wh:∀t:Nat,t<b.ops.length→m.getD t default=true→4≤(b.ops.getD t default).kind∨b.fin≠1∧t=b.x.toNat∨3≤b.fin∧t=b.y.toNat∨∃j:Nat,p≤j∧j<b.ops.length∧t<j∧m.getD j default=true∧(hX (b.ops.getD j default)∧t=(b.ops.getD j default).x.toNat∨hY (b.ops.getD j default)∧t=(b.ops.getD j default).y.toNat)
theorem U8 {b:Blk} (hb:dz b) (t:Nat):(us0 b).getD t default=true↔b.fin≠1∧t=b.x.toNat∨3≤b.fin∧t=b.y.toNat:=by
 have en:=hb.en
 have fx:=en.x1
 have fy:=en.y1
 unfold us0
 dsimp only
 have r:∀t,(List.replicate b.ops.length false).getD t default=false:=fun t=>by
  by_cases c:t<b.ops.length
  ·rw [getD_lt (by rw [List.length_replicate];exact c),List.getElem_replicate]
  ·rw [List.getD_eq_getElem?_getD,List.getElem?_eq_none (by rw [List.length_replicate];omega)];rfl
 have e1:∀t:Nat,((if b.fin=1 then List.replicate b.ops.length false else(List.replicate b.ops.length false).set b.x.toNat true).getD t default=true)↔b.fin≠1∧t=b.x.toNat:=fun t=>by
  by_cases d:b.fin=1
  ·rw [if_pos d,r];simp [d]
  ·have:=fx d
   have g0:=this.1
   have g1:=this.2.1
   rw [if_neg d,wo (by rw [List.length_replicate];omega),r];simp [d]
 have l1:(if b.fin=1 then List.replicate b.ops.length false else(List.replicate b.ops.length false).set b.x.toNat true).length=b.ops.length:=by split<;>simp only [List.length_set,List.length_replicate]
 by_cases d:3≤b.fin
 ·have:=fy d
  have g0:=this.1
  have g1:=this.2.1
  rw [if_pos d,wo (by rw [l1];omega),Bool.or_eq_true,decide_eq_true_eq,e1];simp only [d,true_and]
 ·rw [if_neg d,e1];simp only [d,false_and,or_false]
theorem adA {b:Blk} (hb:dz b):∀k,k≤b.ops.length→UI b (b.ops.length-k) (us b k)
 | 0,_=>by
  have e:=U8 hb
  exact⟨fun i h1 h2=>absurd h2 (by omega),fun i h1 h2=>absurd h2 (by omega),fun i h1 h2=>absurd h2 (by omega),fun c=>(e _).2 (Or.inl ⟨c,rfl⟩),fun c=>(e _).2 (Or.inr ⟨c,rfl⟩),fun t _ h=>((e t).1 h).elim (fun h=>Or.inr (Or.inl h)) (fun h=>Or.inr (Or.inr (Or.inl h)))⟩
 | k+1,hk=>by
  have ih:=adA hb k (by omega)
  have ul:=A8 b k
  have ho:=hb.op ((b.ops.length-1-k:Nat):Int) (by omega) (by omega)
  rw [show(((b.ops.length-1-k:Nat):Int)).toNat=b.ops.length-1-k from rfl]at ho
  generalize hp:b.ops.length-1-k=p at ho
  have e0:b.ops.length-k=p+1:=by omega
  rw [e0]at ih
  rw [show b.ops.length- (k+1)=p by omega]
  have pl:p<b.ops.length:=by omega
  show UI b p (usO (b.ops.getD (b.ops.length-1-k) default) (b.ops.length-1-k) (us b k))
  rw [hp]
  have X:hX (b.ops.getD p default)→(b.ops.getD p default).x.toNat<p:=fun c=>by have:=ho.x1 c;have g0:=this.1;have g1:=this.2.1;omega
  have Y:hY (b.ops.getD p default)→(b.ops.getD p default).y.toNat<p:=fun c=>by have:=ho.y1 c;have g0:=this.1;have g1:=this.2.1;omega
  generalize us b k=m at ih ul
  have e:∀t:Nat,_↔_:=fun t=>U7 (o:=b.ops.getD p default) (i:=p) (t:=t) (m:=m) (by omega) (fun c=>by have:=X c;omega) (fun c=>by have:=Y c;omega)
  have hi:∀t:Nat,p<t→((usO (b.ops.getD p default) p m).getD t default=true↔m.getD t default=true):=fun t h=>by
   rw [e]
   constructor
   ·rintro(h1 | ⟨_,h1 | ⟨h1,h2⟩ | ⟨h1,h2⟩⟩)
    ·exact h1
    ·omega
    ·have:=X h1;omega
    ·have:=Y h1;omega
   ·exact Or.inl
  have mono:∀t:Nat,m.getD t default=true→(usO (b.ops.getD p default) p m).getD t default=true:=fun t h=>(e t).2 (Or.inl h)
  have pp:(usO (b.ops.getD p default) p m).getD p default=true↔m.getD p default=true∨4≤(b.ops.getD p default).kind:=by
   rw [e]
   constructor
   ·rintro(h1 | ⟨h1,_⟩)
    ·exact Or.inl h1
    ·exact h1
   ·intro h;exact Or.inr ⟨h,Or.inl rfl⟩
  refine⟨fun i h1 h2 h3=> ?_,fun i h1 h2 h3 h4=> ?_,fun i h1 h2 h3 h4=> ?_,fun c=>mono _ (ih.ex c),fun c=>mono _ (ih.ey c),fun t h1 h2=> ?_⟩
  ·by_cases c:i=p
   ·subst c;exact pp.2 (Or.inr h3)
   ·exact mono _ (ih.k i (by omega) h2 h3)
  ·by_cases c:i=p
   ·subst c;exact(e _).2 (Or.inr ⟨pp.1 h3,Or.inr (Or.inl ⟨h4,rfl⟩)⟩)
   ·exact mono _ (ih.x i (by omega) h2 ((hi i (by omega)).1 h3) h4)
  ·by_cases c:i=p
   ·subst c;exact(e _).2 (Or.inr ⟨pp.1 h3,Or.inr (Or.inr ⟨h4,rfl⟩)⟩)
   ·exact mono _ (ih.y i (by omega) h2 ((hi i (by omega)).1 h3) h4)
  ·have old:m.getD t default=true→_:=fun h=>ih.wh t h1 h
   have go:m.getD t default=true→4≤(b.ops.getD t default).kind∨b.fin≠1∧t=b.x.toNat∨3≤b.fin∧t=b.y.toNat∨∃j:Nat,p≤j∧j<b.ops.length∧t<j∧(usO (b.ops.getD p default) p m).getD j default=true∧(hX (b.ops.getD j default)∧t=(b.ops.getD j default).x.toNat∨hY (b.ops.getD j default)∧t=(b.ops.getD j default).y.toNat):=fun h=>by
    rcases old h with h | h | h | ⟨j,j1,j2,j3,j4,j5⟩
    ·exact Or.inl h
    ·exact Or.inr (Or.inl h)
    ·exact Or.inr (Or.inr (Or.inl h))
    ·exact Or.inr (Or.inr (Or.inr ⟨j,by omega,j2,j3,mono _ j4,j5⟩))
   rcases(e t).1 h2 with h | ⟨h,g⟩
   ·exact go h
   ·rcases g with g | ⟨g1,g2⟩ | ⟨g1,g2⟩
    ·subst g
     rcases h with h | h
     ·exact go h
     ·exact Or.inl h
    ·exact Or.inr (Or.inr (Or.inr ⟨p,Nat.le_refl _,pl,by have:=X g1;omega,pp.2 h,Or.inl ⟨g1,g2⟩⟩))
    ·exact Or.inr (Or.inr (Or.inr ⟨p,Nat.le_refl _,pl,by have:=Y g1;omega,pp.2 h,Or.inr ⟨g1,g2⟩⟩))
theorem aoB {b:Blk} (hb:dz b):UI b 0 (us b b.ops.length):=by
 have:=adA hb b.ops.length (Nat.le_refl _)
 rw [Nat.sub_self]at this;exact this
theorem aai (b:Blk) (kp:List Bool):(Ce b kp).ops.length=(kpS b.ops kp b.ops.length).2.length:=List.length_map _
theorem Sn (o:IOp) (l:List IOp) (r:Int):qG (o::l) r=if o.kind=4∨o.kind=5∨o.kind=2∧o.k=r then false else if o.kind=8∧o.k=r then true else qG l r:=rfl
theorem OG (b:Blk) (kp:List Bool):(Ce b kp).ops.length≤b.ops.length:=by rw [aai];exact(zI b.ops kp b.ops.length).2
theorem H7 (b:Blk):(wm b).ops.length≤b.ops.length:=by
 unfold wm;split
 ·exact OG _ _
 ·exact Nat.zero_le _
theorem yF (b:Blk):(oD b).ops.length≤b.ops.length:=by
 unfold oD;split
 ·exact OG _ _
 ·exact Nat.zero_le _
theorem Cg (b:Blk):(fD b).ops.length≤b.ops.length:=by
 by_cases c:dz b
 ·exact Nat.le_of_eq (OE c).2
 ·unfold fD;rw [gU c,if_neg (by decide)];exact Nat.zero_le _
theorem rP (b:Blk):(dx b).ops.length≤b.ops.length:=by
 by_cases c:dz b
 ·exact Nat.le_of_eq (Si c).2
 ·unfold dx;rw [gU c,if_neg (by decide)];exact Nat.zero_le _
noncomputable def KQ (b:Blk):Blk:=oD (wm (oD (fD (dx b))))
theorem JA (b:Blk):(KQ b).ops.length≤b.ops.length:=Nat.le_trans (yF _) (Nat.le_trans (H7 _) (Nat.le_trans (yF _) (Nat.le_trans (Cg _) (rP _))))
theorem KR {b:Blk} (hb:dz b):fD b=fcB b (fc b.ops b.ops.length):=by unfold fD;rw [if_pos (bN hb)]
end Go.TX.F
namespace Go.TX.F
open Go Go.AE Go.TX
theorem RB:(∀o:IOp,jK .iop 0 o=o.kind)∧(∀o:IOp,jK .iop 1 o=o.x)∧(∀o:IOp,jK .iop 2 o=o.y)∧(∀o:IOp,jK .iop 3 o=o.k)∧(∀o:IOp,jK .iop 4 o=o.at_)∧
  (∀b:Blk,jK .blk 0 b=b.pc)∧(∀b:Blk,jK .blk 1 b=b.len)∧(∀b:Blk,oV .blk 2 .iop b=b.ops)∧(∀b:Blk,jK .blk 3 b=b.fin)∧(∀b:Blk,jK .blk 4 b=b.x)∧(∀b:Blk,jK .blk 5 b=b.y)∧(∀b:Blk,jK .blk 6 b=b.k)∧
  (∀x,Co.mk .iop x=⟨x.1,x.2.1,x.2.2.1,x.2.2.2.1,x.2.2.2.2.1⟩)∧(∀x,Co.mk .blk x=⟨x.1,x.2.1,x.2.2.1,x.2.2.2.1,x.2.2.2.2.1,x.2.2.2.2.2.1,x.2.2.2.2.2.2.1⟩)∧
  (∀i:Ins,jK .ins 0 i=i.op)∧(∀i:Ins,jK .ins 1 i=i.d)∧(∀i:Ins,jK .ins 2 i=i.a)∧(∀i:Ins,jK .ins 3 i=i.k)∧(∀x,Co.mk .ins x=⟨x.1,x.2.1,x.2.2.1,x.2.2.2.1⟩)∧
  (∀e:Ev,jK .ev 0 e=e.kind)∧(∀e:Ev,jK .ev 1 e=e.at_)∧(∀e:Ev,oV .ev 2 .mono e=e.x)∧(∀e:Ev,oV .ev 3 .mono e=e.y)∧(∀e:Ev,oV .ev 4 .poly e=e.regs)∧(∀x,Co.mk .ev x=⟨x.1,x.2.1,x.2.2.1,x.2.2.2.1,x.2.2.2.2.1⟩)∧
  (∀s:Sym,oV .sym 0 .ev s=s.events)∧(∀s:Sym,oV .sym 1 .poly s=s.regs)∧(∀s:Sym,jK .sym 2 s=s.fin)∧(∀s:Sym,oV .sym 3 .mono s=s.x)∧(∀s:Sym,oV .sym 4 .mono s=s.y)∧(∀s:Sym,jK .sym 5 s=s.k)∧
  (∀x,Co.mk .sym x=⟨x.1,x.2.1,x.2.2.1,x.2.2.2.1,x.2.2.2.2.1,x.2.2.2.2.2.1⟩)∧(∀x,Co.mk .bool x=x.1)∧(∀x:Bool,ak0 .bool 0 x=x):=
 ⟨fun _=>rfl,fun _=>rfl,fun _=>rfl,fun _=>rfl,fun _=>rfl,fun _=>rfl,fun _=>rfl,fun _=>rfl,fun _=>rfl,fun _=>rfl,fun _=>rfl,fun _=>rfl,fun _=>rfl,fun _=>rfl,fun _=>rfl,fun _=>rfl,fun _=>rfl,fun _=>rfl,fun _=>rfl,fun _=>rfl,fun _=>rfl,fun _=>rfl,fun _=>rfl,fun _=>rfl,fun _=>rfl,fun _=>rfl,fun _=>rfl,fun _=>rfl,fun _=>rfl,fun _=>rfl,fun _=>rfl,fun _=>rfl,fun _=>rfl,fun _=>rfl⟩
@[reducible] def hK (o : IOp) : Prop := o.kind = 1 ∨ o.kind = 2 ∨ o.kind = 3 ∨ o.kind = 8
theorem aoC {p1:Int×Int×Int×Unit→Bool} {f1:Int×Int×Int×Unit→Bool×Unit} (hp1:∀a b c,p1 (a,b,c,())=true) (hf1:∀a b c,f1 (a,b,c,())=(inB a b c,())) (o:IOp):
  XY (std 0) p1 f1 (o,()) (fun y=>y=(decide (hX o),decide (hY o),decide (hK o),decide (evO o),())):=by
 dsimp only [XY,Alg.cl,Alg.cg,Alg.rb,Alg.bd,Alg.l1,Tup.q,Tup.o]
 simp (disch:=omega) only [RR,RB,hp1,hf1]
 refine Prod.ext ?_ (Prod.ext ?_ (Prod.ext ?_ (Prod.ext ?_ rfl)))<;>rw [Bool.eq_iff_iff]<;>simp [hX,hY,hK,evO,inB,or_assoc,and_assoc]
theorem aoD {p1:Int×Int×Int×Unit→Bool} {f1:Int×Int×Int×Unit→Bool×Unit} (hp1:∀a b c,p1 (a,b,c,())=true) (hf1:∀a b c,f1 (a,b,c,())=(inB a b c,())) (o:IOp):
  X3 (std 0) p1 f1 (o,()) (fun y=>y=(decide (mkV o),())):=by
 dsimp only [X3,Alg.cl,Alg.cg,Alg.rb,Alg.bd,Alg.l1,Tup.q,Tup.o]
 simp (disch:=omega) only [RR,RB,hp1,hf1]
 refine Prod.ext ?_ rfl
 rw [Bool.eq_iff_iff];simp [mkV,inB]
theorem aoE {p1:Int×Int×Int×Unit→Bool} {f1:Int×Int×Int×Unit→Bool×Unit} (hp1:∀a b c,p1 (a,b,c,())=true) (hf1:∀a b c,f1 (a,b,c,())=(inB a b c,())) (o:IOp):
  YV (std 0) p1 f1 (o,()) (fun y=>y=(decide (evO o),())):=by
 dsimp only [YV,Alg.cl,Alg.cg,Alg.rb,Alg.bd,Alg.l1,Tup.q,Tup.o]
 simp (disch:=omega) only [RR,RB,hp1,hf1]
 refine Prod.ext ?_ rfl
 rw [Bool.eq_iff_iff];simp [evO,inB]
theorem aoF {p2:IOp×Unit→Bool} {f2:IOp×Unit→Bool×Unit} (hp2:∀o,p2 (o,())=true) (hf2:∀o,f2 (o,())=(decide (mkV o),()))
  {p1:Int×Int×Int×Unit→Bool} {f1:Int×Int×Int×Unit→Bool×Unit} (hp1:∀a b c,p1 (a,b,c,())=true) (hf1:∀a b c,f1 (a,b,c,())=(inB a b c,())) (b:Blk) (x n:Int) (h0:0≤n) (h1:n≤b.ops.length) (h2:b.ops.length<1000000000):
  X4 (std 0) p2 f2 p1 f1 (b,x,n,()) (fun y=>y=(bp (Vl b.ops x n),())):=by
 dsimp only [X4,Alg.cl,Alg.cg,Alg.rb,Alg.bd,Alg.l1,Tup.q,Tup.o]
 simp (disch:=omega) only [RR,RB,hp1,hf1,hp2,hf2,fF,sw]
 refine⟨by omega,by omega,?_⟩
 refine Prod.ext ?_ rfl
 dsimp only
 rw [Bool.eq_iff_iff,bQ,Bool.and_eq_true,fF,decide_eq_true_eq]
 unfold Vl
 constructor
 ·rintro⟨⟨a1,a2⟩,a3⟩;exact⟨a1,by omega,a3⟩
 ·rintro⟨a1,a2,a3⟩;exact⟨⟨a1,by omega⟩,a3⟩
theorem OH {ops:List IOp} {len i:Int} {o:IOp}:Cz ops len i o↔(1≤o.kind∧o.kind≤8)∧(hX o∧Vl ops o.x i∨¬hX o∧o.x=0)∧(hY o∧Vl ops o.y i∨¬hY o∧o.y=0)∧
  (hK o∧(o.kind=1∧(0≤o.k∧o.k≤65535)∨(o.kind=2∨o.kind=8)∧(0≤o.k∧o.k≤3)∨o.kind=3∧(1≤o.k∧o.k≤5))∨¬hK o∧o.k=0)∧(evO o∧(0≤o.at_∧o.at_<len)∨¬evO o∧o.at_=0):=by
 constructor
 ·rintro⟨kd,x1,x0,y1,y0,k1,k2,k3,k0,a1,a0⟩
  refine⟨kd,?_,?_,?_,?_⟩
  ·by_cases h:hX o
   ·exact Or.inl ⟨h,x1 h⟩
   ·exact Or.inr ⟨h,x0 h⟩
  ·by_cases h:hY o
   ·exact Or.inl ⟨h,y1 h⟩
   ·exact Or.inr ⟨h,y0 h⟩
  ·unfold hK;omega
  ·by_cases h:evO o
   ·exact Or.inl ⟨h,a1 h⟩
   ·exact Or.inr ⟨h,a0 h⟩
 ·rintro⟨kd,x,y,k,a⟩
  refine⟨kd,fun h=> ?_,fun h=> ?_,fun h=> ?_,fun h=> ?_,fun h=> ?_,fun h=> ?_,fun h=> ?_,fun h h'=> ?_,fun h=> ?_,fun h=> ?_⟩
  ·rcases x with x | x
   ·exact x.2
   ·exact absurd h x.1
  ·rcases x with x | x
   ·exact absurd x.1 h
   ·exact x.2
  ·rcases y with y | y
   ·exact y.2
   ·exact absurd h y.1
  ·rcases y with y | y
   ·exact absurd y.1 h
   ·exact y.2
  ·unfold hK at k;omega
  ·unfold hK at k;omega
  ·unfold hK at k;omega
  ·unfold hK at k;omega
  ·rcases a with a | a
   ·exact a.2
   ·exact absurd h a.1
  ·rcases a with a | a
   ·exact absurd a.1 h
   ·exact a.2
theorem aoG {p3:Blk×Int×Int×Unit→Bool} {f3:Blk×Int×Int×Unit→Bool×Unit} (hp3:∀b x n,0≤n→n≤b.ops.length→b.ops.length<1000000000→p3 (b,x,n,())=true) (hf3:∀b x n,0≤n→n≤b.ops.length→b.ops.length<1000000000→f3 (b,x,n,())=(bp (Vl b.ops x n),()))
  {p2:IOp×Unit→Bool} {f2:IOp×Unit→Bool×Bool×Bool×Bool×Unit} (hp2:∀o,p2 (o,())=true) (hf2:∀o,f2 (o,())=(decide (hX o),decide (hY o),decide (hK o),decide (evO o),()))
  {p4:Int×Unit→Bool} {f4:Int×Unit→Bool×Unit} (hp4:∀a,p4 (a,())=true) (hf4:∀a,f4 (a,())=(inB a 0 65535,()))
  {p1:Int×Int×Int×Unit→Bool} {f1:Int×Int×Int×Unit→Bool×Unit} (hp1:∀a b c,p1 (a,b,c,())=true) (hf1:∀a b c,f1 (a,b,c,())=(inB a b c,()))
  {p5:Int×Unit→Bool} {f5:Int×Unit→Bool×Unit} (hp5:∀a,p5 (a,())=true) (hf5:∀a,f5 (a,())=(inB a 1 5,()))
  {p6:Int×Unit→Bool} {f6:Int×Unit→Bool×Unit} (hp6:∀a,p6 (a,())=true) (hf6:∀a,f6 (a,())=(inB a 0 3,()))
  (b:Blk) (i:Int) (h0:0≤i) (h1:i<b.ops.length) (h2:b.ops.length<1000000000) (h3:1≤b.len∧b.len≤8):
  X5 (std 0) p3 f3 p2 f2 p4 f4 p1 f1 p5 f5 p6 f6 (b,i,()) (fun y=>y=(bp (Cz b.ops b.len i ((b.ops).getD (i).toNat default)),())):=by
 have Sq:=fun x=>hp3 b x i h0 (by omega) h2
 have Sr:=fun x=>hf3 b x i h0 (by omega) h2
 dsimp only [X5,Alg.cl,Alg.cg,Alg.rb,Alg.bd,Alg.l1,Tup.q,Tup.o]
 simp (disch:=omega) only [RR,RB,hp1,hf1,hp2,hf2,Sq,Sr,hp4,hf4,hp5,hf5,hp6,hf6,sw]
 refine⟨by omega,by omega,fun h=> ?_,fun h=> ?_⟩
 ·rw [gU (fun g=>h g.kd)]
 ·have h:=fF.1 h
  refine Prod.ext ?_ rfl
  dsimp only
  rw [Bool.eq_iff_iff,bQ,OH]
  generalize ((b.ops).getD (i).toNat default)=o at h ⊢
  simp only [Bool.and_eq_true,Bool.or_eq_true,Bool.not_eq_true',decide_eq_true_eq,decide_eq_false_iff_not,bQ,fF,h,true_and,and_true]
  have e:∀ {a:Int},(0≤a∧a≤b.len-1)↔(0≤a∧a<b.len):=fun {a}=>by omega
  have k:(bif decide (o.kind=1)then inB o.k 0 65535 else bif decide (o.kind=2)then inB o.k 0 3 else bif decide (o.kind=3)then inB o.k 1 5 else(decide (o.kind=8)&&inB o.k 0 3))=true↔(o.kind=1∧(0≤o.k∧o.k≤65535)∨(o.kind=2∨o.kind=8)∧(0≤o.k∧o.k≤3)∨o.kind=3∧(1≤o.k∧o.k≤5)):=by
   rcases(by omega:o.kind=1∨o.kind=2∨o.kind=3∨o.kind=8∨(o.kind≠1∧o.kind≠2∧o.kind≠3∧o.kind≠8))with c | c | c | c | ⟨c1,c2,c3,c4⟩
   ·simp [c,inB]
   ·simp [c,inB]
   ·simp [c,inB]
   ·simp [c,inB]
   ·simp [c1,c2,c3,c4]
  rw [k]
  simp only [e,and_assoc]
theorem adB (b:Blk):Ya (std 0) (b,()) (fun y=>y=(decide (b.fin≠1),decide (3≤b.fin),decide (b.fin≠2),())):=by
 dsimp only [Ya,Alg.cl,Alg.cg,Alg.rb,Alg.bd,Alg.l1,Tup.q,Tup.o]
 simp (disch:=omega) only [RR,RB]
 refine Prod.ext ?_ (Prod.ext rfl (Prod.ext ?_ rfl))<;>simp
theorem JB {b:Blk}:zD b↔(1≤b.fin∧b.fin≤4)∧(b.fin≠1∧Vl b.ops b.x b.ops.length∨¬b.fin≠1∧b.x=0)∧(3≤b.fin∧Vl b.ops b.y b.ops.length∨¬3≤b.fin∧b.y=0)∧(b.fin≠2∧(0≤b.k∧b.k≤65535)∨¬b.fin≠2∧b.k=0):=by
 constructor
 ·rintro⟨f,x1,x0,y1,y0,k1,k0⟩
  refine⟨f,?_,?_,by omega⟩
  ·by_cases h:b.fin=1
   ·exact Or.inr ⟨fun g=>g h,x0 h⟩
   ·exact Or.inl ⟨h,x1 h⟩
  ·by_cases h:3≤b.fin
   ·exact Or.inl ⟨h,y1 h⟩
   ·exact Or.inr ⟨h,y0 (by omega)⟩
 ·rintro⟨f,x,y,k⟩
  refine⟨f,fun h=> ?_,fun h=> ?_,fun h=> ?_,fun h=> ?_,fun h=>by omega,fun h=>by omega⟩
  ·rcases x with x | x
   ·exact x.2
   ·exact absurd h x.1
  ·rcases x with x | x
   ·exact absurd h x.1
   ·exact x.2
  ·rcases y with y | y
   ·exact y.2
   ·exact absurd h y.1
  ·rcases y with y | y
   ·exact absurd y.1 (by omega)
   ·exact y.2
theorem aoH {p2:Blk×Unit→Bool} {f2:Blk×Unit→Bool×Bool×Bool×Unit} (hp2:∀b,p2 (b,())=true) (hf2:∀b,f2 (b,())=(decide (b.fin≠1),decide (3≤b.fin),decide (b.fin≠2),()))
  {p3:Blk×Int×Int×Unit→Bool} {f3:Blk×Int×Int×Unit→Bool×Unit} (hp3:∀b x n,0≤n→n≤b.ops.length→b.ops.length<1000000000→p3 (b,x,n,())=true) (hf3:∀b x n,0≤n→n≤b.ops.length→b.ops.length<1000000000→f3 (b,x,n,())=(bp (Vl b.ops x n),()))
  {p4:Int×Unit→Bool} {f4:Int×Unit→Bool×Unit} (hp4:∀a,p4 (a,())=true) (hf4:∀a,f4 (a,())=(inB a 0 65535,()))
  {p1:Int×Int×Int×Unit→Bool} {f1:Int×Int×Int×Unit→Bool×Unit} (hp1:∀a b c,p1 (a,b,c,())=true) (hf1:∀a b c,f1 (a,b,c,())=(inB a b c,())) (b:Blk) (h2:b.ops.length<1000000000):
  Yb (std 0) p2 f2 p3 f3 p4 f4 p1 f1 (b,()) (fun y=>y=(bp (zD b),())):=by
 have Sq:=fun x=>hp3 b x b.ops.length (by omega) (Int.le_refl _) h2
 have Sr:=fun x=>hf3 b x b.ops.length (by omega) (Int.le_refl _) h2
 dsimp only [Yb,Alg.cl,Alg.cg,Alg.rb,Alg.bd,Alg.l1,Tup.q,Tup.o]
 simp (disch:=omega) only [RR,RB,hp1,hf1,hp2,hf2,Sq,Sr,hp4,hf4]
 refine Prod.ext ?_ rfl
 dsimp only
 rw [Bool.eq_iff_iff,bQ,JB]
 simp only [Bool.and_eq_true,Bool.or_eq_true,Bool.not_eq_true',decide_eq_true_eq,decide_eq_false_iff_not,bQ,fF,and_assoc]
theorem aoI {p2:Blk×Unit→Bool} {f2:Blk×Unit→Bool×Unit} (hp2:∀b,b.ops.length<1000000000→p2 (b,())=true) (hf2:∀b,b.ops.length<1000000000→f2 (b,())=(bp (zD b),()))
  {p3:Blk×Int×Unit→Bool} {f3:Blk×Int×Unit→Bool×Unit} (hp3:∀(b:Blk) (i:Int),0≤i→i<b.ops.length→b.ops.length<1000000000→1≤b.len∧b.len≤8→p3 (b,i,())=true) (hf3:∀(b:Blk) (i:Int),0≤i→i<b.ops.length→b.ops.length<1000000000→1≤b.len∧b.len≤8→f3 (b,i,())=(bp (Cz b.ops b.len i ((b.ops).getD (i).toNat default)),()))
  {p1:Int×Int×Int×Unit→Bool} {f1:Int×Int×Int×Unit→Bool×Unit} (hp1:∀a b c,p1 (a,b,c,())=true) (hf1:∀a b c,f1 (a,b,c,())=(inB a b c,())) (b:Blk) (h2:b.ops.length<1000000000):
  Ye (std 0) p2 f2 p3 f3 p1 f1 (b,()) (fun y=>y=(bp (dz b),())):=by
 dsimp only [Ye,Alg.cl,Alg.cg,Alg.rb,Alg.bd,Alg.l1,Tup.q,Tup.o]
 simp (disch:=omega) only [RR,RB,hp1,hf1]
 by_cases hl:1≤b.len∧b.len≤8
 ·have hl':=fF.2 hl
  simp (disch:=omega) only [RR,hl',fF,sw]
  refine⟨fun h=> ?_,fun h=> ?_⟩
  ·rw [gU (fun g=> ?_)]
   have g1:=g.pc
   have g2:=g.sz
   omega
  ·refine aA (fun(y:Int×Int×Blk×Unit)=>y.1=b.ops.length∧y.2.2.1=b∧0≤y.2.1∧y.2.1≤b.ops.length∧All y.2.1 (fun i=>Cz b.ops b.len i ((b.ops).getD (i).toNat default))) (fun y=>(b.ops.length-y.2.1).toNat) ⟨rfl,rfl,by simp,by simp,All.zero⟩ ?_
   rintro⟨(n:Int),(i:Int),(b':Blk),⟨⟩⟩ hI
   dsimp only at hI ⊢
   obtain⟨rfl,rfl,h3,h4,h5⟩:=hI
   simp (disch:=omega) only [RR,hp2 b' h2,hf2 b' h2]
   refine⟨fun h6=>⟨hp3 b' i h3 h6 h2 hl,?_⟩,fun h6=> ?_⟩
   ·rw [hf3 b' i h3 h6 h2 hl]
    dsimp only
    refine⟨fun h7=> ?_,fun h7=>⟨⟨by omega,by omega,h5.snoc (bQ.1 h7)⟩,by omega⟩⟩
    rw [gU (fun g=>uP.1 h7 (g.op i h3 h6))]
   ·by_cases he:zD b'
    ·rw [bN he,bN (show dz b' from⟨hl,by omega,by omega,fun j j1 j2=>h5 j j1 (by omega),he⟩)]
    ·rw [gU he,gU (fun g=>he g.en)]
 ·have hl':=sw.2 hl
  simp (disch:=omega) only [RR,hl']
  rw [gU (fun g=>hl g.ln)]
  exact⟨rfl,fun h=>h.1.1.elim⟩
end Go.TX.F
namespace Go.TX.F
open Go Go.AE Go.TX
theorem aii {p1:Int×Int×Int×Unit→Bool} {f1:Int×Int×Int×Unit→Bool×Unit} (hp1:∀a b c,p1 (a,b,c,())=true) (hf1:∀a b c,f1 (a,b,c,())=(inB a b c,())) (k:Int):
  Qo (std 0) p1 f1 (k,()) (fun y=>y=(decide ((1≤k∧k≤4)∨k=6),())):=by
 dsimp only [Qo,Alg.cl,Alg.cg,Alg.rb,Alg.bd,Alg.l1,Tup.q,Tup.o]
 simp (disch:=omega) only [RR,hp1,hf1]
 refine Prod.ext ?_ rfl
 rw [Bool.eq_iff_iff];simp [inB]
theorem aij {p1:Int×Unit→Bool} {f1:Int×Unit→Bool×Unit} (hp1:∀k,p1 (k,())=true) (hf1:∀k,f1 (k,())=(decide ((1≤k∧k≤4)∨k=6),())) (ops:List IOp) (x n:Int) (h1:n≤ops.length):
  Qp (std 0) p1 f1 (ops,x,n,()) (fun y=>y=(bp (Vl ops x n),())):=by
 dsimp only [Qp,Alg.cl,Alg.cg,Alg.rb,Alg.bd,Alg.l1,Tup.q,Tup.o]
 simp (disch:=omega) only [RR,RB,hp1,hf1]
 refine⟨by simp only [Bool.and_eq_false_iff,decide_eq_false_iff_not];omega,by simp only [Bool.and_eq_false_iff,decide_eq_false_iff_not];omega,?_⟩
 refine Prod.ext ?_ rfl
 dsimp only
 rw [Bool.eq_iff_iff,bQ,Bool.and_eq_true,Bool.and_eq_true,decide_eq_true_eq,decide_eq_true_eq,decide_eq_true_eq,and_assoc]
 rfl
theorem aik {p4:Int×Unit→Bool} {f4:Int×Unit→Bool×Unit} (hp4:∀a,p4 (a,())=true) (hf4:∀a,f4 (a,())=(inB a 0 65535,()))
  {p1:Int×Int×Int×Unit→Bool} {f1:Int×Int×Int×Unit→Bool×Unit} (hp1:∀a b c,p1 (a,b,c,())=true) (hf1:∀a b c,f1 (a,b,c,())=(inB a b c,()))
  {p3:List IOp×Int×Int×Unit→Bool} {f3:List IOp×Int×Int×Unit→Bool×Unit} (hp3:∀(ops:List IOp) (x n:Int),n≤ops.length→p3 (ops,x,n,())=true) (hf3:∀(ops:List IOp) (x n:Int),n≤ops.length→f3 (ops,x,n,())=(bp (Vl ops x n),()))
  (ops:List IOp) (i len:Int) (h0:0≤i) (h1:i<ops.length) (h3:1≤len∧len≤8):Qq (std 0) p4 f4 p1 f1 p3 f3 (ops,i,len,()) (fun y=>y=(bp (Cz ops len i ((ops).getD (i).toNat default)),())):=by
 have Sq:=fun x=>hp3 ops x i (by omega)
 have Sr:=fun x=>hf3 ops x i (by omega)
 have e:∀ {a:Int},(0≤a∧a≤len-1)↔(0≤a∧a<len):=fun {a}=>by omega
 dsimp only [Qq,Alg.cl,Alg.cg,Alg.rb,Alg.bd,Alg.l1,Tup.q,Tup.o]
 simp (disch:=omega) only [RR,RB,hp1,hf1,Sq,Sr,hp4,hf4]
 refine⟨by omega,by omega,?_⟩
 rw [show bp (Cz ops len i ((ops).getD (i).toNat default))=bp (_)from uR OH]
 generalize ((ops).getD (i).toNat default)=o
 have go:∀ {c:Bool} {P:Prop},(c=true↔P)→(c,())=(bp P,()):=fun {c P} h=>Prod.ext (by dsimp only;rw [Bool.eq_iff_iff,bQ];exact h) rfl
 refine⟨fun c=> ?_,fun c1=>⟨fun c=> ?_,fun c2=>⟨fun c=> ?_,fun c3=> ?_⟩⟩⟩
 ·refine go ?_
  simp only [Bool.and_eq_true,decide_eq_true_eq,bQ,fF,c,hX,hY,hK,evO,e]
  simp [and_assoc]
 ·refine go ?_
  simp only [Bool.and_eq_true,decide_eq_true_eq,bQ,fF,c,hX,hY,hK,evO,e]
  simp [and_assoc]
 ·refine go ?_
  simp only [Bool.and_eq_true,decide_eq_true_eq,bQ,fF,c,hX,hY,hK,evO,e]
  simp [and_assoc]
 ·by_cases c4:o.kind=4∨o.kind=7
  ·have c5:o.kind≠8:=by omega
   rcases c4 with c | c<;>simp (disch:=omega) only [RR,c,Int.reduceEq]<;>(refine go ?_)<;>simp only [Bool.and_eq_true,decide_eq_true_eq,bQ,fF,c,hX,hY,hK,evO,e]<;>simp [and_assoc]
  ·by_cases c:o.kind=5
   ·simp (disch:=omega) only [RR,c,Int.reduceEq]
    refine go ?_
    simp only [Bool.and_eq_true,decide_eq_true_eq,bQ,fF,c,hX,hY,hK,evO,e]
    simp [and_assoc]
   ·by_cases c':o.kind=6
    ·simp (disch:=omega) only [RR,c',Int.reduceEq]
     refine go ?_
     simp only [Bool.and_eq_true,decide_eq_true_eq,bQ,fF,c',hX,hY,hK,evO,e]
     simp [and_assoc]
    ·by_cases c8:o.kind=8
     ·simp (disch:=omega) only [RR,c8,Int.reduceEq]
      refine go ?_
      simp only [Bool.and_eq_true,decide_eq_true_eq,bQ,fF,c8,hX,hY,hK,evO,e]
      simp [and_assoc]
     ·have n4:¬o.kind=4:=fun h=>c4 (Or.inl h)
      have n7:¬o.kind=7:=fun h=>c4 (Or.inr h)
      simp (disch:=omega) only [RR,n4,n7,c,c',c8]
      rw [gU (fun h=>by have:=h.1;omega)]
theorem ail {p4:Int×Unit→Bool} {f4:Int×Unit→Bool×Unit} (hp4:∀a,p4 (a,())=true) (hf4:∀a,f4 (a,())=(inB a 0 65535,()))
  {p3:List IOp×Int×Int×Unit→Bool} {f3:List IOp×Int×Int×Unit→Bool×Unit} (hp3:∀(ops:List IOp) (x n:Int),n≤ops.length→p3 (ops,x,n,())=true) (hf3:∀(ops:List IOp) (x n:Int),n≤ops.length→f3 (ops,x,n,())=(bp (Vl ops x n),()))
  (b:Blk):Qr (std 0) p4 f4 p3 f3 (b,()) (fun y=>y=(bp (zD b),())):=by
 have Sq:=fun x=>hp3 b.ops x b.ops.length (Int.le_refl _)
 have Sr:=fun x=>hf3 b.ops x b.ops.length (Int.le_refl _)
 dsimp only [Qr,Alg.cl,Alg.cg,Alg.rb,Alg.bd,Alg.l1,Tup.q,Tup.o]
 simp (disch:=omega) only [RR,RB,Sq,Sr,hp4,hf4]
 rw [show bp (zD b)=bp (_)from uR JB]
 have go:∀ {c:Bool} {P:Prop},(c=true↔P)→(c,())=(bp P,()):=fun {c P} h=>Prod.ext (by dsimp only;rw [Bool.eq_iff_iff,bQ];exact h) rfl
 refine⟨fun c=> ?_,fun c1=>⟨fun c=> ?_,fun c2=> ?_⟩⟩
 ·refine go ?_
  simp only [Bool.and_eq_true,decide_eq_true_eq,bQ,fF,c]
  simp [and_assoc]
 ·refine go ?_
  simp only [Bool.and_eq_true,decide_eq_true_eq,bQ,fF,c]
  simp [and_assoc]
 ·by_cases c:b.fin=3
  ·simp (disch:=omega) only [RR,c,Int.reduceEq]
   refine go ?_
   simp only [Bool.and_eq_true,decide_eq_true_eq,bQ,fF,c]
   simp [and_assoc]
  ·by_cases c4:b.fin=4
   ·simp (disch:=omega) only [RR,c4,Int.reduceEq]
    refine go ?_
    simp only [Bool.and_eq_true,decide_eq_true_eq,bQ,fF,c4]
    simp [and_assoc]
   ·simp (disch:=omega) only [RR,c,c4]
    rw [gU (fun h=>by have:=h.1;omega)]
theorem ain {p1:Int×Int×Int×Unit→Bool} {f1:Int×Int×Int×Unit→Bool×Unit} (hp1:∀a b c,p1 (a,b,c,())=true) (hf1:∀a b c,f1 (a,b,c,())=(inB a b c,()))
  {p2:Blk×Unit→Bool} {f2:Blk×Unit→Bool×Unit} (hp2:∀b,p2 (b,())=true) (hf2:∀b,f2 (b,())=(bp (zD b),()))
  {p3:List IOp×Int×Int×Unit→Bool} {f3:List IOp×Int×Int×Unit→Bool×Unit} (hp3:∀(ops:List IOp) (i len:Int),0≤i→i<ops.length→1≤len∧len≤8→p3 (ops,i,len,())=true) (hf3:∀(ops:List IOp) (i len:Int),0≤i→i<ops.length→1≤len∧len≤8→f3 (ops,i,len,())=(bp (Cz ops len i ((ops).getD (i).toNat default)),())) (b:Blk) (h2:b.ops.length<1000000000):
  Qs (std 0) p1 f1 p2 f2 p3 f3 (b,()) (fun y=>y=(bp (dz b),())):=by
 dsimp only [Qs,Alg.cl,Alg.cg,Alg.rb,Alg.bd,Alg.l1,Tup.q,Tup.o]
 simp (disch:=omega) only [RR,RB,hp1,hf1]
 by_cases hl:1≤b.len∧b.len≤8
 ·have hl':=fF.2 hl
  simp (disch:=omega) only [RR,hl',fF,sw]
  refine⟨fun h=> ?_,fun h=> ?_⟩
  ·rw [gU (fun g=> ?_)]
   have g1:=g.pc
   have g2:=g.sz
   omega
  ·refine aA (fun(y:Int×Blk×Unit)=>y.2.1=b∧0≤y.1∧y.1≤b.ops.length∧All y.1 (fun i=>Cz b.ops b.len i ((b.ops).getD (i).toNat default))) (fun y=>(b.ops.length-y.1).toNat) ⟨rfl,by simp,by simp,All.zero⟩ ?_
   rintro⟨(i:Int),(b':Blk),⟨⟩⟩ hI
   dsimp only at hI ⊢
   obtain⟨rfl,h3,h4,h5⟩:=hI
   simp (disch:=omega) only [RR,hp2 b',hf2 b']
   refine⟨fun h6=>⟨hp3 b'.ops i b'.len h3 h6 hl,?_⟩,fun h6=> ?_⟩
   ·rw [hf3 b'.ops i b'.len h3 h6 hl]
    dsimp only
    refine⟨fun h7=> ?_,fun h7=>⟨⟨by omega,by omega,h5.snoc (bQ.1 h7)⟩,by omega⟩⟩
    rw [gU (fun g=>uP.1 h7 (g.op i h3 h6))]
   ·by_cases he:zD b'
    ·rw [bN he,bN (show dz b' from⟨hl,by omega,by omega,fun j j1 j2=>h5 j j1 (by omega),he⟩)]
    ·rw [gU he,gU (fun g=>he g.en)]
 ·have hl':=sw.2 hl
  simp (disch:=omega) only [RR,hl']
  rw [gU (fun g=>hl g.ln)]
  exact⟨rfl,fun h=>h.1.1.elim⟩
theorem aoJ {p4:Int×Unit→Bool} {f4:Int×Unit→Bool×Unit} (hp4:∀a,p4 (a,())=true) (hf4:∀a,f4 (a,())=(inB a 0 65535,())) (r a b:Int):
  Zj (std 0) p4 f4 (r,a,b,()) (fun y=>y=(inB a 0 65535&&inB b 0 65535&& (decide (r=1∧a=b∨r=2∧a<b)),())):=by
 dsimp only [Zj,Alg.cl,Alg.cg,Alg.rb,Alg.bd,Alg.l1,Tup.q,Tup.o]
 simp (disch:=omega) only [RR,hp4,hf4]
 refine Prod.ext ?_ rfl
 rw [Bool.eq_iff_iff];simp
theorem aoK {p1:List aj×Unit→Bool} {f1:List aj×Unit→List aj×Unit} (hp1:∀a,Sh a→p1 (a,())=true) (hf1:∀a,Sh a→f1 (a,())=(a,())) (a:List (List aj)) (ha:ShP a):
  Zk (std 0) p1 f1 (a,()) (fun y=>y=(a,())):=by
 have hlen:=ha.1
 dsimp only [Zk,Alg.cl,Alg.cg,Alg.rb,Alg.bd,Alg.l1,Tup.q,Tup.o]
 refine aA (fun(y:List (List aj)×Int×Int×List (List aj)×Unit)=>y.1=a∧y.2.1=a.length∧y.2.2.2.1=a.take y.2.2.1.toNat∧0≤y.2.2.1∧y.2.2.1≤a.length) (fun y=>(a.length-y.2.2.1).toNat) ⟨rfl,rfl,by simp,by simp,by simp⟩ ?_
 rintro⟨(l:List (List aj)),(m:Int),(i:Int),(o:List (List aj)),⟨⟩⟩ hI
 dsimp only at hI ⊢
 obtain⟨rfl,rfl,rfl,h1,h2⟩:=hI
 simp (disch:=omega) only [RR,hp1 _ (ha.at _),hf1 _ (ha.at _)]
 refine⟨fun h4=>⟨by omega,by omega,?_,⟨jG h1 h4 rfl,by omega,by omega⟩,by omega⟩,fun h4=>by rw [List.take_of_length_le (by omega)]⟩
 have:=List.length_take_le' i.toNat l
 simp only [List.length_cons,List.length_nil];omega
theorem aoL {p1:List aj×Unit→Bool} {f1:List aj×Unit→List aj×Unit} (hp1:∀a,Sh a→p1 (a,())=true) (hf1:∀a,Sh a→f1 (a,())=(a,()))
  {p2:List (List aj)×Unit→Bool} {f2:List (List aj)×Unit→List (List aj)×Unit} (hp2:∀a,ShP a→p2 (a,())=true) (hf2:∀a,ShP a→f2 (a,())=(a,())) (s:Sym) (hs:ShY s):
  Zl (std 0) p1 f1 p2 f2 (s,()) (fun y=>y=(s.fin,s.k,s.events,s.regs,s.x,s.y,())):=by
 have hlen:=hs.e.1
 dsimp only [Zl,Alg.cl,Alg.cg,Alg.rb,Alg.bd,Alg.l1,Tup.q,Tup.o]
 simp (disch:=omega) only [RR,RB,hp1 _ hs.x,hf1 _ hs.x,hp1 _ hs.y,hf1 _ hs.y,hp2 _ hs.r,hf2 _ hs.r]
 refine aA (fun(y:List Ev×Int×Int×Int×Int×Int×Int×List Ev×List (List aj)×List aj×List aj×Unit)=>y.1=s.events∧y.2.1=s.events.length∧y.2.2.2.2.2.1=s.fin∧y.2.2.2.2.2.2.1=s.k∧y.2.2.2.2.2.2.2.1=s.events.take y.2.2.1.toNat∧y.2.2.2.2.2.2.2.2.1=s.regs∧y.2.2.2.2.2.2.2.2.2.1=s.x∧y.2.2.2.2.2.2.2.2.2.2.1=s.y∧0≤y.2.2.1∧y.2.2.1≤s.events.length) (fun y=>(s.events.length-y.2.2.1).toNat) ⟨rfl,rfl,rfl,rfl,by simp,rfl,rfl,rfl,by simp,by simp⟩ ?_
 rintro⟨(l:List Ev),(m:Int),(i:Int),(q1:Int),(q2:Int),(q3:Int),(q4:Int),(o:List Ev),(r:List (List aj)),(u:List aj),(v:List aj),⟨⟩⟩ hI
 dsimp only at hI ⊢
 obtain⟨rfl,rfl,rfl,rfl,rfl,rfl,rfl,rfl,h1,h2⟩:=hI
 have he:=hs.e.at i.toNat
 simp (disch:=omega) only [RR,RB,hp1 _ he.1,hf1 _ he.1,hp1 _ he.2.1,hf1 _ he.2.1,hp2 _ he.2.2,hf2 _ he.2.2]
 refine⟨fun h4=>⟨by omega,by omega,?_,⟨jG h1 h4 rfl,by omega,by omega⟩,by omega⟩,fun h4=>by rw [List.take_of_length_le (by omega)]⟩
 have:=List.length_take_le' i.toNat s.events
 simp only [List.length_cons,List.length_nil];omega
end Go.TX.F
namespace Go.TX.F
open Go Go.AE Go.TX
theorem aoM {p1:Int×Unit→Bool} {f1:Int×Unit→List aj×Unit} (hp1:∀n,p1 (n,())=true) (hf1:∀n,f1 (n,())=(dB n,()))
  {p2:List Atom×Atom×Unit→Bool} {f2:List Atom×Atom×Unit→List Atom×Int×Unit} (hp2:∀(t:List Atom) a,t.length<1000000000→ShA a→p2 (t,a,())=true) (hf2:∀(t:List Atom) a,t.length<1000000000→ShA a→f2 (t,a,())=((bf t a).1,(bf t a).2,()))
  (kd k:Int) (t:List Atom) (fl:Bool) (ht:t.length<1000000000):
  YF (std 0) p1 f1 p2 f2 (kd,k,t,fl,()) (fun y=>y=if(bf t ⟨kd,k,[],[]⟩).2<0 then([],t,true,())else(dB (bf t ⟨kd,k,[],[]⟩).2,(bf t ⟨kd,k,[],[]⟩).1,fl,())):=by
 have sa:ShA ⟨kd,k,[],[]⟩:=⟨nJ,nJ⟩
 dsimp only [YF,Alg.cl,Alg.cg,Alg.rb,Alg.bd,Alg.l1,Tup.q,Tup.o]
 simp (disch:=omega) only [RR,hp1,hf1,hp2 _ _ ht sa,hf2 _ _ ht sa]
 exact⟨fun h=>by rw [if_pos h],fun h=>by rw [if_neg h]⟩
theorem U9 (t:List Atom) (n:Nat):rN t (n+1)=((bf (rN t n).1 ⟨1,n,[],[]⟩).1,(rN t n).2++ [dB (bf (rN t n).1 ⟨1,n,[],[]⟩).2]):=rfl
theorem aoN {p1:Int×Int×List Atom×Bool×Unit→Bool} {f1:Int×Int×List Atom×Bool×Unit→List aj×List Atom×Bool×Unit} (hp1:∀kd k (t:List Atom) fl,t.length<1000000000→p1 (kd,k,t,fl,())=true)
  (hf1:∀kd k (t:List Atom) fl,t.length<1000000000→f1 (kd,k,t,fl,())=if(bf t ⟨kd,k,[],[]⟩).2<0 then([],t,true,())else(dB (bf t ⟨kd,k,[],[]⟩).2,(bf t ⟨kd,k,[],[]⟩).1,fl,()))
  (t:List Atom) (fl:Bool) (ht:aG t) (hl:t.length≤196):YK (std 0) p1 f1 (t,fl,()) (fun y=>y=((rN t 4).1,fl,(rN t 4).2,())):=by
 dsimp only [YK,Alg.cl,Alg.cg,Alg.rb,Alg.bd,Alg.l1,Tup.q,Tup.o]
 refine aA (fun(y:Int×List Atom×Bool×List (List aj)×Unit)=>0≤y.1∧y.1≤4∧y.2.2.1=fl∧y.2.1=(rN t y.1.toNat).1∧y.2.2.2.1=(rN t y.1.toNat).2) (fun y=>(4-y.1).toNat) ⟨by simp,by simp,rfl,rfl,rfl⟩ ?_
 rintro⟨(i:Int),(u:List Atom),(g:Bool),(r:List (List aj)),⟨⟩⟩ hI
 dsimp only at hI ⊢
 obtain⟨h1,h2,rfl,rfl,rfl⟩:=hI
 have ok:=Ca ht hl i.toNat (by omega)
 have l1:=ok.tl
 have l2:=ok.r4
 simp (disch:=omega) only [RR,hp1 _ _ (rN t i.toNat).1 _ (by omega),hf1 _ _ (rN t i.toNat).1 _ (by omega),List.length_cons,List.length_nil]
 refine⟨fun h3=> ?_,fun h3=> ?_⟩
 ·have hp:=HZ ht hl (n:=i.toNat) (by omega)
  rw [show((i.toNat:Nat):Int)=i by omega]at hp
  rw [if_neg (by omega)]
  have e:(i+1).toNat=i.toNat+1:=by omega
  have e2:((i.toNat:Nat):Int)=i:=by omega
  refine⟨by omega,⟨by omega,by omega,rfl,?_,?_⟩,by omega⟩
  ·rw [e,U9,e2]
  ·rw [e,U9,e2]
 ·rw [show i.toNat=4 by omega]
theorem aoO (a:List (List aj)) (h0:0<a.length) (h1:a.length<1000000000):YX (std 0) (a,()) (fun y=>y=(a,a,())):=by
 dsimp only [YX,Alg.cl,Alg.cg,Alg.rb,Alg.bd,Alg.l1,Tup.q,Tup.o]
 simp (disch:=omega) only [RR,List.length_nil]
 exact⟨by omega,by omega,rfl⟩
theorem aoP {p2:List Atom×Unit→Bool} {f2:List Atom×Unit→List Atom×Unit} (hp2:∀a,ShT a→p2 (a,())=true) (hf2:∀a,ShT a→f2 (a,())=(a,()))
  {p1:List Atom×Bool×Unit→Bool} {f1:List Atom×Bool×Unit→List Atom×Bool×List (List aj)×Unit} (hp1:∀(t:List Atom) fl,aG t→t.length≤196→p1 (t,fl,())=true) (hf1:∀(t:List Atom) fl,aG t→t.length≤196→f1 (t,fl,())=((rN t 4).1,fl,(rN t 4).2,())):
  YQ (std 0) p2 f2 p1 f1 () (fun y=>y.1=t4):=by
 have s4:ShT t4:=OD.1.sh
 unfold t4 at s4 ⊢
 dsimp only [YQ,Alg.cl,Alg.cg,Alg.rb,Alg.bd,Alg.l1,Tup.q,Tup.o]
 simp (disch:=omega) only [RR,hp1 [] false mK (by simp),hf1 [] false mK (by simp),hp2 _ s4,hf2 _ s4]
theorem aoQ {p1:List aj×Unit→Bool} {f1:List aj×Unit→Int×Bool×Unit} (hp1:∀a,Sh a→p1 (a,())=true) (hf1:∀a,Sh a→f1 (a,())=((dL a).1,(dL a).2,()))
  {p2:List aj×Unit→Bool} {f2:List aj×Unit→Bool×Unit} (hp2:∀a,Sh a→p2 (a,())=true) (hf2:∀a,Sh a→f2 (a,())=(bp (aO a),()))
  {p3:List aj×List aj×Unit→Bool} {f3:List aj×List aj×Unit→Int×Unit} (hp3:∀a b,Sh a→p3 (a,b,())=true) (hf3:∀a b,Sh a→f3 (a,b,())=(dP a b,()))
  {p4:Sym×Unit→Bool} {f4:Sym×Unit→Int×Int×List Ev×List (List aj)×List aj×List aj×Unit} (hp4:∀s,ShY s→p4 (s,())=true) (hf4:∀s,ShY s→f4 (s,())=(s.fin,s.k,s.events,s.regs,s.x,s.y,()))
  {p5:List aj×List aj×Unit→Bool} {f5:List aj×List aj×Unit→Bool×Unit} (hp5:∀a b,Sh a→p5 (a,b,())=true) (hf5:∀a b,Sh a→f5 (a,b,())=(decide (dP a b=0),()))
  {p6:Int×Int×Int×Unit→Bool} {f6:Int×Int×Int×Unit→Bool×Unit} (hp6:∀r a b,p6 (r,a,b,())=true) (hf6:∀r a b,f6 (r,a,b,())=(inB a 0 65535&&inB b 0 65535&& (decide (r=1∧a=b∨r=2∧a<b)),()))
  (s:Sym) (n:Int) (hs:ShY s) (h0:0≤s.fin) (h1:s.fin≤4):Zm (std 0) p1 f1 p2 f2 p3 f3 p4 f4 p5 f5 p6 f6 (s,n,()) (fun y=>y=(symEnd s n,())):=by
 dsimp only [Zm,Alg.cl,Alg.cg,Alg.rb,Alg.bd,Alg.l1,Tup.q,Tup.o]
 simp (disch:=omega) only [RR,RB,hp1 _ hs.x,hf1 _ hs.x,hp1 _ hs.y,hf1 _ hs.y,hp2 _ hs.x,hf2 _ hs.x,hp2 _ hs.y,hf2 _ hs.y,hp3 _ _ hs.x,hf3 _ _ hs.x,hp4 s hs,hf4 s hs,hp5 _ _ hs.x,hf5 _ _ hs.x,hp6,hf6]
 have xy:dP s.x s.y=0↔s.x=s.y:=gT
 have rx:(dL s.x).2=true→inB (dL s.x).1 0 65535=true:=fun h=>fF.2 (HV h).2.2
 have ry:(dL s.y).2=true→inB (dL s.y).1 0 65535=true:=fun h=>fF.2 (HV h).2.2
 unfold symEnd
 refine⟨fun h=> ?_,fun h=>⟨fun g=> ?_,fun g=>⟨fun k=> ?_,fun k=>⟨fun l=>⟨fun m=> ?_,fun m=> ?_⟩,fun l=>⟨fun m=> ?_,fun m=> ?_⟩⟩⟩⟩⟩
 ·rw [if_pos (by rw [uQ,Bool.and_eq_false_iff];exact h)];rfl
 all_goals rw [if_neg (by rw [uQ,h.1,h.2];simp)]
 ·rw [if_pos g]
 all_goals rw [if_neg (show¬(s.fin=2∧(dL s.x).2=true) by
  rintro⟨a,b⟩;rw [decide_eq_true a,b]at g;cases g)]
 ·rw [if_pos k]
 all_goals rw [if_neg (show¬(s.fin≠3∧s.fin≠4) by
  rintro⟨a,b⟩;rw [decide_eq_false a,decide_eq_false b]at k;cases k)]
 ·rw [if_pos (by rw [←xy];exact l),if_neg]
  rintro(⟨q1,q2⟩ | ⟨⟨q1,q2⟩,q3⟩)
  ·have:=m.1;rw [decide_eq_true (xy.2 q1),decide_eq_true q2]at this;cases this
  ·have:=m.2
   rw [q1,q2,rx q1,ry q2,decide_eq_true (by omega)]at this;cases this
 ·rw [if_pos (by rw [←xy];exact l),if_pos]
  rcases m with⟨q1,q2⟩ | ⟨q1,_,q3⟩
  ·exact Or.inl ⟨xy.1 q1,q2⟩
  ·exact Or.inr ⟨q1,by omega⟩
 all_goals rw [if_neg (show¬(s.x=s.y∨(dL s.x).2=true∧(dL s.y).2=true) by
  rintro(q | ⟨q1,q2⟩)
  ·exact l.1 (xy.2 q)
  ·have:=l.2;rw [q1,q2]at this;cases this)]
 ·rw [if_pos m]
 ·rw [if_neg]
  rintro⟨a,b⟩;rw [decide_eq_true a,decide_eq_true b]at m;cases m
end Go.TX.F
namespace Go.TX.F
open Go Go.AE Go.TX
noncomputable def SW (t:List Atom) (b:Blk) (i:Nat):SS:=(b.ops.take i).foldl stp (s0 t)
structure At (t:List Atom) (b:Blk) (i:Nat) (ld inn:Int) (tb:List Atom) (V:List (List aj)) (ev:List Ev) (rg:List (List aj)):Prop where
 ld:ld=(SW t b i).ld
 inn:inn=(SW t b i).inn
 tb:tb=(SW t b i).t
 V:V=(SW t b i).vals++List.replicate (b.ops.length-i) []
 ev:ev=(SW t b i).evs
 rg:rg=(SW t b i).regs
theorem At.arF {t:List Atom} {b:Blk} {i:Nat} {ld inn:Int} {tb:List Atom} {V:List (List aj)} {ev:List Ev} {rg:List (List aj)} (h:At t b i ld inn tb V ev rg) (hv:(SW t b i).vals.length=i) (hi:i≤b.ops.length):V.length=b.ops.length:=by
 rw [h.V,List.length_append,List.length_replicate,hv];omega
theorem Va (t:List Atom):∀(l:List IOp) (s:SS),(l.foldl stp s).evs.length≤s.evs.length+l.length
 | [],s=>Nat.le_refl _
 | o::r,s=>by
  rw [List.foldl_cons,List.length_cons]
  have h1:=Va t r (stp s o)
  have h2:(stp s o).evs.length≤s.evs.length+1:=by
   show(nE s o).length≤_
   unfold nE;split
   ·rw [List.length_append];exact Nat.le_refl _
   ·omega
  omega
theorem aio {t:List Atom} {b:Blk} (i:Nat) (hi:i≤b.ops.length):(SW t b i).evs.length≤i:=by
 have:=Va t (b.ops.take i) (s0 t)
 rw [List.length_take,Nat.min_eq_left hi]at this
 show((b.ops.take i).foldl stp (s0 t)).evs.length≤i
 have e:(s0 t).evs.length=0:=rfl
 omega
theorem acJ {t:List Atom} {b:Blk} {i:Nat} (hi:i<b.ops.length):SW t b (i+1)=stp (SW t b i) (b.ops.getD i default):=by
 unfold SW;rw [nM _ _ hi,getD_lt hi]
theorem At.next {t:List Atom} {b:Blk} {i:Nat} {ld inn:Int} {tb:List Atom} {V:List (List aj)} {ev:List Ev} {rg:List (List aj)} (h:At t b i ld inn tb V ev rg) (hv:(SW t b i).vals.length=i) (hi:i<b.ops.length) {o:IOp} (ho:b.ops.getD i default=o)
  {ld' aaj:Int} {tb':List Atom} {V':List (List aj)} {ev':List Ev} {rg':List (List aj)} (h1:ld'=if o.kind=4 then ld+1 else ld) (h2:aaj=if o.kind=6 then inn+1 else inn) (h3:tb'=nT (SW t b i) o) (h4:V'=V.set i (nV (SW t b i) o)) (h5:ev'=nE (SW t b i) o) (h6:rg'=nR (SW t b i) o):At t b (i+1) ld' aaj tb' V' ev' rg':=by
 have e:=acJ (t:=t) hi
 rw [ho]at e
 refine⟨?_,?_,?_,?_,?_,?_⟩<;>rw [e]
 ·rw [h1,h.ld];rfl
 ·rw [h2,h.inn];rfl
 ·exact h3
 ·rw [h4,h.V]
  show _=((SW t b i).vals++ [nV (SW t b i) o])++_
  rw [List.set_append_right _ _ (by omega),hv,Nat.sub_self,show b.ops.length-i=(b.ops.length- (i+1))+1 by omega,List.replicate_succ,List.set_cons_zero,List.append_assoc];rfl
 ·exact h5
 ·exact h6
set_option maxHeartbeats 1000000 in
theorem aoR {p1:Blk×Unit→Bool} {f1:Blk×Unit→Bool×Bool×Bool×Unit} (hp1:∀b,p1 (b,())=true) (hf1:∀b,f1 (b,())=(decide (b.fin≠1),decide (3≤b.fin),decide (b.fin≠2),()))
  {p2:Blk×Unit→Bool} {f2:Blk×Unit→Bool×Unit} (hp2:∀b,b.ops.length<1000000000→p2 (b,())=true) (hf2:∀b,b.ops.length<1000000000→f2 (b,())=(bp (dz b),()))
  {p3:IOp×Unit→Bool} {f3:IOp×Unit→Bool×Unit} (hp3:∀o,p3 (o,())=true) (hf3:∀o,f3 (o,())=(decide (evO o),()))
  {p4:IOp×Unit→Bool} {f4:IOp×Unit→Bool×Bool×Bool×Bool×Unit} (hp4:∀o,p4 (o,())=true) (hf4:∀o,f4 (o,())=(decide (hX o),decide (hY o),decide (hK o),decide (evO o),()))
  {p5:Int×Unit→Bool} {f5:Int×Unit→List aj×Unit} (hp5:∀n,p5 (n,())=true) (hf5:∀n,f5 (n,())=(aP n,()))
  {p6:Sym×Int×Unit→Bool} {f6:Sym×Int×Unit→Sym×Unit} (hp6:∀s n,ShY s→0≤s.fin→s.fin≤4→p6 (s,n,())=true) (hf6:∀s n,ShY s→0≤s.fin→s.fin≤4→f6 (s,n,())=(symEnd s n,()))
  {p7:List Atom×Unit→Bool} {f7:List Atom×Unit→Bool×Unit} (hp7:∀a,ShT a→p7 (a,())=true) (hf7:∀a,ShT a→f7 (a,())=(bp (aG a),()))
  {p8:List Atom×Unit→Bool} {f8:List Atom×Unit→List Atom×Unit} (hp8:∀a,ShT a→p8 (a,())=true) (hf8:∀a,ShT a→f8 (a,())=(a,()))
  {p9:List Atom×Int×List aj×List aj×Unit→Bool} {f9:List Atom×Int×List aj×List aj×Unit→List Atom×List aj×Bool×Unit} (hp9:∀(t:List Atom) op x y,t.length<1000000000→Sh x→Sh y→p9 (t,op,x,y,())=true)
  (hf9:∀(t:List Atom) op x y,t.length<1000000000→Sh x→Sh y→(f9 (t,op,x,y,())).1=(tDo t op x y).1∧(f9 (t,op,x,y,())).2.1=(tDo t op x y).2∧(f9 (t,op,x,y,())).2.2.1=tOk t op x y)
  {p10:Int×Int×List Atom×Bool×Unit→Bool} {f10:Int×Int×List Atom×Bool×Unit→List aj×List Atom×Bool×Unit} (aoS:∀kd k (t:List Atom) fl,t.length<1000000000→p10 (kd,k,t,fl,())=true)
  (arG:∀kd k (t:List Atom) fl,t.length<1000000000→f10 (kd,k,t,fl,())=if(bf t ⟨kd,k,[],[]⟩).2<0 then([],t,true,())else(dB (bf t ⟨kd,k,[],[]⟩).2,(bf t ⟨kd,k,[],[]⟩).1,fl,()))
  {p11:List Atom×Bool×Unit→Bool} {f11:List Atom×Bool×Unit→List Atom×Bool×List (List aj)×Unit} (arH:∀(t:List Atom) fl,aG t→t.length≤196→p11 (t,fl,())=true) (arI:∀(t:List Atom) fl,aG t→t.length≤196→f11 (t,fl,())=((rN t 4).1,fl,(rN t 4).2,()))
  {p12:List (List aj)×Unit→Bool} {f12:List (List aj)×Unit→List (List aj)×List (List aj)×Unit} (aoT:∀a:List (List aj),0<a.length→a.length<1000000000→p12 (a,())=true) (aoU:∀a:List (List aj),0<a.length→a.length<1000000000→f12 (a,())=(a,a,()))
  (t:List Atom) (b:Blk) (ht:ShT t) (hb:b.ops.length<1000000000):Zn (std 0) p1 f1 p2 f2 p3 f3 p4 f4 p5 f5 p6 f6 p7 f7 p8 f8 p9 f9 p10 f10 p11 f11 p12 f12 (t,b,()) (fun y=>y=((bC t b).1,(bC t b).2,())):=by
 have hlt:=ht.1
 dsimp only [Zn,Alg.cl,Alg.cg,Alg.rb,Alg.bd,Alg.l1,Tup.q,Tup.o]
 simp (disch:=omega) only [RR,RB,hp7 t ht,hf7 t ht,hp2 b hb,hf2 b hb]
 by_cases c:aG t∧t.length≤100∧dz b
 case neg=>
  refine⟨fun _=> ?_,fun h=> ?_⟩
  ·unfold bC;rw [gU c];rfl
  ·exact absurd ⟨bQ.1 h.1.1,by omega,bQ.1 h.2⟩ c
 obtain⟨c1,c2,c3⟩:=c
 simp (disch:=omega) only [RR,bN c1,bN c3,arH t false c1 (by omega),arI t false c1 (by omega)]
 have sz:=c3.sz
 have hop:=c3.op
 have hk3:=c3.k3
 have i0:=zG c1 (by omega)
 have siw:∀j:Nat,j≤b.ops.length→SI (t.length+4) j (SW t b j):=fun j hj=>by
  have:=(yE (b.ops.take j) 0 (s0 t) i0 (fun o ho=>hk3 o (List.mem_of_mem_take ho)) (by rw [List.length_take];omega) (by rw [List.length_take];omega)).1
  rw [List.length_take,Nat.min_eq_left hj,Nat.zero_add]at this;exact this
 refine⟨fun h=>absurd h (by omega),fun _=>⟨by omega,by omega,?_⟩⟩
 refine aA (fun(y:Int×Int×List IOp×Int×Int×Blk×Int×Int×List Atom×Bool×Int×Int×List (List aj)×List Ev×List (List aj)×Unit)=>y.2.2.2.2.2.1=b∧y.2.2.1=b.ops∧y.2.2.2.1=b.ops.length∧y.2.2.2.2.2.2.2.2.2.1=false∧y.2.2.2.2.2.2.2.2.2.2.1=b.fin∧y.2.2.2.2.2.2.2.2.2.2.2.1=b.k∧
   0≤y.2.2.2.2.1∧y.2.2.2.2.1≤b.ops.length∧At t b y.2.2.2.2.1.toNat y.1 y.2.1 y.2.2.2.2.2.2.2.2.1 y.2.2.2.2.2.2.2.2.2.2.2.2.1 y.2.2.2.2.2.2.2.2.2.2.2.2.2.1 y.2.2.2.2.2.2.2.2.2.2.2.2.2.2.1) (fun y=>(b.ops.length-y.2.2.2.2.1).toNat)
  ⟨rfl,rfl,rfl,rfl,rfl,rfl,by simp,by simp,⟨rfl,rfl,rfl,rfl,rfl,rfl⟩⟩ ?_
 rintro⟨(ld:Int),(inn:Int),(ops:List IOp),(n:Int),(i:Int),(b':Blk),(z1:Int),(z2:Int),(tb:List Atom),(fl:Bool),(fin:Int),(kk:Int),(V:List (List aj)),(ev:List Ev),(rg:List (List aj)),⟨⟩⟩ hI
 dsimp only at hI ⊢
 obtain⟨e1,e2,e3,e4,e5,e6,h1,h2,hA⟩:=hI
 subst e1 e2 e3 e4 e5 e6
 have hl:V.length=b'.ops.length:=hA.arF (siw i.toNat (by omega)).vl (by omega)
 have si:=siw i.toNat (by omega)
 obtain⟨a1,a2,a3,a4,a5,a6⟩:=hA
 have tl:tb.length<1000000000:=by rw [a3];have:=si.tl;omega
 have r4:rg.length=4:=by rw [a6];exact si.r4
 have evl:ev.length≤i.toNat:=by rw [a5];exact aio i.toNat (by omega)
 by_cases h7:i<b'.ops.length
 case neg=>
  have en:=c3.en
  have hf:=en.f
  have hpc:=c3.pc
  have hln:=c3.ln
  have ein:i.toNat=b'.ops.length:=by omega
  have eS:SW t b' i.toNat=cB t b':=by unfold SW cB;rw [ein,List.take_of_length_le (Nat.le_refl _)]
  rw [eS]at a1 a2 a3 a4 a5 a6 si
  have eV:V=(cB t b').vals:=by rw [a4,ein,Nat.sub_self];simp
  clear a4
  have pk:=KL (b:=b') si
  have eR:=jq c1 c2 c3
  have sh:ShY (jo b' (cB t b')):=by
   have i0:=zG c1 (by omega)
   have hs:=Sc b'.ops 0 (s0 t) i0 hk3 (by omega) (by omega) ⟨by simp [s0],fun e he=>absurd he (by simp [s0])⟩
   exact⟨⟨by have:=hs.1;show(b'.ops.foldl stp (s0 t)).evs.length<_;omega,hs.2⟩,si.regs,pk.1.sh,pk.2.sh⟩
  have st:=si.tok.sh
  have q6:=hp6 (jo b' (cB t b')) (b'.pc+b'.len) sh (by show 0≤b'.fin;omega) hf.2
  have r6:=hf6 (jo b' (cB t b')) (b'.pc+b'.len) sh (by show 0≤b'.fin;omega) hf.2
  subst a1 a2 a3 a5 a6 eV
  have x1:=en.x1
  have y1:=en.y1
  have sl:=si.vl
  have E:jo b' (cB t b')=⟨(cB t b').evs,(cB t b').regs,b'.fin,if b'.fin=1 then []else(((cB t b').vals).getD (b'.x).toNat default),if 3≤b'.fin then(((cB t b').vals).getD (b'.y).toNat default)else [],b'.k⟩:=rfl
  rw [E]at q6 r6
  rcases(by omega:b'.fin=1∨b'.fin=2∨3≤b'.fin)with c | c | c
  ·have n2:¬3≤b'.fin:=by omega
   rw [if_pos c,if_neg n2]at q6 r6
   simp (disch:=omega) only [RR,RB,h7,hp1,hf1,decide_eq_false n2,c,ne_eq,not_true_eq_false,decide_false,hp8 _ st,hf8 _ st]
   rw [c]at q6 r6
   rw [eR,E,if_pos c,if_neg n2,c]
   exact⟨fun h=>absurd h (by omega),fun _=>⟨q6,by rw [r6]⟩⟩
  ·have n1:b'.fin≠1:=by omega
   have n2:¬3≤b'.fin:=by omega
   obtain⟨v1,v2,_⟩:=x1 n1
   rw [if_neg n1,if_neg n2]at q6 r6
   simp (disch:=omega) only [RR,RB,h7,hp1,hf1,decide_eq_true n1,decide_eq_false n2,hp8 _ st,hf8 _ st]
   rw [eR,E,if_neg n1,if_neg n2]
   exact⟨v1,by omega,v1,by omega,q6,by rw [r6]⟩
  ·have n1:b'.fin≠1:=by omega
   obtain⟨v1,v2,_⟩:=x1 n1
   obtain⟨w1,w2,_⟩:=y1 c
   rw [if_neg n1,if_pos c]at q6 r6
   simp (disch:=omega) only [RR,RB,h7,hp1,hf1,decide_eq_true n1,decide_eq_true c,hp8 _ st,hf8 _ st]
   rw [eR,E,if_neg n1,if_pos c]
   exact⟨v1,by omega,v1,by omega,w1,by omega,w1,by omega,q6,by rw [r6]⟩
 have hok:=hop i h1 h7
 have nxt:=fun {ld' aaj:Int} {tb':List Atom} {V':List (List aj)} {ev':List Ev} {rg':List (List aj)}=>At.next (t:=t) (b:=b') (i:=i.toNat) (o:=((b'.ops).getD (i).toNat default)) ⟨a1,a2,a3,a4,a5,a6⟩ si.vl (by omega) rfl (ld':=ld') (aaj:=aaj) (tb':=tb') (V':=V') (ev':=ev') (rg':=rg')
 have ei:(i+1).toNat=i.toNat+1:=by omega
 have vx:∀j:Int,0≤j→j<i→((V).getD (j).toNat default)=(((SW t b' i.toNat).vals).getD (j).toNat default):=fun j j1 j2=>by
  have:=si.vl
  rw [a4,getD_lt (by rw [List.length_append];omega),getD_lt (by omega),List.getElem_append_left]
 have ex:hX ((b'.ops).getD (i).toNat default)→((V).getD ((((b'.ops).getD (i).toNat default)).x).toNat default)=xOf (SW t b' i.toNat) ((b'.ops).getD (i).toNat default):=fun h=>by
  unfold xOf;rw [if_pos h];exact vx _ (hok.x1 h).1 (hok.x1 h).2.1
 have ey:hY ((b'.ops).getD (i).toNat default)→((V).getD ((((b'.ops).getD (i).toNat default)).y).toNat default)=yOf (SW t b' i.toNat) ((b'.ops).getD (i).toNat default):=fun h=>by
  unfold yOf;rw [if_pos h];exact vx _ (hok.y1 h).1 (hok.y1 h).2.1
 have v0:V.set i.toNat []=V:=by
  have:=si.vl
  rw [a4,List.set_append_right _ _ (by omega),this,Nat.sub_self,show b'.ops.length-i.toNat=(b'.ops.length- (i.toNat+1))+1 by omega,List.replicate_succ,List.set_cons_zero]
 obtain⟨sn,so⟩:=yD (o:=((b'.ops).getD (i).toNat default)) si hok.k3 (by omega) (by omega)
 have gl:=si.ld
 have gi:=si.inn
 have shx:=(si.x ((b'.ops).getD (i).toNat default)).1.sh
 have shy:=(si.y ((b'.ops).getD (i).toNat default)).1.sh
 generalize hs:SW t b' i.toNat=s at*
 generalize ho:((b'.ops).getD (i).toNat default)=o at*
 have kd:=hok.kd
 subst a1 a2 a3 a5 a6
 have L0:o.kind≠4→s.ld=if o.kind=4 then s.ld+1 else s.ld:=fun h=>by rw [if_neg h]
 have I0:o.kind≠6→s.inn=if o.kind=6 then s.inn+1 else s.inn:=fun h=>by rw [if_neg h]
 have T0:o.kind≠3→o.kind≠4→o.kind≠6→s.t=nT s o:=fun h3 h4 h6=>by unfold nT;rw [if_neg h3,if_neg (by omega)]
 have R0:o.kind≠8→s.regs=nR s o:=fun h=>by unfold nR;rw [if_neg h]
 have E0:¬evO o→s.evs=nE s o:=fun h=>by unfold nE;rw [if_neg h]
 have V0:o.kind=5∨o.kind=7∨o.kind=8→V=V.set i.toNat (nV s o):=fun h=>by
  rw [show nV s o=[] by unfold nV;rw [if_neg (by omega),if_neg (by omega),if_neg (by omega),if_neg (by omega)],v0]
 have P0:∀kd k,0≤(bf s.t ⟨kd,k,[],[]⟩).2→f10 (kd,k,s.t,false,())=(dB (bf s.t ⟨kd,k,[],[]⟩).2,(bf s.t ⟨kd,k,[],[]⟩).1,false,()):=fun kd k h=>by
  rw [arG _ _ _ _ tl,if_neg (by omega)]
 have y0:¬hY o→yOf s o=[]:=fun h=>by unfold yOf;rw [if_neg h]
 have x0:¬hX o→xOf s o=[]:=fun h=>by unfold xOf;rw [if_neg h]
 rcases(by omega:o.kind=1∨o.kind=2∨o.kind=3∨o.kind=4∨o.kind=5∨o.kind=6∨o.kind=7∨o.kind=8)with c | c | c | c | c | c | c | c
 ·have dX:decide (hX o)=false:=decide_eq_false (by unfold hX;omega)
  have dY:decide (hY o)=false:=decide_eq_false (by unfold hY;omega)
  have dE:decide (evO o)=false:=decide_eq_false (by unfold evO;omega)
  have N:At t b' (i.toNat+1) s.ld s.inn s.t (V.set i.toNat (aP o.k)) s.evs s.regs:=nxt (L0 (by omega)) (I0 (by omega)) (T0 (by omega) (by omega) (by omega)) (by unfold nV;rw [if_pos c]) (E0 (by unfold evO;omega)) (R0 (by omega))
  simp (disch:=omega) only [RR,RB,ho,h7,hp4,hf4,hp3,hf3,dX,dY,dE,c,Int.reduceEq,List.length_cons,List.length_nil,hp5,hf5]
  repeat' apply And.intro
  all_goals first | omega | (rw [ei];exact N)
 ·have dX:decide (hX o)=false:=decide_eq_false (by unfold hX;omega)
  have dY:decide (hY o)=false:=decide_eq_false (by unfold hY;omega)
  have dE:decide (evO o)=false:=decide_eq_false (by unfold evO;omega)
  have k2:=hok.k2 (Or.inl c)
  have N:At t b' (i.toNat+1) s.ld s.inn s.t (V.set i.toNat ((s.regs).getD (o.k).toNat default)) s.evs s.regs:=nxt (L0 (by omega)) (I0 (by omega)) (T0 (by omega) (by omega) (by omega)) (by unfold nV;rw [if_neg (by omega),if_pos c]) (E0 (by unfold evO;omega)) (R0 (by omega))
  simp (disch:=omega) only [RR,RB,ho,h7,hp4,hf4,hp3,hf3,dX,dY,dE,c,Int.reduceEq,List.length_cons,List.length_nil,r4]
  repeat' apply And.intro
  all_goals first | omega | (rw [ei];exact N)
 ·have dX:decide (hX o)=true:=decide_eq_true (by unfold hX;omega)
  have dY:decide (hY o)=true:=decide_eq_true (by unfold hY;omega)
  have dE:decide (evO o)=false:=decide_eq_false (by unfold evO;omega)
  have v1:=hok.x1 (by unfold hX;omega)
  have v2:=hok.y1 (by unfold hY;omega)
  have u1:=v1.2.1
  have u2:=v2.2.1
  have w1:=v1.1
  have w2:=v2.1
  obtain⟨d1,d2,d3⟩:=hf9 s.t o.k _ _ tl shx shy
  have d4:=(so.d c).ok
  have N:At t b' (i.toNat+1) s.ld s.inn (tDo s.t o.k (xOf s o) (yOf s o)).1 (V.set i.toNat (tDo s.t o.k (xOf s o) (yOf s o)).2) s.evs s.regs:=nxt (L0 (by omega)) (I0 (by omega)) (by unfold nT;rw [if_pos c]) (by unfold nV;rw [if_neg (by omega),if_neg (by omega),if_pos c]) (E0 (by unfold evO;omega)) (R0 (by omega))
  simp (disch:=omega) only [RR,RB,ho,h7,hp4,hf4,hp3,hf3,dX,dY,dE,c,Int.reduceEq,List.length_cons,List.length_nil,ex (by unfold hX;omega),ey (by unfold hY;omega),hp9 s.t o.k _ _ tl shx shy,d1,d2,d3,d4]
  repeat' apply And.intro
  all_goals first | omega | (rw [ei];exact N)
 ·have dX:decide (hX o)=true:=decide_eq_true (by unfold hX;omega)
  have dY:decide (hY o)=false:=decide_eq_false (by unfold hY;omega)
  have dE:decide (evO o)=true:=decide_eq_true (by unfold evO;omega)
  have v1:=hok.x1 (by unfold hX;omega)
  have u1:=v1.2.1
  have w1:=v1.1
  have ea:aOf s o=⟨2,s.ld,[],[]⟩:=by unfold aOf;rw [if_pos c]
  have pp:=so.p (Or.inl c)
  rw [ea]at pp
  have N:At t b' (i.toNat+1) (s.ld+1) s.inn (bf s.t ⟨2,s.ld,[],[]⟩).1 (V.set i.toNat (dB (bf s.t ⟨2,s.ld,[],[]⟩).2)) (s.evs++ [⟨4,o.at_,xOf s o,[],s.regs⟩]) s.regs:=nxt (by rw [if_pos c]) (I0 (by omega)) (by unfold nT;rw [if_neg (by omega),if_pos (Or.inl c),ea]) (by unfold nV;rw [if_neg (by omega),if_neg (by omega),if_neg (by omega),if_pos (Or.inl c),ea]) (by unfold nE;rw [if_pos (by unfold evO;omega),if_pos (Or.inl c),c,y0 (by unfold hY;omega)]) (R0 (by omega))
  simp (disch:=omega) only [RR,RB,ho,h7,hp4,hf4,hp3,hf3,dX,dY,dE,c,Int.reduceEq,List.length_cons,List.length_nil,ex (by unfold hX;omega),aoT s.regs (by omega) (by omega),aoU s.regs (by omega) (by omega),aoS 2 s.ld s.t false tl,P0 2 s.ld pp]
  repeat' apply And.intro
  all_goals first | omega | (rw [ei];exact N)
 ·have dX:decide (hX o)=true:=decide_eq_true (by unfold hX;omega)
  have dY:decide (hY o)=true:=decide_eq_true (by unfold hY;omega)
  have dE:decide (evO o)=true:=decide_eq_true (by unfold evO;omega)
  have v1:=hok.x1 (by unfold hX;omega)
  have v2:=hok.y1 (by unfold hY;omega)
  have u1:=v1.2.1
  have u2:=v2.2.1
  have w1:=v1.1
  have w2:=v2.1
  have N:At t b' (i.toNat+1) s.ld s.inn s.t V (s.evs++ [⟨5,o.at_,xOf s o,yOf s o,s.regs⟩]) s.regs:=nxt (L0 (by omega)) (I0 (by omega)) (T0 (by omega) (by omega) (by omega)) (V0 (by omega)) (by unfold nE;rw [if_pos (by unfold evO;omega),if_pos (Or.inr c),c]) (R0 (by omega))
  simp (disch:=omega) only [RR,RB,ho,h7,hp4,hf4,hp3,hf3,dX,dY,dE,c,Int.reduceEq,List.length_cons,List.length_nil,ex (by unfold hX;omega),ey (by unfold hY;omega),aoT s.regs (by omega) (by omega),aoU s.regs (by omega) (by omega)]
  repeat' apply And.intro
  all_goals first | omega | (rw [ei];exact N)
 ·have dX:decide (hX o)=false:=decide_eq_false (by unfold hX;omega)
  have dY:decide (hY o)=false:=decide_eq_false (by unfold hY;omega)
  have dE:decide (evO o)=true:=decide_eq_true (by unfold evO;omega)
  have ea:aOf s o=⟨3,s.inn,[],[]⟩:=by unfold aOf;rw [if_neg (by omega)]
  have pp:=so.p (Or.inr c)
  rw [ea]at pp
  have N:At t b' (i.toNat+1) s.ld (s.inn+1) (bf s.t ⟨3,s.inn,[],[]⟩).1 (V.set i.toNat (dB (bf s.t ⟨3,s.inn,[],[]⟩).2)) (s.evs++ [⟨6,o.at_,[],[],[]⟩]) s.regs:=nxt (L0 (by omega)) (by rw [if_pos c]) (by unfold nT;rw [if_neg (by omega),if_pos (Or.inr c),ea]) (by unfold nV;rw [if_neg (by omega),if_neg (by omega),if_neg (by omega),if_pos (Or.inr c),ea]) (by unfold nE;rw [if_pos (by unfold evO;omega),if_neg (by omega),c,x0 (by unfold hX;omega),y0 (by unfold hY;omega)]) (R0 (by omega))
  simp (disch:=omega) only [RR,RB,ho,h7,hp4,hf4,hp3,hf3,dX,dY,dE,c,Int.reduceEq,List.length_cons,List.length_nil,aoS 3 s.inn s.t false tl,P0 3 s.inn pp]
  repeat' apply And.intro
  all_goals first | omega | (rw [ei];exact N)
 ·have dX:decide (hX o)=true:=decide_eq_true (by unfold hX;omega)
  have dY:decide (hY o)=false:=decide_eq_false (by unfold hY;omega)
  have dE:decide (evO o)=true:=decide_eq_true (by unfold evO;omega)
  have v1:=hok.x1 (by unfold hX;omega)
  have u1:=v1.2.1
  have w1:=v1.1
  have N:At t b' (i.toNat+1) s.ld s.inn s.t V (s.evs++ [⟨7,o.at_,xOf s o,[],[]⟩]) s.regs:=nxt (L0 (by omega)) (I0 (by omega)) (T0 (by omega) (by omega) (by omega)) (V0 (by omega)) (by unfold nE;rw [if_pos (by unfold evO;omega),if_neg (by omega),c,y0 (by unfold hY;omega)]) (R0 (by omega))
  simp (disch:=omega) only [RR,RB,ho,h7,hp4,hf4,hp3,hf3,dX,dY,dE,c,Int.reduceEq,List.length_cons,List.length_nil,ex (by unfold hX;omega)]
  repeat' apply And.intro
  all_goals first | omega | (rw [ei];exact N)
 ·have dX:decide (hX o)=true:=decide_eq_true (by unfold hX;omega)
  have dY:decide (hY o)=false:=decide_eq_false (by unfold hY;omega)
  have dE:decide (evO o)=false:=decide_eq_false (by unfold evO;omega)
  have v1:=hok.x1 (by unfold hX;omega)
  have u1:=v1.2.1
  have w1:=v1.1
  have k2:=hok.k2 (Or.inr c)
  have N:At t b' (i.toNat+1) s.ld s.inn s.t V s.evs (s.regs.set o.k.toNat (xOf s o)):=nxt (L0 (by omega)) (I0 (by omega)) (T0 (by omega) (by omega) (by omega)) (V0 (by omega)) (E0 (by unfold evO;omega)) (by unfold nR;rw [if_pos c])
  simp (disch:=omega) only [RR,RB,ho,h7,hp4,hf4,hp3,hf3,dX,dY,dE,c,Int.reduceEq,List.length_cons,List.length_nil,ex (by unfold hX;omega),r4]
  repeat' apply And.intro
  all_goals first | omega | (rw [ei];exact N)
end Go.TX.F
