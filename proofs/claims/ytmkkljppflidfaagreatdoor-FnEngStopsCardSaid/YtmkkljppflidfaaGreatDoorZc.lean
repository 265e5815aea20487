/- Part 3 of a proof: what the last part needs. No condition. -/
import Derived.Test.YtmkkljppflidfaaGreatDoorZb
import Derived.Test.YtmkkljppflidfaaGreatDoorProg
import Derived.KernelRfl
set_option maxHeartbeats 1000000
set_option linter.all false
set_option linter.unusedSectionVars false
set_option linter.unusedVariables false
set_option linter.unusedSimpArgs false
namespace Go.TX
open Go Go.AE List
structure FM{ρ:Type}(m:(ρ->Prop)->Prop):Prop where
 mono:∀Q Q':ρ->Prop,(∀y,Q y->Q' y)->m Q->m Q'
 one:∀Q:ρ->Prop,m Q->∃y,Q y/\m (λz=>z=y)
 two:∀Q Q':ρ->Prop,m Q->m Q'->∃y,Q y/\Q' y
section
variable {n:Nat} {ρ:Type}
theorem FM.fail:FM (λ_:ρ->Prop=>False):=⟨λ_ _ _ h=>h,λ_ h=>h.elim,λ_ _ h=>h.elim⟩
theorem FM.ret(t:ρ):FM (λQ:ρ->Prop=>Q t):=⟨λ_ _ h a=>h _ a,λ_ a=>⟨t,a,rfl⟩,λ_ _ h g=>⟨t,h,g⟩⟩
theorem FM.bind{α:Type}{m:(α->Prop)->Prop}{k:α->(ρ->Prop)->Prop}(hm:FM m)(hk:∀t,FM (k t)):FM (λQ=>m λt=>k t Q):=
 ⟨λQ d h a=>hm.mono _ _ (λt i=>(hk t).mono _ _ h i) a,λQ a=>by
  obtain⟨t,c,b⟩:=hm.one _ a;obtain⟨y,j,f⟩:=(hk t).one _ c;exact⟨y,j,hm.mono _ _ (λl e=>by subst e;exact f) b⟩,λQ d h g=>by
  obtain⟨t,c,b⟩:=hm.two _ _ h g;exact(hk t).two _ _ c b⟩
theorem FM.yO{α:Type}{m:(α ⊕ ρ->Prop)->Prop}{k:α->(ρ->Prop)->Prop}(hm:FM m)(hk:∀t,FM (k t)):FM (λQ=>m (GD k Q)):=
 ⟨λQ l h c=>hm.mono _ _ (λt d=>by
  cases t with
  | inl x=>exact(hk x).mono _ _ h d
  | inr r=>exact h _ d) c,λQ c=>by
  obtain⟨t,b,a⟩:=hm.one _ c;cases t with
  | inl x=>
   obtain⟨y,j,i⟩:=(hk x).one _ b;exact⟨y,j,hm.mono _ _ (λf e=>by subst e;exact i) a⟩
  | inr r=>exact⟨r,b,hm.mono _ _ (λf e=>by subst e;rfl) a⟩,λQ l h g=>by
  obtain⟨t,b,a⟩:=hm.two _ _ h g;cases t with
  | inl x=>exact(hk x).two _ _ b a
  | inr r=>exact⟨r,b,a⟩⟩
theorem FM.itW{α:Type}{f:α->(α ⊕ ρ->Prop)->Prop}(a:∀x,FM (f x)):∀(N:Nat) (x:α),FM (TX.itW N f x)
 | 0,x=>by simp_all [TX.itW,fail]
 | N+1,x=>by
  have e:TX.itW (N+1) f x=λQ=>f x (GD (TX.itW N f) Q):=by funext Q;rw [TX.itW]
  rw [e];exact .yO (a x) (FM.itW a N)
theorem E8{α:Type}{k b:α->(ρ->Prop)->Prop}{Q a:ρ->Prop}(hk:∀x,k x Q->b x a)(c:∀y,Q y->a y):∀s,GD k Q s->GD b a s
 | .inl x=>hk x
 | .inr r=>c r
theorem UM{α:Type}{f:α->(α ⊕ ρ->Prop)->Prop}(a:∀x,FM (f x)){Q:ρ->Prop}:∀ {N M:Nat} {x:α},N<=M->TX.itW N f x Q->TX.itW M f x Q
 | 0,_,_,_,h=>by grind [TX.itW]
 | N+1,0,_,h,_=>absurd h ah
 | N+1,M+1,x,h,g=>by
  rw [TX.itW]at g ⊢;exact(a x).mono _ _ (E8 (λy k=>UM a ah k) (λ_ k=>k)) g
theorem JE{α:Type}{f:α->(α ⊕ ρ->Prop)->Prop}(c:∀x,FM (f x)){x:α}{Q:ρ->Prop}(h:ab3 f x Q):∃r,Q r/\∃N,TX.itW N f x (λz=>z=r):=by
 obtain⟨I,μ,g,k⟩:=h;have b:∀(n:Nat) (y:α),μ y<n->I y->∃r,Q r/\∃N,TX.itW N f y (λz=>z=r):=by
  intro n
  induction n with
  | zero=>intro y h;omega
  | succ n l=>
   intro y o j;obtain⟨s,a,d⟩:=(c y).one _ (k y j);cases s with
   | inl z=>
    obtain⟨r,i,N,m⟩:=l z (by have:=a.2;omega) a.1;refine⟨r,i,N+1,?_⟩;rw [TX.itW];exact(c y).mono _ _ (λs e=>by subst e;exact m) d
   | inr r=>
    refine⟨r,a,1,?_⟩;rw [TX.itW];exact(c y).mono _ _ (λs e=>by subst e;rfl) d
 exact b _ x (Nat.lt_succ_self _) g
theorem FM.iter{α:Type}{f:α->(α ⊕ ρ->Prop)->Prop}(a:∀x,FM (f x))(x:α):FM (λQ=>ab3 f x Q):=by
 refine⟨λQ p h ⟨I,μ,l,o⟩=>⟨I,μ,l,λy i=>(a y).mono _ _ (E8 (λ_ h=>h) h) (o y i)⟩,λQ h=> ?_,λQ p h g=> ?_⟩
 rotate_left
 .obtain⟨r,d,N,j⟩:=JE a h;obtain⟨t,n,M,m⟩:=JE a g;obtain⟨z,rfl,rfl⟩:=(FM.itW a (max N M) x).two _ _ (UM a (Nat.le_max_left ..) j) (UM a (Nat.le_max_right ..) m);exact⟨_,d,n⟩
 obtain⟨r,d,N,j⟩:=JE a h;refine⟨r,d,?_⟩;have b:∀y,(∃N,TX.itW N f y (λz=>z=r))->∃N,TX.itW N f y (λz=>z=r)/\∀M,M<N->¬TX.itW M f y (λz=>z=r):=by
  intro y ⟨N,q⟩
  induction N using Nat.strongRecOn with
  | ind N v=>grind
 have c:∀y,∃N,(∃N,TX.itW N f y (λz=>z=r))->TX.itW N f y (λz=>z=r)/\∀M,M<N->¬TX.itW M f y (λz=>z=r):=λy=>by
  by_cases h:∃N,TX.itW N f y (λz=>z=r)
  .obtain⟨N,q⟩:=b y h;grind
  simp_all
 obtain⟨ν,hν⟩:=Classical.axiomOfChoice c;refine⟨λy=>∃N,TX.itW N f y (λz=>z=r),ν,⟨N,j⟩,λy i=> ?_⟩;obtain⟨e,s⟩:=hν y i;cases hn:ν y with
 | zero=>grind [TX.itW]
 | succ k=>
  rw [hn]at e;rw [TX.itW]at e;refine(a y).mono _ _ (E8 (λz u=> ?_) (λ_ h=>h)) e
  grind
theorem FM.chk{b:Bool}{m:(ρ->Prop)->Prop}(h:FM m):FM (λQ=>b=true/\m Q):=
 ⟨λ_ _ e ⟨a,c⟩=>⟨a,h.mono _ _ e c⟩,λ_ ⟨a,c⟩=>let⟨y,f,g⟩:=h.one _ c;⟨y,f,a,g⟩,λ_ _ ⟨_,c⟩ ⟨_,d⟩=>h.two _ _ c d⟩
theorem FM.jc{m:(ρ->Prop)->Prop}(h:FM m):∀(ps:List Bool),FM (TX.jc (std n) ps m)
 | []=>h
 | _::ps=> .chk (FM.jc h ps)
theorem FM.cond{b:Bool}{x y:(ρ->Prop)->Prop}(e:FM x)(d:FM y):FM (λQ=>(b=true->x Q)/\(b=false->y Q)):=
 ⟨λ_ _ f ⟨a,c⟩=>⟨λh=>e.mono _ _ f (a h),λh=>d.mono _ _ f (c h)⟩,λ_ ⟨a,c⟩=>by
  cases b with
  | true=>obtain⟨y,i,k⟩:=e.one _ (a rfl);grind
  | false=>obtain⟨y,i,k⟩:=d.one _ (c rfl);grind,λ_ _ ⟨a,c⟩ ⟨g,j⟩=>by
  cases b with
  | true=>exact e.two _ _ (a rfl) (g rfl)
  | false=>exact d.two _ _ (c rfl) (j rfl)⟩
theorem FM.bind'{a:List LTy}{m:(jr a->Prop)->Prop}{k:jr a->(ρ->Prop)->Prop}(hm:FM m)(hk:∀t,FM (k t)):FM ((std n).bind a m k):=by simp_all [FM.bind]
theorem FM.apP{a:List LTy}{m:(jr a ⊕ ρ->Prop)->Prop}{k:jr a->(ρ->Prop)->Prop}(hm:FM m)(hk:∀t,FM (k t)):FM ((std n).yO a m k):=by simp_all [FM.yO]
theorem FM.inl'{a:List LTy}(t:jr a):FM ((std n).inl (ρ:=ρ) a t):=FM.ret _
theorem FM.inr'{a:List LTy}{m:(ρ->Prop)->Prop}(h:FM m):FM ((std n).inr (ρ:=ρ) a m):=by simp_all [FM.bind,jr,FM.ret]
theorem FM.iter'{a:List LTy}{f:jr a->(jr a ⊕ ρ->Prop)->Prop}(b:∀x,FM (f x))(x:jr a):FM ((std n).iter a f x):=FM.iter b x
theorem FM.ret'{a:List LTy}(t:jr a):FM ((std n).ret a t):=FM.ret t
theorem FM.use{c:CR (std n)}{K:SVal->List aQ->(ρ->Prop)->Prop}(h:∀v k,FM (K v k)):FM (wZ (std n) c K):=by
 obtain⟨f,d,y,k,e,p⟩:=c;unfold wZ;cases d with
 | nil=>grind [fail]
 | cons a b=>grind [fail]
end
theorem za:∀(a:List LTy),Nonempty (jr a)
 | []=>⟨()⟩
 | t::r=>by
  obtain⟨y⟩:=za r;have x:Nonempty (LT aH t):=by
   cases t with
   | i=>exact⟨(0:Int)⟩
   | b=>exact⟨false⟩
   | s=>exact⟨(default:ByteArray)⟩
   | l c=>exact⟨([]:List c.den)⟩
   | x c=>exact⟨(default:c.den)⟩
  obtain⟨x⟩:=x;exact⟨(x,y)⟩
noncomputable def cn {s:Sig} (F:jr s.inp->(jr s.out->Prop)->Prop):Ct aH s:=
 {pre:=λx=> @decide (∃y,F x λz=>z=y) (Classical.propDecidable _)
  fn:=λx=> @Classical.epsilon _ (za _) λy=>F x λz=>z=y}
structure Fn(E:Tab)(f:FuncId){s:Sig}(F:jr s.inp->(jr s.out->Prop)->Prop)(c:Ct aH s):Prop where
 e:c=cn F
 fm:∀x,FM (F x)
 ok:dV E f (dP c)
theorem Fn.cs{E:Tab}{f:FuncId}{s:Sig}{F:jr s.inp->(jr s.out->Prop)->Prop}{c:Ct aH s}(h:Fn E f F c){x:jr s.inp}{Q:jr s.out->Prop}(g:F x Q):c.pre x=true/\Q (c.fn x):=by
 rw [h.e];obtain⟨y,i,a⟩:=(h.fm x).one _ g;have e:∃y,F x λz=>z=y:=⟨y,a⟩
 refine⟨by grind [cn,decide_eq_true,Classical.propDecidable],?_⟩;obtain⟨z,b,d⟩:=(h.fm x).two _ _ g (@Classical.epsilon_spec _ (λy=>F x λz=>z=y) e)
 grind [cn]
variable [aB]
section
variable {n:Nat} {ρ:Type}
theorem FM.region{X:XT}{C:Calls aH}{ops:List Oper}{K:RSt (std n)->(ρ->Prop)->Prop}(hK:∀s,FM (K s)):∀(a:List Oper) (s:RSt (std n)),FM (fP (std n) X C ops a K s)
 | [],s=>by unfold fP;exact hK s
 | o::a,s=>by
  have b:=FM.region (X:=X) (C:=C) (ops:=ops) hK a;unfold fP;split
  .split
   .split
    .split
     .refine FM.jc ?_ _;rw [Hy];exact b _
     .exact .fail
    .split
     .exact FM.jc (FM.use λv k=>b _) _
     .exact .fail
   .split
    .split
     .exact b _
     .split
      .split
       .exact FM.jc (b _) _
       .exact .fail
      .split
       .split
        .exact FM.jc (FM.use λv k=>b _) _
        .exact .cond (FM.jc (FM.use λv k=>b _) _) (b _)
       .exact .fail
     .exact .fail
    .exact .fail
  .exact .fail
theorem FM.draw{X:XT}{C:Calls aH}{ops:List Oper}{K:RSt (std n)->(ρ->Prop)->Prop}(hK:∀s,FM (K s)):∀(a:List fV) (c:List (Nat×List Nat)) (s:RSt (std n)),FM (je (std n) X C ops a c K s)
 | [],c,s=>by unfold je;exact hK s
 | (i,rs,cs)::a,c,s=>by
  have b:=FM.draw (X:=X) (C:=C) (ops:=ops) hK a;unfold je;split
  .exact .fail
  split
  .simp only
   repeat' split
   all_goals first
    | exact .fail
    | exact b _ _
    | exact FM.jc (b _ _) _
    | exact FM.jc (FM.use λv k=>b _ _) _
    | exact .cond (FM.jc (FM.use λv k=>b _ _) _) (b _ _)
    | (refine FM.jc ?_ _;rw [Hy];exact b _ _)
  .exact .fail
theorem FM.cut{k:Nat}{c:dZ}{d:Bool}{s:RSt (std n)}{K:Exit->RSt (std n)->(ρ->Prop)->Prop}(hK:∀e s,FM (K e s)){W: {σ:Type}->(Exit->RSt (std n)->(σ->Prop)->Prop)->(σ->Prop)->Prop}
  (a:∀ {σ:Type} {b:Exit->RSt (std n)->(σ->Prop)->Prop},(∀e s,FM (b e s))->FM (W b)):FM (Uz (std n) k c d s K W):=by
 unfold Uz;split
 .refine FM.bind' (a λe s=> ?_) (λt=>hK _ _);split
  .split
   .exact FM.jc (FM.ret' _) _
   .exact .fail
  .exact .fail
 .refine FM.apP (a λe s=> ?_) (λt=>hK _ _);split
  .split
   .exact FM.jc (FM.inl' _) _
   .exact .fail
  .exact FM.inr' (hK _ _)
theorem FM.reg{X:XT}{C:Calls aH}{b:Nat->List fV}{chk:Nat->Array Oper->Nat->Bool}{id:Nat}{a:Array Oper}{draw:Bool}{s:RSt (std n)}{K:Exit->RSt (std n)->(ρ->Prop)->Prop}(hK:∀e s,FM (K e s)):
 FM ((if draw then(if chk id a s.m then je (std n) X C a.toList (b id) [] (λs=>K .normal s) s else(std n).fail)else fP (std n) X C a.toList a.toList (λs=>K .normal s) s:(std n).M ρ)):=by grind [FM.draw,fail,FM.region]
end
theorem FM.exec{n:Nat}{X:XT}{C:Calls aH}{m:Nat->List fV}{chk:Nat->Array Oper->Nat->Bool}{k:Nat}:∀(q:Code) {ρ:Type} (d:Ann) (s:RSt (std n)) (K:Exit->RSt (std n)->(ρ->Prop)->Prop),(∀e s,FM (K e s))->FM (bR (std n) X C m chk k d q s K)
  | .skip,ρ,d,s,K,hK=>by cases d<;>exact hK _ _
  | .region id ops draw,ρ,d,s,K,hK=>by
    simp only [bR];split
    · exact FM.cut hK λf=>FM.reg f
    · exact FM.reg hK
  | .seq x y,ρ,d,s,K,hK=>by
    have c:∀l r (j:Exit->RSt (std n)->(ρ->Prop)->Prop),(∀a,j .normal a=bR (std n) X C m chk k r y a K)->(∀e a,e≠ .normal->j e a=K e a)->FM (bR (std n) X C m chk k l x s j):=by
      intro l r j t v;refine FM.exec x l s j λe a=> ?_
      by_cases p:e= .normal
      · subst p;rw [t];exact FM.exec y r a K hK
      · rw [v e a p];exact hK _ _
    cases d with
    | seq l r=>rw [bR];exact c l r _ (λ_=>rfl) (λe a p=>by cases e<;>first | rfl | exact absurd rfl p)
    | u=>rw [bR];exact c .u .u _ (λ_=>rfl) (λe a p=>by cases e<;>first | rfl | exact absurd rfl p)
    | _=>simp only [bR];exact .fail
  | .cond cd x y,ρ,d,s,K,hK=>by
    simp only [bR];split
    · split
      · exact .cond (FM.exec x _ s K hK) (FM.exec y _ s K hK)
      · exact .cond (FM.exec x _ s K hK) (FM.exec y _ s K hK)
      · exact FM.cut hK λf=> .cond (FM.exec x _ s _ f) (FM.exec y _ s _ f)
      · exact .fail
    · exact .fail
  | .block id b,ρ,d,s,K,hK=>by
    have c:∀ {σ:Type} {g:Exit->RSt (std n)->(σ->Prop)->Prop},(∀e s,FM (g e s))->∀l (j:Exit->RSt (std n)->(σ->Prop)->Prop),(∀e a,j e a=g e a\/j e a=g .normal a)->FM (bR (std n) X C m chk k l b s j):=by
      intro σ g f l j t;refine FM.exec b l s j λe a=> ?_
      rcases t e a with h | h<;>rw [h]<;>exact f _ _
    have o:∀ {σ:Type} {g:Exit->RSt (std n)->(σ->Prop)->Prop} (e:Exit) (a:RSt (std n)),(match e with | .exit i=>if i==id then g .normal a else g (.exit i) a | e=>g e a:(std n).M σ)=g e a\/(match e with | .exit i=>if i==id then g .normal a else g (.exit i) a | e=>g e a:(std n).M σ)=g .normal a:=by
      intro σ g e a;cases e with
      | exit i => simp only; split
                  · exact .inr rfl
                  · exact .inl rfl
      | _=>exact .inl rfl
    simp only [bR];split
    · exact c hK _ _ o
    · exact c hK _ _ o
    · exact FM.cut hK λf=>c f _ _ o
    · exact .fail
  | .loop b,ρ,d,s,K,hK=>by
    cases d with
    | loop w l=>
      rw [bR];split
      · refine FM.jc (FM.iter' (λx=>FM.exec b l _ _ λe a=> ?_) _) _;split
        · split
          · exact FM.jc (FM.inl' _) _
          · exact .fail
        · exact FM.inr' (hK _ _)
      · exact .fail
    | _=>simp only [bR];exact .fail
  | .exit i,ρ,d,s,K,hK=>by cases d<;>exact hK _ _
  | .ret,ρ,d,s,K,hK=>by cases d<;>exact hK _ _
  | .rangeFunc ..,ρ,d,s,K,hK=>by grind [bR,fail]
  | .scope _,ρ,d,s,K,hK=>by grind [bR,fail]
  | .label _,ρ,d,s,K,hK=>by grind [bR,fail]
  | .goto _,ρ,d,s,K,hK=>by grind [bR,fail]
  | .refuse _,ρ,d,s,K,hK=>by grind [bR,fail]
theorem FM.run{n:Nat}{X:XT}{C:Calls aH}{ord:Nat->List fV}{chk:Nat->Array Oper->Nat->Bool}{an:Ann}{b:Sig}{c:Func}{a:Code}(x:jr b.inp):FM (uW (std n) X C ord chk an b c a x):=by
 unfold uW;split
 .exact .fail
 .split
  .split
   .refine FM.exec a an _ _ λe s=> ?_
    have d:FM (adU (std n) X b c s):=by
     unfold adU;split
     .split
      .split
       .split
        .split
         .exact FM.jc (FM.ret' _) _
         .exact .fail
        .exact .fail
       .exact .fail
      .exact .fail
     .exact .fail
    grind [fail]
   .exact .fail
  .exact .fail
def ofL(C:Car)(l:List (FuncId×Sigma (Ct C))):Calls C:=λf=>(l.filter λp=>p.1==f).map (·.2)
def ad7(l:List (Nat×List fV))(i:Nat):List fV:=match l.find? λp=>p.1==i with | some p=>p.2 | none=> []
def amB(E:Tab)(l:List (Nat×List fV))(id:Nat)(a:Array Oper)(m:Nat):Bool:=Oj a.toList (ad7 l id)&&Dp E m a.toList&&Om E.P a.toList
theorem amC{E:Tab}{l:List (Nat×List fV)}:∀id a m,amB E l id a m=true->Static E (ad7 l) id a m:=λ_ _ _ h=>h
theorem apQ{E:Tab}{l:List (FuncId×Sigma (Ct aH))}(h:∀p∈l,dV E p.1 (dP p.2.2)):ug E (nP (ofL aH l)):=by
 intro f R e;unfold nP at e;split at e
 .cases e
 .cases e;rename_i g;have b:∀c∈ofL aH l f,dV E f (dP c.2):=λc a=>by
   obtain⟨p,i,rfl⟩:=mem_map.1 a
   grind
  obtain⟨c,a⟩:=exists_mem_of_ne_nil _ g;exact⟨(b c a).enters,λd h n K ⟨c,a,hk⟩=>(b c a).calls d h n K hk⟩
def Ru(X:XT)(E:Tab)(A:Alg)(ord:List (Nat×List fV))(an:Ann)(s:Sig)(a:Func)(l:List (FuncId×Sigma (Ct A.aA)))(F:Tup A.aA s.inp->A.M (Tup A.aA s.out)):Prop:=
 ∀x,uW A X (ofL A.aA l) (ad7 ord) (amB E ord) an s a (a.body.getD .skip) x=F x
section
variable {X:XT} {E:Tab} (hE:aM E) (hX:XOK X E) (hm:E.P.follows .mixedOrders=true)
include hE hX hm
theorem az2{f:FuncId}{e:Func}(m:E.P.funcs[f]? =some e)(g:e.body.isSome=true)(b:∀c,e.body=some c->Enters E.P f){l:List (FuncId×Sigma (Ct aH))}(n:∀p∈l,dV E p.1 (dP p.2.2)){ord:List (Nat×List fV)}{h:Sig}{an:Ann}
  {F:jr h.inp->(jr h.out->Prop)->Prop} (d:Ru X E (std 0) ord an h e l F):Fn E f F (cn F):=by
 obtain⟨a,g⟩:=Option.isSome_iff_exists.1 g;have j:∀x,uW (std 0) X (ofL aH l) (ad7 ord) (amB E ord) an h e a x=F x:=λx=>by have:=d x;simp_all
 have i:∀x,FM (F x):=λx=>by rw [<-j x];exact FM.run x
 refine⟨rfl,i,awh hE hX (apQ n) hm (ord:=ad7 ord) (chk:=amB E ord) amC m g (b _ g) (an:=an) (λx k=> ?_)⟩;rw [j x];simp only [cn]at k;exact @Classical.epsilon_spec _ (λy=>F x λz=>z=y) (@of_decide_eq_true _ (Classical.propDecidable _) k)
end
abbrev aB.z:aB:=⟨[],[]⟩
abbrev Tup.q{C:Car}{a b c d:LTy}{ts:List LTy}(x:Tup C (a::b::c::d::ts)):Tup C ts:=x.2.2.2.2
abbrev Tup.o{C:Car}{a b c d e f g h:LTy}{i:List LTy}(x:Tup C (a::b::c::d::e::f::g::h::i)):Tup C i:=x.2.2.2.2.2.2.2.2
abbrev Pt(A:Alg)(s:Sig):Type:=Tup A.aA s.inp->A.B
abbrev Ft(A:Alg)(s:Sig):Type:=Tup A.aA s.inp->Tup A.aA s.out
abbrev Ot(A:Alg)(s:Sig):Type:=A.M (Tup A.aA s.out)
structure Al(A:Alg) where
 n:Int->A.I
 z:A.I
 u:A.I
 T:A.B
 F:A.B
 e:A.I->A.I->A.B
 d:A.I->A.I->A.B
 l:A.I->A.I->A.B
 m:A.I->A.I->A.B
 g:A.I->A.I->A.B
 h:A.I->A.I->A.B
 p:A.I->A.I->A.I
 q:A.I->A.I->A.I
 t:A.I->A.I->A.I
 i: {ρ:Type}->A.I->(Tup A.aA [.i]->A.M ρ)->A.M ρ
 b: {ρ:Type}->A.B->(Tup A.aA [.b]->A.M ρ)->A.M ρ
 s: {ρ:Type}->(t:LTy)->LT A.aA t->(Tup A.aA [t]->A.M ρ)->A.M ρ
 j: {ρ:Type}->{i o:List LTy}->(Tup A.aA i->A.B)->(Tup A.aA i->Tup A.aA o)->Tup A.aA i->(Tup A.aA o->A.M ρ)->A.M ρ
 k: {ρ:Type}->{i o:List LTy}->A.B->(Tup A.aA i->A.B)->(Tup A.aA i->Tup A.aA o)->Tup A.aA i->(Tup A.aA o->A.M ρ)->A.M ρ
 v:A.B->A.M (Tup A.aA [.b])
 w: {ρ:Type}->(c:Co)->A.L c->A.I->A.M ρ->A.M ρ
 c: {ρ:Type}->A.B->A.M ρ->A.M ρ->A.M ρ
 C: {ρ:Type}->A.B->A.M ρ->A.M ρ
 r: {ts:List LTy}->Tup A.aA ts->A.M (Tup A.aA ts)
 L: {ρ:Type}->{ts:List LTy}->Tup A.aA ts->A.M (Sum (Tup A.aA ts) ρ)
 R: {ρ:Type}->{ts:List LTy}->A.M ρ->A.M (Sum (Tup A.aA ts) ρ)
 I: {ρ:Type}->(ts:List LTy)->(Tup A.aA ts->A.M (Sum (Tup A.aA ts) ρ))->Tup A.aA ts->A.M ρ
 f:(c:Co)->Nat->A.X c->A.I
 D:(c:Co)->Nat->(c':Co)->A.X c->A.L c'
 x:(c:Co)->Tup A.aA c.uU->A.X c
 y:(c:Co)->A.L c->A.I
 o:(c:Co)->A.L c->A.I->A.X c
 a:A.B->A.B->A.B->A.B
 N:A.B->A.B
 O:A.B->A.B->A.B
abbrev Alg.al(A:Alg):Al A where
 n:=A.lit
 z:=A.lit 0
 u:=A.lit 1
 T:=A.bl true
 F:=A.bl false
 e:=A.cmp .eql
 d:=A.cmp .neq
 l:=A.cmp .lss
 m:=A.cmp .leq
 g:=A.cmp .gtr
 h:=A.cmp .geq
 p:=A.arith .add .i64
 q:=A.arith .sub .i64
 t:=A.arith .mul .i64
 i:=λv k=>A.xU [.i] (v,()) k
 b:=λv k=>A.xU [.b] (v,()) k
 s:=λt v k=>A.xU [t] (v,()) k
 j:=λp f a k=>A.chk (p a) (A.xU _ (f a) k)
 k:=λb p f a k=>A.chk (A.orB (A.Cj b) (p a)) (A.xU _ (f a) k)
 v:=λv=>A.xU [.b] (v,()) λx=>A.ret [.b] (x.1,())
 w:=λc l i m=>A.chk (A.cmp .leq (A.lit 0) i) (A.chk (A.cmp .lss i (A.len c l)) m)
 c:=A.cond
 C:=A.chk
 r:=A.ret _
 L:=A.inl _
 R:=A.inr _
 I:=A.iter
 f:=A.fI
 D:=A.fL
 x:=A.mkX
 y:=A.len
 o:=A.get
 a:=A.Oq
 N:=A.Cj
 O:=A.orB
abbrev SkC.i:SkC:= .int .i64
abbrev SkV.i:SkV:= .c (.int .i64)
abbrev SkV.b:SkV:= .c .bool
abbrev SkV.p(l s:Nat):SkV:= .c (.pb l s 0)
abbrev SkV.o(l:Nat):SkV:= .c (.own l)
abbrev SkV.r(f:Bool)(c:Co):SkV:= .c (.rows f c)
abbrev SkO.g(l:List SkC):SkO:= .box (.agg l)
abbrev SkC.e:SkC:= .rows true .i64
abbrev SkO.e:SkO:= .rows true .i64
abbrev SkO.s(f:Bool)(c:Co):SkO:= .box (.sv f c)
abbrev Ann.v(a:Ann):Ann:= .seq .u a
end Go.TX
namespace Go.TX
open Go Go.AE List
section
variable [aB]
def tmps(l:List Operand):List Nat:=l.filterMap λ| .tmp t=>some t | _=>none
def opT(d:List Oper)(o:Oper):List Nat:=
 (match o.op with
 | .build _ e | .buildSlice _ _ e=>tmps (e.toList.map (·.2))
 | .slice _ x a b c=>tmps (x::(a.toList++b.toList++c.toList))
 | .makeFunc _ a b=>tmps (a.toList++b.toList)
 | .call c=>tmps c.operands.toList
 | .lookup _ a v _=>tmps [a,v]++(oO d).map (·.2)
 | op=>tmps op.operands.toList)++(match o.guard with | some (j,_)=>(gslot d j).toList | none=> [])
def afv(b:List Oper)(m:List Nat)(e:Nat):Nat->Nat->List fV->List fV
 | 0,_,out=>out
 | k+1,dn,out=>
  let g (i:Nat):Nat:=match b[i]? with | some o=>aeT [] o.after.toList | none=>0
  let c (i q:Nat):Bool:= !dn.testBit i&& (g i&&&q)==g i
  let f (i:Nat):List Nat:=match b[i]? with | some o=>opT b o | none=> []
  let n:=range b.length
  match n.find? λi=>Nat.ble (bD b i) 1&&c i (n.foldl (λd j=>if e.testBit j&& !(match gslot b j with | some x=>(f i).contains x | none=>false)then d ||| 2^j else d) dn)with
  | some i=>afv b m e k (dn ||| 2^i) (out++ [(i,f i,[])])
  | none=>match n.find? λi=>bD b i==3&&c i (dn ||| e)with
   | some i=>
    let a:=n.filter λj=>bD b j==2&& !dn.testBit j&& (m.getD i 0).testBit j
    afv b m e k (a.foldl (λd j=>d ||| 2^j) dn ||| 2^i) (out++a.map (λj=>(j,[],[]))++ [(i,f i,(out.filter λp=>loadAt b p.1&& !nI m i p.1).map (·.1))])
   | none=>out++(n.filter λj=> !dn.testBit j).map (λj=>(j,[],[]))
def awr(a:List Oper):List fV:=afv a (masks a) ((range a.length).foldl (λd i=>if bD a i==2 then d ||| 2^i else d) 0) (a.length+1) 0 []
def amD:Code->List (Nat×List fV)
 | .region id c true=> [(id,awr c.toList)]
 | .seq a b | .cond _ a b=>amD a++amD b
 | .block _ b | .loop b=>amD b
 | _=> []
def apR(f:Func):List (Nat×List fV):=amD (f.body.getD .skip)
end
inductive Ex where
 | v (n j:Nat) | ln (n:Nat) | lz (n:Nat) | bl (b:Bool) | st (s:ByteArray)
 | ar (op:BinOp) (k:IntKind) (x y:Ex) | cm (op:BinOp) (x y:Ex) | addN (x y:Ex) | RD (x y:Ex) | neg (k:IntKind) (x:Ex) | conv (k:IntKind) (x:Ex) | Un (x y:Ex) | lJ (x y:Ex)
 | Cj (x:Ex) | RF (x y:Ex) | orB (x y:Ex) | eqB (x y:Ex) | eqS (x y:Ex) | Uo (x:Ex)
 | Uq (b x y:Ex) | Oq (b x y:Ex) | Ur (b:Ex) (c:Co) (x y:Ex) | adS (b:Ex) (c:Co) (x y:Ex)
 | len (c:Co) (x:Ex) | I9 (c:Co) | get (c:Co) (x i:Ex) | set (c:Co) (x i y:Ex) | app (c:Co) (x y:Ex) | sub (c:Co) (x i j:Ex) | rep (c:Co) (n x:Ex) | lst (c:Co) (xs:List Ex) | glob (n:Nat) (c:Co)
 | fI (c:Co) (j:Nat) (x:Ex) | fB (c:Co) (j:Nat) (x:Ex) | fS (c:Co) (j:Nat) (x:Ex) | fL (c:Co) (j:Nat) (c':Co) (x:Ex) | mkX (c:Co) (ts:List LTy) (t:List Ex) | eqX (c:Co) (x y:Ex)
 | cp (i:Nat) (ts:List LTy) (t:List Ex) | cf (i:Nat) (ts:List LTy) (t:List Ex) (j:Nat)
inductive Pg where
 | ret (ts:List LTy) (t:List Ex) | xU (ts:List LTy) (t:List Ex) (k:Pg) | awt (i:Nat) (ts:List LTy) (t:List Ex) (k:Pg) | fail | chk (b:Ex) (m:Pg) | cond (b:Ex) (x y:Pg) | bind (ts:List LTy) (m k:Pg) | yO (ts:List LTy) (m k:Pg)
 | inl (ts:List LTy) (t:List Ex) | inr (ts:List LTy) (m:Pg) | iter (ts:List LTy) (b:Pg) (t:List Ex)
abbrev OO:Car:={I:=Ex,B:=Ex,S:=Ex,L:=λ_=>Ex,X:=λ_=>Ex}
def lvE:LV OO->Ex | .i x=>x | .b x=>x | .s x=>x | .l _ x=>x | .x _ x=>x
def tE(a:List LTy)(t:Tup OO a):List Ex:=(unpack OO a t).map lvE
def eT(f:Nat->Ex):(a:List LTy)->Nat->Tup OO a
 | [],_=>()
 | t::r,j=>(match t with | .i=>f j | .b=>f j | .s=>f j | .l _=>f j | .x _=>f j,eT f r (j+1))
def vT(a:List LTy)(n:Nat):Tup OO a:=eT (.v n) a 0
def awu(i:Nat):Nat->List Ex->Bool
 | _,[]=>true
 | j,.cf i' _ _ j'::r=>Nat.beq i i'&&Nat.beq j j'&&awu i (j+1) r
 | _,_=>false
structure MS where
 run:Nat->Pg
def az3:Alg:={
 aA:=OO
 M:=λ_=>MS
 lit:=λn=>(match n with | .ofNat k=> .ln k | .negSucc k=> .lz (k+1)),bl:= .bl,st:= .st,arith:= .ar,cmp:= .cm,addN:= .addN,RD:= .RD,neg:= .neg,conv:= .conv,Un:= .Un,lJ:= .lJ
 Cj:= .Cj,RF:= .RF,orB:= .orB,eqB:= .eqB,eqS:= .eqS,Uo:= .Uo,Uq:= .Uq,Oq:= .Oq,Ur:= .Ur,adS:= .adS
 len:= .len,I9:= .I9,get:= .get,set:= .set,app:= .app,sub:= .sub,rep:= .rep,lst:= .lst,glob:= .glob
 fI:= .fI,fB:= .fB,fS:= .fS,fL:= .fL,mkX:=λc t=> .mkX c c.uU (tE c.uU t),eqX:= .eqX
 ret:=λa t=>⟨λ_=> .ret a (tE a t)⟩
 xU:=λa t k=>⟨λn=>match tE a t with | .cf i q e 0::r=>if awu i 1 r then .awt i q e ((k (vT a n)).run (n+1))else .xU a (.cf i q e 0::r) ((k (vT a n)).run (n+1)) | e=> .xU a e ((k (vT a n)).run (n+1))⟩
 fail:=⟨λ_=> .fail⟩
 chk:=λb m=>⟨λn=> .chk b (m.run n)⟩
 cond:=λb x y=>⟨λn=> .cond b (x.run n) (y.run n)⟩
 bind:=λa m k=>⟨λn=> .bind a (m.run n) ((k (vT a n)).run (n+1))⟩
 yO:=λa m k=>⟨λn=> .yO a (m.run n) ((k (vT a n)).run (n+1))⟩
 inl:=λa t=>⟨λ_=> .inl a (tE a t)⟩
 inr:=λa m=>⟨λn=> .inr a (m.run n)⟩
 iter:=λa b t=>⟨λn=> .iter a ((b (vT a n)).run (n+1)) (tE a t)⟩}
def sCt(i:Nat)(s:Sig):Ct OO s:={pre:=λt=> .cp i s.inp (tE s.inp t),fn:=λt=>eT (.cf i s.inp (tE s.inp t)) s.out 0}
def scs:List (Nat×Sig)->Nat->List (FuncId×Sigma (Ct OO))
 | [],_=> []
 | p::r,i=>(p.1,⟨p.2,sCt i p.2⟩)::scs r (i+1)
def az4(k:aB)(X:XT)(a:Ann)(s:Sig)(f:Func)(l:List (Nat×Sig)):Pg:=
 (uW az3 X (ofL OO (scs l 0)) (ad7 (apR f)) (λ_ _ _=>true) a s f (f.body.getD .skip) (vT s.inp 0)).run 1
abbrev Cs(A:Alg):List (Nat×Sig)->Type
 | []=>Unit
 | p::r=>Pt A p.2×Ft A p.2×Cs A r
abbrev csl(A:Alg):(l:List (Nat×Sig))->Cs A l->List (FuncId×Sigma (Ct A.aA))
 | [],_=> []
 | p::r,c=>(p.1,⟨p.2,⟨c.1,c.2.1⟩⟩)::csl A r c.2.2
abbrev Vs(A:Alg):=List ((a:List LTy)×Tup A.aA a)
section
variable (A:Alg) (L Z:Nat->A.I) (W:ByteArray->A.S) (P:∀ {α β:Type},α×β->α) (Q:∀ {α β:Type},α×β->β) (U:Unit) (l:List (Nat×Sig)) (C:Cs A l) (N:Nat) (V:Vs A)
def dfl:(t:LTy)->LT A.aA t
 | .i=>L 0 | .b=>A.bl true | .s=>W default | .l c=>A.I9 c | .x c=>A.get c (A.I9 c) (L 0)
def apS:(a:List LTy)->Tup A.aA a | []=>() | t::r=>(dfl A L W t,apS r)
def cst(a t:LTy)(x:LT A.aA a):LT A.aA t:=if h:a=t then h▸x else dfl A L W t
def ad8(a b:List LTy)(x:Tup A.aA a):Tup A.aA b:=if h:a=b then h▸x else apS A L W b
def vrT:(a:List LTy)->Tup A.aA a->Nat->(t:LTy)->LT A.aA t
 | [],_,_,t=>dfl A L W t
 | t'::_,x,0,t=>cst A L W t' t (P x)
 | _::r,x,j+1,t=>vrT r (Q x) j t
def vr(n j:Nat)(t:LTy):LT A.aA t:=match V[N-1-n]? with | some p=>vrT A L W P Q p.1 p.2 j t | none=>dfl A L W t
def cP:(l:List (Nat×Sig))->Cs A l->Nat->((s:Sig)->Tup A.aA s.inp)->A.B
 | [],_,_,_=>A.bl true
 | p::_,c,0,g=>c.1 (g p.2)
 | _::r,c,i+1,g=>cP r c.2.2 i g
def cF{R:Type}(d:R):(l:List (Nat×Sig))->Cs A l->Nat->((s:Sig)->Ft A s->R)->R
 | [],_,_,_=>d
 | p::_,c,0,g=>g p.2 c.2.1
 | _::r,c,i+1,g=>cF d r c.2.2 i g
mutual
def ev:Ex->(t:LTy)->LT A.aA t
 | .v n j,t=>vr A L W P Q N V n j t
 | .ln n,.i=>L n
 | .lz n,.i=>Z n
 | .bl b,.b=>A.bl b
 | .st s,.s=>W s
 | .ar op k x y,.i=>A.arith op k (ev x .i) (ev y .i)
 | .cm op x y,.b=>A.cmp op (ev x .i) (ev y .i)
 | .addN x y,.i=>A.addN (ev x .i) (ev y .i)
 | .RD x y,.i=>A.RD (ev x .i) (ev y .i)
 | .neg k x,.i=>A.neg k (ev x .i)
 | .conv k x,.i=>A.conv k (ev x .i)
 | .Un x y,.i=>A.Un (ev x .i) (ev y .i)
 | .lJ x y,.i=>A.lJ (ev x .i) (ev y .i)
 | .Cj x,.b=>A.Cj (ev x .b)
 | .RF x y,.b=>A.RF (ev x .b) (ev y .b)
 | .orB x y,.b=>A.orB (ev x .b) (ev y .b)
 | .eqB x y,.b=>A.eqB (ev x .b) (ev y .b)
 | .eqS x y,.b=>A.eqS (ev x .s) (ev y .s)
 | .Uo x,.s=>A.Uo (ev x (.l .u8))
 | .Uq b x y,.i=>A.Uq (ev b .b) (ev x .i) (ev y .i)
 | .Oq b x y,.b=>A.Oq (ev b .b) (ev x .b) (ev y .b)
 | .Ur b _ x y,.l c=>A.Ur (ev b .b) c (ev x (.l c)) (ev y (.l c))
 | .adS b _ x y,.x c=>A.adS (ev b .b) c (ev x (.x c)) (ev y (.x c))
 | .len c x,.i=>A.len c (ev x (.l c))
 | .I9 _,.l c=>A.I9 c
 | .get _ x i,.x c=>A.get c (ev x (.l c)) (ev i .i)
 | .set _ x i y,.l c=>A.set c (ev x (.l c)) (ev i .i) (ev y (.x c))
 | .app _ x y,.l c=>A.app c (ev x (.l c)) (ev y (.l c))
 | .sub _ x i j,.l c=>A.sub c (ev x (.l c)) (ev i .i) (ev j .i)
 | .rep _ n x,.l c=>A.rep c (ev n .i) (ev x (.x c))
 | .lst _ xs,.l c=>A.lst c (evs c xs)
 | .glob n _,.l c=>A.glob n c
 | .fI c j x,.i=>A.fI c j (ev x (.x c))
 | .fB c j x,.b=>A.fB c j (ev x (.x c))
 | .fS c j x,.s=>A.fS c j (ev x (.x c))
 | .fL c j _ x,.l c'=>A.fL c j c' (ev x (.x c))
 | .mkX _ ts t,.x c=>A.mkX c (ad8 A L W ts c.uU (tp t ts))
 | .eqX c x y,.b=>A.eqX c (ev x (.x c)) (ev y (.x c))
 | .cp i ts t,.b=>cP A l C i λs=>ad8 A L W ts s.inp (tp t ts)
 | .cf i ts t j,ty=>cF A (dfl A L W ty) l C i λs f=>vrT A L W P Q s.out (f (ad8 A L W ts s.inp (tp t ts))) j ty
 | _,t=>dfl A L W t
termination_by structural e=>e
def tp:List Ex->(a:List LTy)->Tup A.aA a
 | _,[]=>U
 | e::r,t::a=>(ev e t,tp r a)
 | [],t::a=>apS A L W (t::a)
termination_by structural e=>e
def evs(c:Co):List Ex->List (A.X c)
 | []=> []
 | e::r=>ev e (.x c)::evs c r
termination_by structural e=>e
end
end
inductive RT where
 | t (ts:List LTy) | s (ts:List LTy) (r:RT)
abbrev RT.den(A:Alg):RT->Type
 | .t a=>Tup A.aA a
 | .s a r=>Sum (Tup A.aA a) (r.den A)
def den(A:Alg)(L Z:Nat->A.I)(W:ByteArray->A.S)(P:∀ {α β:Type},α×β->α)(Q:∀ {α β:Type},α×β->β)(U:Unit)(l:List (Nat×Sig))(C:Cs A l):Pg->(r:RT)->Nat->Vs A->A.M (r.den A)
 | .ret q t,.t ts,N,V=>A.ret ts (ad8 A L W q ts (tp A L Z W P Q U l C N V t q))
 | .xU ts t k,r,N,V=>A.xU ts (tp A L Z W P Q U l C N V t ts) λy=>den A L Z W P Q U l C k r (N+1) (⟨ts,y⟩::V)
 | .awt i q t k,r,N,V=>cF A A.fail l C i λs f=>A.xU s.out (f (ad8 A L W q s.inp (tp A L Z W P Q U l C N V t q))) λy=>den A L Z W P Q U l C k r (N+1) (⟨s.out,y⟩::V)
 | .chk b m,r,N,V=>A.chk (ev A L Z W P Q U l C N V b .b) (den A L Z W P Q U l C m r N V)
 | .cond b x y,r,N,V=>A.cond (ev A L Z W P Q U l C N V b .b) (den A L Z W P Q U l C x r N V) (den A L Z W P Q U l C y r N V)
 | .bind ts m k,r,N,V=>A.bind ts (den A L Z W P Q U l C m (.t ts) N V) λy=>den A L Z W P Q U l C k r (N+1) (⟨ts,y⟩::V)
 | .yO ts m k,r,N,V=>A.yO ts (den A L Z W P Q U l C m (.s ts r) N V) λy=>den A L Z W P Q U l C k r (N+1) (⟨ts,y⟩::V)
 | .inl q t,.s ts _,N,V=>A.inl ts (ad8 A L W q ts (tp A L Z W P Q U l C N V t q))
 | .inr _ m,.s ts r,N,V=>A.inr ts (den A L Z W P Q U l C m r N V)
 | .iter ts b t,r,N,V=>A.iter ts (λy=>den A L Z W P Q U l C b (.s ts r) (N+1) (⟨ts,y⟩::V)) (tp A L Z W P Q U l C N V t ts)
 | _,_,_,_=>A.fail
inductive Hx {α:Type}:α->α->Prop | r (a:α):Hx a a
theorem nz(n:Nat):(Nat.cast (no_index (@OfNat.ofNat Nat n (instOfNatNat n))):Int)=OfNat.ofNat n:=rfl
structure Gt(k:aB)(X:XT)(E:Tab)(a:Ann)(s:Sig)(f:Func)(l:List (Nat×Sig)) where
 F:Cs (std 0) l->jr s.inp->(jr s.out->Prop)->Prop
 h:∀C,Ru X E (std 0) (apR f) a s f (csl (std 0) l C) (F C)
def gm{k:aB}{X:XT}{E:Tab}{a:Ann}{s:Sig}{f:Func}{l:List (Nat×Sig)}{F:(A:Alg)->Cs A l->Tup A.aA s.inp->Ot A s}
 (i:∀A (P:∀ {α β:Type},α×β->α) (Q:∀ {α β:Type},α×β->β) (U:Unit), @P= @Prod.fst-> @Q= @Prod.snd->U=()->∀C x,Hx (den A (λn=>A.lit (Nat.cast n)) (λn=>A.lit (-(Nat.cast n))) A.st P Q U l C (az4 k X a s f l) (.t s.out) 1 [⟨s.inp,x⟩]) (F A C x):=by
  intro A P Q U g b c C x;generalize d:(λn:Nat=>A.lit (Nat.cast n))=L;generalize e:(λn:Nat=>A.lit (-(Nat.cast n)))=Z
  conv=>arg 1;arg 10;reduce
  conv=>arg 1;reduce
  subst d e g b c
  try dsimp only [nz]
  exact .r _)
 (h:∀A C,Ru X E A (apR f) a s f (csl A l C) (F A C):=by intro _ _ _;kernel_rfl):Gt k X E a s f l:=⟨F (std 0),h (std 0)⟩
end Go.TX
namespace Go.TX.Seat
open Go Go.AE Go.TX Go.Proofs List
variable{P:Program}{t:TypeId}{y:TY}
set_option maxRecDepth 100000
abbrev z0:Cell:= .d true (.int .i64 0)
abbrev z1:Cell:= .d true (.bool false)
abbrev u0:TY:=⟨(.int .i64),1,8,[z0]⟩
abbrev u1:TY:=⟨(.int .u8),1,1,[.d true (.int .u8 0)]⟩
abbrev u2:TY:=⟨(.struct [(0,2),(1,3),(2,4),(3,6)]),4,24,[z0,z0,z1,.d true (.int .u8 0)]⟩
abbrev u3:TY:=⟨.str,1,16,[.d true (.str ⟨#[]⟩)]⟩
abbrev u4:TY:=⟨(.int .u64),1,8,[.d true (.int .u64 0)]⟩
abbrev u5:TY:=⟨(.struct [(0,9),(1,12)]),2,24,[.d true (.str ⟨#[]⟩),.d true (.int .u64 0)]⟩
abbrev u6:TY:=⟨.scalar,1,8,[.np]⟩
abbrev u7:TY:=⟨(.int .i32),1,4,[.d true (.int .i32 0)]⟩
abbrev u8:TY:=⟨(.struct [(0,23),(1,3),(2,23),(3,3),(4,4),(5,4),(6,3),(7,23),(8,23),(9,3)]),10,136,[.nil,z0,.nil,z0,z1,z1,z0,.nil,.nil,z0]⟩
abbrev u9:TY:=⟨(.struct [(0,25),(10,28),(11,29)]),12,184,[.nil,z0,.nil,z0,z1,z1,z0,.nil,.nil,z0,.nil,.nil]⟩
abbrev u10:TY:=⟨(.struct [(0,4),(1,22)]),2,32,[z1,.nil]⟩
abbrev u11:TY:=⟨(.struct [(0,3),(1,3),(2,50),(3,3),(4,3),(5,3),(6,3)]),7,72,[z0,z0,.nil,z0,z0,z0,z0]⟩
abbrev u12:TY:=⟨(.struct [(0,23),(1,52)]),8,96,[.nil,z0,z0,.nil,z0,z0,z0,z0]⟩
abbrev u13:TY:=⟨(.struct [(0,52),(7,3)]),8,80,[z0,z0,.nil,z0,z0,z0,z0,z0]⟩
abbrev u14:TY:=⟨(.struct [(0,3),(1,3),(2,3),(3,3)]),4,32,[z0,z0,z0,z0]⟩
abbrev u15:TY:=⟨(.struct [(0,3),(1,3),(2,3),(3,3),(4,3)]),5,40,[z0,z0,z0,z0,z0]⟩
abbrev u16:TY:=⟨(.struct [(0,112),(1,109),(2,3),(3,115),(4,115),(5,3)]),6,112,[.nil,.nil,z0,.nil,.nil,z0]⟩
abbrev u17:TY:=⟨(.struct [(0,22),(1,3)]),2,32,[.nil,z0]⟩
abbrev u18:TY:=⟨(.struct [(0,52),(7,52)]),14,144,[z0,z0,.nil,z0,z0,z0,z0,z0,z0,.nil,z0,z0,z0,z0]⟩
abbrev u19:TY:=⟨(.struct [(0,108),(1,4)]),2,32,[.nil,z1]⟩
abbrev u20:TY:=⟨(.struct [(0,3),(1,3),(2,115),(3,115),(4,109)]),5,88,[z0,z0,.nil,.nil,.nil]⟩
abbrev u21:TY:=⟨(.struct [(0,4),(1,4),(2,3),(3,187)]),4,40,[z1,z1,z0,.nil]⟩
abbrev u22:TY:=⟨(.struct [(0,3),(1,3),(2,115),(3,115)]),4,64,[z0,z0,.nil,.nil]⟩
abbrev u23:TY:=⟨(.struct [(0,3),(1,23)]),2,32,[z0,.nil]⟩
abbrev u24:TY:=⟨(.struct [(0,17),(1,17),(2,17),(3,9)]),4,40,[.np,.np,.np,.d true (.str ⟨#[]⟩)]⟩
def ty:TypeId->Option TY
 | 2=>some u0
 | 3=>some u0
 | 4=>some ⟨.bool,1,1,[z1]⟩
 | 5=>some u1
 | 6=>some u1
 | 7=>some u2
 | 8=>some u2
 | 9=>some u3
 | 10=>some u3
 | 11=>some u3
 | 12=>some u4
 | 13=>some u5
 | 14=>some u5
 | 15=>some u6
 | 16=>some u6
 | 17=>some u6
 | 18=>some ⟨(.struct [(0,17)]),1,8,[.np]⟩
 | 19=>some ⟨(.struct [(0,17)]),1,8,[.np]⟩
 | 21=>some u7
 | 22=>some ⟨(.slice 5),1,24,[.nil]⟩
 | 23=>some ⟨(.slice 3),1,24,[.nil]⟩
 | 24=>some u8
 | 25=>some u8
 | 28=>some ⟨(.slice 60),1,24,[.nil]⟩
 | 29=>some ⟨(.slice 134),1,24,[.nil]⟩
 | 30=>some u9
 | 31=>some u9
 | 34=>some ⟨(.slice 44),1,24,[.nil]⟩
 | 43=>some u10
 | 44=>some u10
 | 50=>some ⟨(.slice 102),1,24,[.nil]⟩
 | 51=>some u11
 | 52=>some u11
 | 54=>some ⟨(.slice 94),1,24,[.nil]⟩
 | 59=>some u12
 | 60=>some u12
 | 67=>some u6
 | 90=>some u6
 | 91=>some u13
 | 92=>some u13
 | 93=>some u14
 | 94=>some u14
 | 99=>some u4
 | 101=>some u15
 | 102=>some u15
 | 106=>some ⟨(.slice 194),1,24,[.nil]⟩
 | 107=>some ⟨(.struct [(0,106)]),1,24,[.nil]⟩
 | 108=>some ⟨(.struct [(0,106)]),1,24,[.nil]⟩
 | 109=>some ⟨(.slice 115),1,24,[.nil]⟩
 | 112=>some ⟨(.slice 155),1,24,[.nil]⟩
 | 113=>some ⟨(.slice 198),1,24,[.nil]⟩
 | 114=>some ⟨(.struct [(0,113)]),1,24,[.nil]⟩
 | 115=>some ⟨(.struct [(0,113)]),1,24,[.nil]⟩
 | 116=>some u16
 | 117=>some u16
 | 122=>some u17
 | 123=>some u17
 | 127=>some u6
 | 130=>some u6
 | 133=>some u18
 | 134=>some u18
 | 146=>some u6
 | 147=>some u19
 | 148=>some u19
 | 154=>some u20
 | 155=>some u20
 | 169=>some ⟨(.slice 4),1,24,[.nil]⟩
 | 181=>some u6
 | 187=>some ⟨(.slice 9),1,24,[.nil]⟩
 | 188=>some u21
 | 189=>some u21
 | 190=>some ⟨(.slice 189),1,24,[.nil]⟩
 | 193=>some u22
 | 194=>some u22
 | 197=>some u23
 | 198=>some u23
 | 209=>some u6
 | 286=>some ⟨(.slice 113),1,24,[.nil]⟩
 | 288=>some ⟨(.slice 23),1,24,[.nil]⟩
 | 295=>some u0
 | 302=>some ⟨(.int .u32),1,4,[.d true (.int .u32 0)]⟩
 | 304=>some u4
 | 310=>some u4
 | 315=>some u6
 | 319=>some u24
 | 320=>some u24
 | 324=>some u1
 | 325=>some u1
 | 327=>some u6
 | 328=>some u7
 | 329=>some u7
 | _=>none
def yA(i:TypeInfo)(d:N7 P t y.desc)(h:P.info? t=some i:=by kernel_rfl)(s:i.size=y.size:=by rfl)(b:i.bytes=y.bytes:=by rfl)
 (z:∃z,i.zero=some z/\zcs z.cells.toList=some y.zero:=by exact⟨_,rfl,rfl⟩) (l:y.zero.length=y.size:=by rfl):aeA P t y:=⟨⟨i,h,s,b,z.elim λx h=>⟨x,h.1,λ_ _=>abO h.2⟩⟩,d,l⟩
def yS{F:Array Field}(i:TypeInfo)(u:P.underlying t=some (.struct F))(e:y.desc= .struct (F.toList.map λf=>(f.offset,f.type)):=by rfl)(h:P.info? t=some i:=by kernel_rfl)(s:i.size=y.size:=by rfl)(b:i.bytes=y.bytes:=by rfl)
 (z:∃z,i.zero=some z/\zcs z.cells.toList=some y.zero:=by exact⟨_,rfl,rfl⟩) (l:y.zero.length=y.size:=by rfl):aeA P t y:=yA i (by rw [e];exact⟨F,u,rfl⟩) h s b z l
def yP{e:TypeId}(i:TypeInfo)(u:P.underlying t=some (.pointer e))(e:y.desc= .scalar:=by rfl)(h:P.info? t=some i:=by kernel_rfl)(s:i.size=y.size:=by rfl)(b:i.bytes=y.bytes:=by rfl)
 (z:∃z,i.zero=some z/\zcs z.cells.toList=some y.zero:=by exact⟨_,rfl,rfl⟩) (l:y.zero.length=y.size:=by rfl):aeA P t y:=yA i (by rw [e];exact⟨_,u,(λ_ h=>by cases h),(λ_ _ h=>by cases h)⟩) h s b z l
def az5:∀t y,ty t=some y->aeA Tryz.prog t y:=by
 intro t y h;unfold ty at h;split at h<;>cases h
 .exact yA Tryz.t2 Tryz.underlying2
 .exact yA Tryz.t3 Tryz.underlying3
 .exact yA Tryz.t4 Tryz.underlying4
 .exact yA Tryz.t5 Tryz.underlying5
 .exact yA Tryz.t6 Tryz.underlying6
 .exact yS Tryz.t7 Tryz.underlying7
 .exact yS Tryz.t8 Tryz.underlying8
 .exact yA Tryz.t9 Tryz.underlying9
 .exact yA Tryz.t10 Tryz.underlying10
 .exact yA Tryz.t11 Tryz.underlying11
 .exact yA Tryz.t12 Tryz.underlying12
 .exact yS Tryz.t13 Tryz.underlying13
 .exact yS Tryz.t14 Tryz.underlying14
 .exact yP Tryz.t15 Tryz.underlying15
 .exact yP Tryz.t16 Tryz.underlying16
 .exact yP Tryz.t17 Tryz.underlying17
 .exact yS Tryz.t18 Tryz.underlying18
 .exact yS Tryz.t19 Tryz.underlying19
 .exact yA Tryz.t21 Tryz.underlying21
 .exact yA Tryz.t22 Tryz.underlying22
 .exact yA Tryz.t23 Tryz.underlying23
 .exact yS Tryz.t24 Tryz.underlying24
 .exact yS Tryz.t25 Tryz.underlying25
 .exact yA Tryz.t28 Tryz.underlying28
 .exact yA Tryz.t29 Tryz.underlying29
 .exact yS Tryz.t30 Tryz.underlying30
 .exact yS Tryz.t31 Tryz.underlying31
 .exact yA Tryz.t34 Tryz.underlying34
 .exact yS Tryz.t43 Tryz.underlying43
 .exact yS Tryz.t44 Tryz.underlying44
 .exact yA Tryz.t50 Tryz.underlying50
 .exact yS Tryz.t51 Tryz.underlying51
 .exact yS Tryz.t52 Tryz.underlying52
 .exact yA Tryz.t54 Tryz.underlying54
 .exact yS Tryz.t59 Tryz.underlying59
 .exact yS Tryz.t60 Tryz.underlying60
 .exact yP Tryz.t67 Tryz.underlying67
 .exact yP Tryz.t90 Tryz.underlying90
 .exact yS Tryz.t91 Tryz.underlying91
 .exact yS Tryz.t92 Tryz.underlying92
 .exact yS Tryz.t93 Tryz.underlying93
 .exact yS Tryz.t94 Tryz.underlying94
 .exact yA Tryz.t99 Tryz.underlying99
 .exact yS Tryz.t101 Tryz.underlying101
 .exact yS Tryz.t102 Tryz.underlying102
 .exact yA Tryz.t106 Tryz.underlying106
 .exact yS Tryz.t107 Tryz.underlying107
 .exact yS Tryz.t108 Tryz.underlying108
 .exact yA Tryz.t109 Tryz.underlying109
 .exact yA Tryz.t112 Tryz.underlying112
 .exact yA Tryz.t113 Tryz.underlying113
 .exact yS Tryz.t114 Tryz.underlying114
 .exact yS Tryz.t115 Tryz.underlying115
 .exact yS Tryz.t116 Tryz.underlying116
 .exact yS Tryz.t117 Tryz.underlying117
 .exact yS Tryz.t122 Tryz.underlying122
 .exact yS Tryz.t123 Tryz.underlying123
 .exact yP Tryz.t127 Tryz.underlying127
 .exact yP Tryz.t130 Tryz.underlying130
 .exact yS Tryz.t133 Tryz.underlying133
 .exact yS Tryz.t134 Tryz.underlying134
 .exact yP Tryz.t146 Tryz.underlying146
 .exact yS Tryz.t147 Tryz.underlying147
 .exact yS Tryz.t148 Tryz.underlying148
 .exact yS Tryz.t154 Tryz.underlying154
 .exact yS Tryz.t155 Tryz.underlying155
 .exact yA Tryz.t169 Tryz.underlying169
 .exact yP Tryz.t181 Tryz.underlying181
 .exact yA Tryz.t187 Tryz.underlying187
 .exact yS Tryz.t188 Tryz.underlying188
 .exact yS Tryz.t189 Tryz.underlying189
 .exact yA Tryz.t190 Tryz.underlying190
 .exact yS Tryz.t193 Tryz.underlying193
 .exact yS Tryz.t194 Tryz.underlying194
 .exact yS Tryz.t197 Tryz.underlying197
 .exact yS Tryz.t198 Tryz.underlying198
 .exact yP Tryz.t209 Tryz.underlying209
 .exact yA Tryz.t286 Tryz.underlying286
 .exact yA Tryz.t288 Tryz.underlying288
 .exact yA Tryz.t295 Tryz.underlying295
 .exact yA Tryz.t302 Tryz.underlying302
 .exact yA Tryz.t304 Tryz.underlying304
 .exact yA Tryz.t310 Tryz.underlying310
 .exact yP Tryz.t315 Tryz.underlying315
 .exact yS Tryz.t319 Tryz.underlying319
 .exact yS Tryz.t320 Tryz.underlying320
 .exact yA Tryz.t324 Tryz.underlying324
 .exact yA Tryz.t325 Tryz.underlying325
 .exact yP Tryz.t327 Tryz.underlying327
 .exact yA Tryz.t328 Tryz.underlying328
 .exact yA Tryz.t329 Tryz.underlying329
def co:TypeId->Option Co
 | 3=>some .i64
 | 4=>some .bool
 | 5=>some .u8
 | 9=>some .str
 | 23=>some .ints
 | 25=>some .aj
 | 31=>some .eng
 | 44=>some .ask
 | 52=>some .blk
 | 60=>some .cac
 | 94=>some .ins
 | 102=>some .iop
 | 108=>some .tab
 | 113=>some .poly
 | 115=>some .poly
 | 117=>some .sym
 | 134=>some .cer
 | 155=>some .ev
 | 189=>some .form
 | 194=>some .atom
 | 198=>some .mono
 | _=>none
def ieq:TypeId->Option Co
 | 94=>some .ins
 | 102=>some .iop
 | _=>none
def X:XT:={ty:=ty,co:=co,glob:=λg=>if g==0 then some .form else none,ieq:=ieq}
noncomputable def E:Tab:={P:=Tryz.prog,ty:=ty,glob:=λg=>if g==0 then some (.rows 4 (aN .form oP))else none,ieq:=λt=>(ieq t).map λc=>c.size}
end Go.TX.Seat
namespace Go.TX.F
open Go Go.AE Go.TX List
set_option maxRecDepth 100000
abbrev UN:Sig:=⟨[.r true .u8],[],[.p 0 2],[.g [.rows true .u8,.i]]⟩
abbrev iJ:Sig:=⟨[.p 0 2,.i],[.g [.rows true .u8,.i]],[.i],[.g [.rows true .u8,.i]]⟩
abbrev E9:Sig:=⟨[.p 0 2,.i],[.g [.rows true .u8,.i]],[.b],[.g [.rows true .u8,.i]]⟩
abbrev Cw:Sig:=⟨[.p 0 2],[.g [.rows true .u8,.i]],[.o 1],[.g [.rows true .u8,.i],.e]⟩
abbrev bY:Sig:=⟨[.i],[],[.b],[]⟩
abbrev Cx:Sig:=⟨[.r false .i64],[],[.b],[]⟩
abbrev UO:Sig:=⟨[.r false .i64,.r false .i64],[],[.agg [.own 0,.i,.own 1,.i,.bool,.bool,.i,.own 2,.nil,.i]],[.e,.e,.e]⟩
abbrev OQ:Sig:=⟨[.p 0 2],[.g [.rows true .u8,.i]],[.i],[.g [.rows true .u8,.i]]⟩
abbrev Cy:Sig:=⟨[.p 0 2],[.g [.rows true .u8,.i]],[.agg [.i,.i,.i,.i]],[.g [.rows true .u8,.i]]⟩
abbrev bS:Sig:=⟨[.i,.i,.i],[],[.b],[]⟩
abbrev nQ:Sig:=⟨[.sv false .ins],[],[.b],[]⟩
abbrev OT:Sig:=⟨[.p 0 2,.i],[.g [.rows true .u8,.i]],[.o 1],[.g [.rows true .u8,.i],.rows true .ins]⟩
abbrev JF:Sig:=⟨[.sv false .ins],[],[.i],[]⟩
abbrev JG:Sig:=⟨[.r false .ins],[],[.o 0],[.e]⟩
abbrev UQ:Sig:=⟨[.p 0 2,.i],[.g [.rows true .u8,.i]],[.o 1],[.g [.rows true .u8,.i],.e]⟩
abbrev oV:Sig:=⟨[.sv false .aj],[],[.b],[]⟩
abbrev ze:Sig:=⟨[.sv false .aj],[],[.agg [.own 0,.i,.own 1,.i,.bool,.bool,.i,.own 2,.own 3,.i]],[.e,.e,.e,.e]⟩
abbrev Cz:Sig:=⟨[.r false .i64,.i],[],[.b],[]⟩
abbrev zf:Sig:=⟨[.i],[],[.agg [.i,.i,.i,.i],.b],[]⟩
abbrev afw:Sig:=⟨[.agg [.own 0,.i,.own 1,.i,.bool,.bool,.i,.e,.own 2,.i],.b],[.e,.e,.e],[.agg [.own 0,.i,.own 1,.i,.bool,.bool,.i,.e,.own 2,.i]],[.e,.e,.e]⟩
abbrev pX:Sig:=⟨[.agg [.own 0,.i,.own 1,.i,.bool,.bool,.i,.e,.own 2,.i],.i],[.e,.e,.e],[.agg [.own 0,.i,.own 1,.i,.bool,.bool,.i,.e,.own 2,.i]],[.e,.e,.e]⟩
abbrev l9:Sig:=⟨[.i],[],[.i],[]⟩
abbrev uw:Sig:=⟨[.i,.i,.i],[],[.i],[]⟩
abbrev OU:Sig:=⟨[.agg [.own 0,.i,.own 1,.i,.bool,.bool,.i,.e,.own 2,.i],.i,.i],[.e,.e,.e],[.agg [.own 0,.i,.own 1,.i,.bool,.bool,.i,.e,.own 2,.i]],[.e,.e,.e]⟩
abbrev Fa:Sig:=⟨[.i,.i],[],[.i],[]⟩
abbrev afx:Sig:=⟨[.agg [.own 0,.i,.own 1,.i,.bool,.bool,.i,.e,.own 2,.i],.sv false .ins],[.e,.e,.e],[.agg [.own 0,.i,.own 1,.i,.bool,.bool,.i,.e,.own 2,.i]],[.e,.e,.e]⟩
abbrev OV:Sig:=⟨[.agg [.own 0,.i,.own 1,.i,.bool,.bool,.i,.e,.own 2,.i],.sv false .ins],[.e,.e,.e],[.agg [.own 0,.i,.own 1,.i,.bool,.bool,.i,.e,.own 3,.i]],[.e,.e,.gone,.e]⟩
abbrev UR:Sig:=⟨[.sv false .aj,.b],[],[.agg [.own 0,.i,.own 1,.i,.bool,.bool,.i,.e,.own 2,.i]],[.e,.e,.e]⟩
abbrev afy:Sig:=⟨[.sv false .aj,.r false .i64,.i],[],[.agg [.own 0,.i,.own 1,.i,.bool,.bool,.i,.e,.own 2,.i]],[.e,.e,.e]⟩
abbrev afz:Sig:=⟨[.p 0 2],[.g [.rows true .u8,.i]],[.agg [.own 1,.i,.own 2,.i,.bool,.bool,.i,.e,.own 3,.i]],[.g [.rows true .u8,.i],.e,.e,.e]⟩
abbrev afA:Sig:=⟨[.p 0 2,.i],[.g [.rows true .u8,.i]],[.agg [.own 1,.i,.e,.i,.bool,.bool,.i,.e,.own 2,.i]],[.g [.rows true .u8,.i],.e,.e]⟩
abbrev an1:Sig:=⟨[.sv false .cac,.p 0 1],[.box (.i)],[.b],[.box (.i)]⟩
abbrev JH:Sig:=⟨[.r false .i64,.r false .i64],[],[.b],[]⟩
abbrev afB:Sig:=⟨[.sv false .cac,.r false .i64],[],[.b],[]⟩
abbrev afC:Sig:=⟨[.sv false .cac,.p 0 1],[.box (.r false .i64)],[.b],[.box (.r false .i64)]⟩
abbrev afD:Sig:=⟨[.sv false .cac,.p 0 8],[.s true .cac],[.b],[.s true .cac]⟩
abbrev afE:Sig:=⟨[.r false .cac,.c (.fn 60 [(0,1)])],[.box (.i)],[.i],[.box (.i)]⟩
abbrev afF:Sig:=⟨[.r false .cac,.c (.fn 271 [(0,8)])],[.s true .cac],[.i],[.s true .cac]⟩
abbrev afG:Sig:=⟨[.o 0,.c (.fn 149 [(1,1)])],[.rows true .cac,.box (.r false .i64)],[.i],[.rows true .cac,.box (.r false .i64)]⟩
abbrev Gn:Sig:=⟨[.r false .cac,.i],[],[.i],[]⟩
abbrev ad9:Sig:=⟨[.i,.r false .ins],[],[.b],[]⟩
abbrev Sq:Sig:=⟨[.sv false .iop],[],[.b],[]⟩
abbrev Fb:Sig:=⟨[.p 0 8,.i,.i,.i,.i],[.g [.i,.i,.own 1,.i,.i,.i,.i,.i],.rows true .iop],[.i],[.g [.i,.i,.own 2,.i,.i,.i,.i,.i],.gone,.rows true .iop]⟩
abbrev afH:Sig:=⟨[.i,.p 0 1,.p 1 4],[.box (.p 2 8),.s false .ins,.g [.i,.i,.own 3,.i,.i,.i,.i,.i],.rows true .iop],[],[.box (.p 2 8),.s false .ins,.g [.i,.i,.own 4,.i,.i,.i,.i,.i],.gone,.rows true .iop]⟩
abbrev OW:Sig:=⟨[.p 0 8,.i],[.g [.i,.i,.own 1,.i,.i,.i,.i,.i],.rows true .iop],[.i],[.g [.i,.i,.own 2,.i,.i,.i,.i,.i],.gone,.rows true .iop]⟩
abbrev afI:Sig:=⟨[.p 0 8,.i,.i,.i],[.g [.i,.i,.own 1,.i,.i,.i,.i,.i],.rows true .iop],[.i],[.g [.i,.i,.own 2,.i,.i,.i,.i,.i],.gone,.rows true .iop]⟩
abbrev afJ:Sig:=⟨[.p 0 8,.sv false .ins],[.g [.i,.i,.own 1,.i,.i,.i,.i,.i],.rows true .iop],[],[.g [.i,.i,.own 2,.i,.i,.i,.i,.i],.gone,.rows true .iop]⟩
abbrev jW:Sig:=⟨[.sv false .blk],[],[.agg [.i,.i,.own 0,.i,.i,.i,.i]],[.rows true .iop]⟩
abbrev GI:Sig:=⟨[.i,.r false .ins],[],[.agg [.i,.i,.own 0,.i,.i,.i,.i]],[.rows true .iop]⟩
abbrev Sv:Sig:=⟨[.sv false .iop],[],[.b,.b,.b,.b],[]⟩
abbrev Sw:Sig:=⟨[.sv false .blk,.i,.i],[],[.b],[]⟩
abbrev an2:Sig:=⟨[.sv false .blk,.i],[],[.b],[]⟩
abbrev Sy:Sig:=⟨[.sv false .blk],[],[.b,.b,.b],[]⟩
abbrev kD:Sig:=⟨[.sv false .blk],[],[.b],[]⟩
abbrev afK:Sig:=⟨[.r false .iop,.r false .iop],[],[.b],[]⟩
abbrev lK:Sig:=⟨[.sv false .blk,.sv false .blk],[],[.b],[]⟩
abbrev an3:Sig:=⟨[.i,.p 0 1,.p 1 7],[.box (.p 2 12),.s true .blk,.g [.own 3,.i,.own 4,.i,.bool,.bool,.i,.e,.own 5,.i,.rows true .cac,.rows true .cer],.e,.e,.e],[.b],[.box (.p 2 12),.s true .blk,.g [.own 3,.i,.own 4,.i,.bool,.bool,.i,.e,.own 5,.i,.rows true .cac,.rows true .cer],.e,.e,.e]⟩
abbrev an4:Sig:=⟨[.i,.p 0 1],[.box (.i)],[.b],[.box (.i)]⟩
abbrev afL:Sig:=⟨[.r false .i64,.c (.fn 278 [(0,1)])],[.box (.i)],[.i],[.box (.i)]⟩
abbrev afM:Sig:=⟨[.r false .i64,.c (.fn 146 [(0,1),(1,7)])],[.box (.p 2 12),.s true .blk,.g [.own 3,.i,.own 4,.i,.bool,.bool,.i,.e,.own 5,.i,.rows true .cac,.rows true .cer],.e,.e,.e],[.i],[.box (.p 2 12),.s true .blk,.g [.own 3,.i,.own 4,.i,.bool,.bool,.i,.e,.own 5,.i,.rows true .cac,.rows true .cer],.e,.e,.e]⟩
abbrev afN:Sig:=⟨[.r false .i64,.c (.fn 278 [(0,1)])],[.box (.i)],[.b],[.box (.i)]⟩
abbrev afO:Sig:=⟨[.r false .i64,.c (.fn 146 [(0,1),(1,7)])],[.box (.p 2 12),.s true .blk,.g [.own 3,.i,.own 4,.i,.bool,.bool,.i,.e,.own 5,.i,.rows true .cac,.rows true .cer],.e,.e,.e],[.b],[.box (.p 2 12),.s true .blk,.g [.own 3,.i,.own 4,.i,.bool,.bool,.i,.e,.own 5,.i,.rows true .cac,.rows true .cer],.e,.e,.e]⟩
abbrev Sz:Sig:=⟨[.sv false .poly,.i],[],[.b],[]⟩
abbrev apT:Sig:=⟨[.r false .i64],[],[.i],[]⟩
abbrev ru:Sig:=⟨[.r false .i64,.r false .i64],[],[.i],[]⟩
abbrev amE:Sig:=⟨[.i,.i],[],[.b],[]⟩
abbrev acp:Sig:=⟨[.sv false .mono],[],[.b],[]⟩
abbrev afP:Sig:=⟨[.r false .mono,.c (.fn 238 [])],[],[.i],[]⟩
abbrev afQ:Sig:=⟨[.r false .mono,.c (.fn 238 [])],[],[.b],[]⟩
abbrev rz:Sig:=⟨[.sv false .poly],[],[.b],[]⟩
abbrev Nw:Sig:=⟨[.sv false .atom,.i],[],[.b],[]⟩
abbrev xu:Sig:=⟨[.sv false .poly,.sv false .poly],[],[.i],[]⟩
abbrev wz:Sig:=⟨[.sv false .poly,.sv false .poly],[],[.b],[]⟩
abbrev SA:Sig:=⟨[.sv false .atom,.sv false .atom],[],[.b],[]⟩
abbrev an5:Sig:=⟨[.sv false .atom,.p 0 4],[.s false .atom],[.b],[.s false .atom]⟩
abbrev afR:Sig:=⟨[.r false .atom,.c (.fn 227 [(0,4)])],[.s false .atom],[.i],[.s false .atom]⟩
abbrev afS:Sig:=⟨[.sv false .tab,.sv false .atom],[],[.i],[]⟩
abbrev afT:Sig:=⟨[.r true .atom],[],[.c (.clip true .atom)],[]⟩
abbrev afU:Sig:=⟨[.sv true .tab,.sv true .atom],[],[.sv true .tab,.i],[]⟩
abbrev rA:Sig:=⟨[.i],[],[.agg [.own 0]],[.rows true .mono]⟩
abbrev UU:Sig:=⟨[.p 0 2,.i,.i],[.g [.rows true .atom,.bool]],[.sv true .poly],[.g [.rows true .atom,.bool]]⟩
abbrev UW:Sig:=⟨[.p 0 2],[.g [.rows true .atom,.bool]],[.o 1],[.g [.rows true .atom,.bool],.rows true .poly]⟩
abbrev JI:Sig:=⟨[.r false .i64],[],[.o 0],[.e]⟩
abbrev acr:Sig:=⟨[.sv false .poly],[],[.agg [.own 0]],[.rows true .mono]⟩
abbrev SB:Sig:=⟨[.sv false .tab],[],[.agg [.own 0]],[.rows true .atom]⟩
abbrev an6:Sig:=⟨[],[],[.sv true .tab,.r true .poly],[]⟩
abbrev acs:Sig:=⟨[.sv false .tab],[],[.b],[]⟩
abbrev afV:Sig:=⟨[.o 0],[.rows true .poly],[.o 1],[.rows true .poly,.rows true .poly]⟩
abbrev JJ:Sig:=⟨[.sv false .poly],[],[.i,.b],[]⟩
abbrev UY:Sig:=⟨[.sv false .mono,.sv false .mono],[],[.i],[]⟩
abbrev afW:Sig:=⟨[.o 0,.i,.i,.c (.fn 311 [])],[.rows false .mono],[],[.rows false .mono]⟩
abbrev CB:Sig:=⟨[.o 0,.i,.i,.i,.c (.fn 311 [])],[.rows false .mono],[],[.rows false .mono]⟩
abbrev UZ:Sig:=⟨[.o 0,.i,.i,.i,.c (.fn 311 [])],[.rows false .mono],[],[.rows false .mono]⟩
abbrev afX:Sig:=⟨[.o 0,.i,.c (.fn 311 [])],[.rows false .mono],[],[.rows false .mono]⟩
abbrev afY:Sig:=⟨[.o 0,.c (.fn 311 [])],[.rows false .mono],[],[.rows false .mono]⟩
abbrev Va:Sig:=⟨[.o 0],[.rows false .mono],[.agg [.own 1],.b],[.rows false .mono,.rows true .mono]⟩
abbrev afZ:Sig:=⟨[.c (.nil),.i],[],[.o 0],[.rows true .mono]⟩
abbrev af0:Sig:=⟨[.r false .poly],[],[.o 0],[.rows false .mono]⟩
abbrev DR:Sig:=⟨[.sv false .poly,.sv false .poly],[],[.agg [.own 0],.b],[.rows true .mono]⟩
abbrev af2:Sig:=⟨[.c (.nil),.i],[],[.o 0],[.e]⟩
abbrev af3:Sig:=⟨[.r false .ints],[],[.o 0],[.e]⟩
abbrev JK:Sig:=⟨[.o 0,.i,.i],[.e],[],[.e]⟩
abbrev af4:Sig:=⟨[.o 0,.i,.i],[.e],[],[.e]⟩
abbrev af5:Sig:=⟨[.o 0,.i,.i],[.e],[],[.e]⟩
abbrev Vb:Sig:=⟨[.o 0,.i,.i],[.e],[.i,.i],[.e]⟩
abbrev af6:Sig:=⟨[.o 0,.i,.i],[.e],[],[.e]⟩
abbrev Vd:Sig:=⟨[.o 0,.i,.i],[.e],[.b],[.e]⟩
abbrev Ve:Sig:=⟨[.o 0,.i,.i,.i],[.e],[.i],[.e]⟩
abbrev Vf:Sig:=⟨[.o 0,.i,.i,.i],[.e],[.i,.b],[.e]⟩
abbrev JL:Sig:=⟨[.o 0,.i,.i,.i],[.e],[],[.e]⟩
abbrev af7:Sig:=⟨[.c (.int .u64)],[],[.i],[]⟩
abbrev af8:Sig:=⟨[.o 0],[.e],[],[.e]⟩
abbrev acu:Sig:=⟨[.sv false .poly,.i],[],[.agg [.own 0]],[.rows true .mono]⟩
abbrev af9:Sig:=⟨[.i,.sv true .poly,.sv true .poly],[],[.sv true .poly,.b],[]⟩
abbrev an7:Sig:=⟨[.sv true .tab,.i,.sv true .poly,.sv true .poly],[],[.sv true .tab,.sv true .poly,.b],[]⟩
abbrev Fe:Sig:=⟨[.r false .poly],[],[.o 0],[.rows true .poly]⟩
abbrev an8:Sig:=⟨[.sv false .sym],[],[.agg [.own 0,.own 1,.i,.own 2,.own 3,.i]],[.rows true .ev,.rows true .poly,.rows true .mono,.rows true .mono]⟩
abbrev an9:Sig:=⟨[.sv false .sym,.i],[],[.sv true .sym],[]⟩
abbrev aoa:Sig:=⟨[.sv true .tab,.sv false .blk],[],[.sv true .tab,.sv true .sym],[]⟩
abbrev aga:Sig:=⟨[.r false .poly,.r false .poly,.c (.fn 180 [])],[],[.b],[]⟩
abbrev Fg:Sig:=⟨[.r false .poly,.r false .poly],[],[.b],[]⟩
abbrev acv:Sig:=⟨[.sv false .ev,.sv false .ev],[],[.b],[]⟩
abbrev agb:Sig:=⟨[.r false .ev,.r false .ev,.c (.fn 125 [])],[],[.b],[]⟩
abbrev acw:Sig:=⟨[.sv false .sym,.sv false .sym],[],[.b],[]⟩
abbrev agc:Sig:=⟨[.r false .i64],[],[.o 0],[.rows true .ins]⟩
abbrev acy:Sig:=⟨[.r false .cac,.r false .i64],[],[.b],[]⟩
abbrev aob:Sig:=⟨[.sv false .cer],[],[.b],[]⟩
abbrev aoc:Sig:=⟨[.sv false .cer,.p 0 7,.p 1 7],[.s false .blk,.s false .blk],[.b],[.s false .blk,.s false .blk]⟩
abbrev agd:Sig:=⟨[.r false .cer,.c (.fn 269 [(0,7),(1,7)])],[.s false .blk,.s false .blk],[.i],[.s false .blk,.s false .blk]⟩
abbrev agf:Sig:=⟨[.r false .cer,.c (.fn 93 [])],[],[.i],[]⟩
abbrev agh:Sig:=⟨[.r false .cer,.c (.fn 269 [(0,7),(1,7)])],[.s false .blk,.s false .blk],[.b],[.s false .blk,.s false .blk]⟩
abbrev agi:Sig:=⟨[.r false .cer,.c (.fn 93 [])],[],[.b],[]⟩
abbrev acz:Sig:=⟨[.r false .cer],[],[.b],[]⟩
abbrev zh:Sig:=⟨[.sv false .eng],[],[.b],[]⟩
abbrev Ny:Sig:=⟨[.sv false .cac],[],[.agg [.own 0,.i,.i,.own 1,.i,.i,.i,.i]],[.e,.rows true .iop]⟩
abbrev OX:Sig:=⟨[.r false .cac],[],[.o 0],[.rows true .cac]⟩
abbrev SE:Sig:=⟨[.sv false .cer],[],[.agg [.i,.i,.own 0,.i,.i,.i,.i,.i,.i,.own 1,.i,.i,.i,.i]],[.rows true .iop,.rows true .iop]⟩
abbrev Vg:Sig:=⟨[.r false .cer],[],[.o 0],[.rows true .cer]⟩
abbrev agj:Sig:=⟨[.sv false .eng],[],[.agg [.own 0,.i,.own 1,.i,.bool,.bool,.i,.e,.own 2,.i,.rows true .cac,.rows true .cer]],[.e,.e,.e]⟩
abbrev Vh:Sig:=⟨[.sv false .aj],[],[.o 0],[.rows true .ins]⟩
abbrev agk:Sig:=⟨[.p 0 12],[.g [.own 1,.i,.own 2,.i,.bool,.bool,.i,.e,.own 3,.i,.rows true .cac,.rows true .cer],.e,.e,.e],[.i],[.g [.own 1,.i,.own 2,.i,.bool,.bool,.i,.e,.own 3,.i,.rows true .cac,.rows true .cer],.e,.e,.e]⟩
abbrev aod:Sig:=⟨[.p 0 12,.sv false .ins],[.g [.own 1,.i,.own 2,.i,.bool,.bool,.i,.e,.own 3,.i,.rows true .cac,.rows true .cer],.e,.e,.e],[],[.g [.own 1,.i,.own 2,.i,.bool,.bool,.i,.e,.own 4,.i,.rows true .cac,.rows true .cer],.e,.e,.gone,.e]⟩
abbrev aoe:Sig:=⟨[.p 0 12,.b],[.g [.own 1,.i,.own 2,.i,.bool,.bool,.i,.e,.own 3,.i,.rows true .cac,.rows true .cer],.e,.e,.e],[],[.g [.own 1,.i,.own 2,.i,.bool,.bool,.i,.e,.own 4,.i,.rows true .cac,.rows true .cer],.e,.e,.gone,.e]⟩
abbrev OY:Sig:=⟨[.r false .i64,.i],[],[.i],[]⟩
abbrev aof:Sig:=⟨[.c (.int .u8),.c (.int .u8)],[],[.i],[]⟩
abbrev awv:Sig:=⟨[.r false .u8,.r false .u8],[],[.b],[]⟩
abbrev acA:Sig:=⟨[.sv false .blk],[],[.o 0],[.rows true .u8]⟩
abbrev SF:Sig:=⟨[.r false .u8],[],[.agg [.i,.i,.own 0,.i,.i,.i,.i],.b],[.rows true .iop]⟩
abbrev agl:Sig:=⟨[.p 0 7,.r false .i64],[.g [.i,.i,.own 1,.i,.i,.i,.i],.rows true .iop],[],[.g [.i,.i,.own 1,.i,.i,.i,.i],.rows true .iop]⟩
abbrev Nz:Sig:=⟨[.sv false .blk,.r false .bool],[],[.agg [.i,.i,.own 0,.i,.i,.i,.i]],[.rows true .iop]⟩
abbrev acB:Sig:=⟨[.sv false .blk],[],[.o 0],[.rows true .bool]⟩
abbrev zi:Sig:=⟨[.sv false .blk],[],[.sv true .blk],[]⟩
abbrev aog:Sig:=⟨[.i,.p 0 7],[.g [.i,.i,.own 1,.i,.i,.i,.i],.rows true .iop],[.b],[.g [.i,.i,.own 1,.i,.i,.i,.i],.rows true .iop]⟩
abbrev aoh:Sig:=⟨[.sv false .ask,.sv false .blk],[],[.sv true .blk,.b],[]⟩
abbrev acC:Sig:=⟨[.r false .cer,.sv false .blk,.sv false .blk],[],[.b],[]⟩
abbrev agm:Sig:=⟨[.r false .cer,.i],[],[.r false .cer],[]⟩
abbrev acD:Sig:=⟨[.r false .cer,.sv false .cer],[],[.o 0],[.rows true .cer]⟩
abbrev agn:Sig:=⟨[.o 0,.c (.fn 271 [(1,8)])],[.rows true .cac,.s true .cac],[.o 2],[.gone,.s true .cac,.rows true .cac]⟩
abbrev agp:Sig:=⟨[.o 0,.c (.fn 149 [(1,1)])],[.rows true .cac,.box (.r false .i64)],[.o 2],[.gone,.box (.r false .i64),.rows true .cac]⟩
abbrev agq:Sig:=⟨[.r false .cac,.i],[],[.r false .cac],[]⟩
abbrev aoi:Sig:=⟨[.r false .cac,.sv true .cac],[],[.o 0],[.rows true .cac]⟩
abbrev aoj:Sig:=⟨[.p 0 12,.r false .ins,.sv false .ask],[.g [.own 1,.i,.own 2,.i,.bool,.bool,.i,.e,.own 3,.i,.rows true .cac,.rows true .cer],.e,.e,.e],[],[.g [.own 1,.i,.own 2,.i,.bool,.bool,.i,.e,.own 3,.i,.own 4,.rows true .cer],.e,.e,.e,.rows true .cac]⟩
abbrev aol:Sig:=⟨[.sv false .blk,.p 0 12],[.g [.own 1,.i,.own 2,.i,.bool,.bool,.i,.e,.own 3,.i,.rows true .cac,.rows true .cer],.e,.e,.e],[],[.g [.own 1,.i,.own 2,.i,.bool,.bool,.i,.e,.own 4,.i,.rows true .cac,.rows true .cer],.e,.e,.gone,.e]⟩
abbrev aom:Sig:=⟨[.p 0 12,.r false .i64,.i,.sv false .ask],[.g [.own 1,.i,.own 2,.i,.bool,.bool,.i,.e,.own 3,.i,.rows true .cac,.rows true .cer],.e,.e,.e],[.b],[.g [.own 1,.i,.own 2,.i,.bool,.bool,.i,.e,.own 4,.i,.rows true .cac,.rows true .cer],.e,.e,.gone,.e]⟩
abbrev SG:Sig:=⟨[.r false .cac,.r false .i64],[],[.o 0],[.rows true .cac]⟩
abbrev agr:Sig:=⟨[.p 0 12,.r false .i64,.i,.sv false .ask],[.g [.own 1,.i,.own 2,.i,.bool,.bool,.i,.e,.own 3,.i,.rows true .cac,.rows true .cer],.e,.e,.e],[.b],[.g [.own 1,.i,.own 2,.i,.bool,.bool,.i,.e,.own 4,.i,.own 5,.rows true .cer],.e,.e,.gone,.e,.rows true .cac]⟩
abbrev ags:Sig:=⟨[.sv false .eng,.r false .i64,.i,.r false .ask],[],[.sv true .eng],[]⟩
abbrev CF:Sig:=⟨[],[],[.b],[]⟩
abbrev Vi:Sig:=⟨[.sv false .aj,.sv false .aj],[],[.b],[]⟩
abbrev Fh:Sig:=⟨[.r true .u8],[],[.b],[]⟩
abbrev Vj:Sig:=⟨[.r false .cac,.r false .cac],[],[.b],[]⟩
abbrev agt:Sig:=⟨[.r false .cer,.r false .cer],[],[.b],[]⟩
abbrev agu:Sig:=⟨[.sv false .eng,.sv false .eng],[],[.b],[]⟩
abbrev agv:Sig:=⟨[.sv false .aj],[],[.agg [.e,.i,.own 1,.i,.bool,.bool,.i,.e,.e,.i,.own 2,.own 0]],[.rows true .cer,.e,.rows true .cac]⟩
abbrev Fj:Sig:=⟨[.agg [.i,.i,.own 0,.i,.i,.i,.i],.sv false .iop],[.rows true .iop],[.agg [.i,.i,.own 1,.i,.i,.i,.i],.i],[.gone,.rows true .iop]⟩
abbrev Vk:Sig:=⟨[.agg [.i,.i,.own 0,.i,.i,.i,.i],.i,.i],[.rows true .iop],[.agg [.i,.i,.own 1,.i,.i,.i,.i]],[.gone,.rows true .iop]⟩
abbrev JM:Sig:=⟨[.agg [.i,.i,.own 0,.i,.i,.i,.i],.i],[.rows true .iop],[.agg [.i,.i,.own 1,.i,.i,.i,.i],.i],[.gone,.rows true .iop]⟩
abbrev Vm:Sig:=⟨[.agg [.i,.i,.own 0,.i,.i,.i,.i],.i,.i,.sv false .iop],[.rows true .iop],[.agg [.i,.i,.own 1,.i,.i,.i,.i],.i],[.gone,.rows true .iop]⟩
abbrev OZ:Sig:=⟨[.agg [.i,.i,.own 0,.i,.i,.i,.i],.sv false .ins,.i],[.rows true .iop],[.agg [.i,.i,.own 1,.i,.i,.i,.i]],[.gone,.rows true .iop]⟩
abbrev agw:Sig:=⟨[.agg [.i,.i,.own 0,.i,.i,.i,.i],.sv false .ins],[.rows true .iop],[.agg [.i,.i,.own 1,.i,.i,.i,.i]],[.gone,.rows true .iop]⟩
abbrev JN:Sig:=⟨[.p 0 2,.sv false .blk],[.g [.rows true .u8,.i]],[.agg [.i,.i,.own 1,.i,.i,.i,.i]],[.g [.rows true .u8,.i],.rows true .iop]⟩
abbrev JO:Sig:=⟨[.r false .iop,.i,.i],[],[.b],[]⟩
abbrev Vn:Sig:=⟨[.sv false .iop,.r false .i64],[],[.sv true .iop],[]⟩
abbrev agx:Sig:=⟨[.r false .iop,.i],[],[.b],[]⟩
abbrev Vo:Sig:=⟨[.r false .iop,.i],[],[.i,.b],[]⟩
abbrev agy:Sig:=⟨[.sv false .blk,.i],[],[.agg [.i,.i,.rows false .iop,.i,.i,.i,.i]],[]⟩
abbrev O5:Sig:=⟨[.sv false .blk],[],[.sv false .blk],[]⟩
abbrev agz:Sig:=⟨[.p 0 2],[.g [.rows true .u8,.i]],[.o 1],[.g [.rows true .u8,.i],.rows true .ins]⟩
abbrev Vp:Sig:=⟨[.p 0 2],[.g [.rows true .u8,.i]],[.agg [.i,.i,.own 1,.i,.i,.i,.i]],[.g [.rows true .u8,.i],.rows true .iop]⟩
abbrev agA:Sig:=⟨[.o 0,.i],[.rows true .u8],[.o 1],[.gone,.rows true .u8]⟩
abbrev agB:Sig:=⟨[.p 0 2,.r true .u8],[.g [.rows true .u8,.i]],[.o 1],[.g [.rows true .u8,.i],.rows true .u8]⟩
abbrev O6:Sig:=⟨[.p 0 2,.sv false .aj],[.g [.rows true .u8,.i]],[.agg [.bool,.own 1]],[.g [.rows true .u8,.i],.rows true .u8]⟩
abbrev Vq:Sig:=⟨[],[],[.agg [.own 0],.o 1],[.rows true .atom,.rows true .poly]⟩
abbrev agC:Sig:=⟨[.sv false .atom],[],[.b],[]⟩
abbrev uz:Sig:=⟨[.r false .mono],[],[.agg [.own 0]],[.rows true .mono]⟩
abbrev Vr:Sig:=⟨[.sv false .atom],[],[.agg [.i,.i,.own 0,.own 1]],[.rows true .mono,.rows true .mono]⟩
abbrev O7:Sig:=⟨[.agg [.own 0],.sv false .atom],[.rows true .atom],[.agg [.own 1],.i],[.gone,.rows true .atom]⟩
abbrev agD:Sig:=⟨[.o 0,.i],[.rows false .poly],[.sv false .poly],[.rows false .poly]⟩
abbrev Vt:Sig:=⟨[.r false .mono,.sv false .mono],[],[.o 0],[.rows false .mono]⟩
abbrev Vu:Sig:=⟨[.r false .mono],[],[.agg [.own 0],.b],[.rows true .mono]⟩
abbrev agE:Sig:=⟨[.r false .i64,.r false .i64],[],[.o 0],[.e]⟩
abbrev O8:Sig:=⟨[.i,.sv false .poly,.sv false .poly],[],[.agg [.own 0],.b],[.rows true .mono]⟩
abbrev agF:Sig:=⟨[.i,.i,.sv false .poly],[],[.agg [.own 0],.b],[.rows true .mono]⟩
abbrev agG:Sig:=⟨[.agg [.own 0],.i,.sv false .poly,.sv false .poly],[.rows true .atom],[.agg [.own 1],.agg [.own 2]],[.gone,.rows true .atom,.rows true .mono]⟩
abbrev agH:Sig:=⟨[.r false .ev,.i],[],[.i],[]⟩
abbrev agI:Sig:=⟨[.agg [.own 0],.r false .ev,.i],[.rows true .atom],[.agg [.own 1],.agg [.own 2]],[.gone,.rows true .atom,.rows true .mono]⟩
abbrev agJ:Sig:=⟨[.sv false .iop,.sv false .poly,.sv false .poly,.r false .poly],[],[.agg [.i,.i,.own 0,.own 1,.own 2]],[.rows true .mono,.rows true .mono,.rows true .poly]⟩
abbrev O9:Sig:=⟨[.sv false .blk],[],[.i],[]⟩
abbrev Vv:Sig:=⟨[.sv false .sym,.i],[],[.agg [.rows false .ev,.rows false .poly,.i,.nil,.nil,.i]],[]⟩
abbrev Pb:Sig:=⟨[.sv false .sym,.i],[],[.sv false .sym],[]⟩
abbrev agK:Sig:=⟨[.sv false .tab,.sv false .blk],[],[.sv false .tab,.sv false .sym],[]⟩
abbrev agL:Sig:=⟨[.sv false .cac],[],[.b],[]⟩
abbrev Vw:Sig:=⟨[.r false .i64,.r false .i64,.i],[],[.b],[]⟩
abbrev agM:Sig:=⟨[.sv false .eng],[],[.agg [.e,.i,.own 1,.i,.bool,.bool,.i,.e,.e,.i,.own 2,.own 0]],[.rows true .cer,.e,.rows true .cac]⟩
abbrev agN:Sig:=⟨[.agg [.e,.i,.e,.i,.bool,.bool,.i,.e,.e,.i,.rows true .cac,.own 0],.r false .i64],[.rows true .cer],[.agg [.e,.i,.own 1,.i,.bool,.bool,.i,.e,.e,.i,.own 2,.own 0]],[.rows true .cer,.e,.rows true .cac]⟩
abbrev agO:Sig:=⟨[.r false .u8,.i],[],[.i],[]⟩
abbrev agP:Sig:=⟨[.sv false .blk,.sv false .ask],[],[.sv true .blk,.b],[]⟩
abbrev agQ:Sig:=⟨[.agg [.e,.i,.e,.i,.bool,.bool,.i,.e,.e,.i,.rows true .cac,.own 0],.sv true .blk,.sv false .ask],[.rows true .cer],[.agg [.e,.i,.e,.i,.bool,.bool,.i,.e,.e,.i,.rows true .cac,.own 1],.sv true .blk],[.gone,.rows true .cer]⟩
abbrev agR:Sig:=⟨[.r false .cac,.sv false .cac],[],[.r true .cac],[]⟩
abbrev agS:Sig:=⟨[.agg [.e,.i,.e,.i,.bool,.bool,.i,.e,.e,.i,.rows true .cac,.own 0],.sv false .ask],[.rows true .cer],[.agg [.e,.i,.e,.i,.bool,.bool,.i,.e,.e,.i,.rows true .cac,.own 1],.i,.b],[.gone,.rows true .cer]⟩
abbrev agT:Sig:=⟨[.sv false .aj,.r false .i64,.i,.i],[],[.b],[]⟩
abbrev agU:Sig:=⟨[.agg [.own 0,.i,.own 1,.i,.bool,.bool,.i,.e,.own 2,.i],.sv false .blk,.i,.i],[.e,.e,.e],[.agg [.own 0,.i,.own 1,.i,.bool,.bool,.i,.e,.own 2,.i]],[.e,.e,.e]⟩
abbrev agV:Sig:=⟨[.agg [.own 0,.i,.own 1,.i,.bool,.bool,.i,.e,.own 2,.i],.sv false .blk,.sv false .iop,.i,.i],[.e,.e,.e],[.agg [.own 0,.i,.own 1,.i,.bool,.bool,.i,.e,.own 3,.i],.i,.b],[.e,.e,.gone,.e]⟩
abbrev agW:Sig:=⟨[.sv false .aj,.sv false .iop,.i,.i],[],[.i],[]⟩
abbrev agX:Sig:=⟨[.sv false .blk,.r false .i64],[],[.i],[]⟩
abbrev agY:Sig:=⟨[.sv false .blk,.sv false .aj],[],[.agg [.own 0,.i,.own 1,.i,.bool,.bool,.i,.e,.own 2,.i],.b],[.e,.e,.e]⟩
abbrev Vx:Sig:=⟨[.sv false .eng,.r false .i64,.i,.sv false .ask],[],[.agg [.e,.i,.own 1,.i,.bool,.bool,.i,.e,.e,.i,.own 2,.own 0],.b],[.rows true .cer,.e,.rows true .cac]⟩
abbrev agZ:Sig:=⟨[.p 0 2],[.g [.rows true .u8,.i]],[.agg [.e,.i,.own 2,.i,.bool,.bool,.i,.e,.e,.i,.own 3,.own 1]],[.g [.rows true .u8,.i],.rows true .cer,.e,.rows true .cac]⟩
abbrev Vy:Sig:=⟨[.p 0 2,.i],[.g [.rows true .u8,.i]],[.sv true .eng],[.g [.rows true .u8,.i]]⟩
abbrev JQ:Sig:=⟨[.r true .u8],[],[.sv true .eng,.o 0,.i,.agg [.bool,.own 1]],[.e,.rows true .u8]⟩
abbrev NA:Sig:=⟨[.sv false .eng,.r false .i64,.i,.sv false .ask],[],[.sv true .eng,.b],[]⟩
abbrev ag0:Sig:=⟨[.p 0 2,.sv false .eng,.r false .i64,.i],[.g [.rows true .u8,.i]],[.o 1],[.g [.rows true .u8,.i],.rows true .ask]⟩
abbrev Vz:Sig:=⟨[.r true .u8],[],[.sv true .eng,.o 0,.i,.o 1],[.e,.rows true .ask]⟩
abbrev ag1:Sig:=⟨[.sv false .eng,.r false .cer,.sv false .ask],[],[.sv true .eng,.b],[]⟩
abbrev xV:List SkC:=[.nil,.nil,.i,.nil,.nil,.i]
abbrev VA:List SkC:=[.rows true .atom,.bool]
abbrev qq0:dZ:=⟨[(3,.p 0 7),(4,.p 1 1),(5,.p 2 6),(6,.p 3 2),(7,.p 4 6),(8,.o 5),(9,.i),(10,.i),(57,.r false .iop),(58,.i),(59,.i)],[.s false .blk,.g [.nil],.g xV,.g VA,.g [.own 6,.own 7,.i,.nil,.nil,.i],.rows true .poly,.rows true .ev,.rows true .poly]⟩
abbrev qq1:dZ:=⟨[(1,.p 0 12),(2,.p 4 7),(4,.o 5),(14,.r false .iop),(15,.i),(16,.i)],[.g [.own 1,.i,.own 2,.i,.bool,.bool,.i,.e,.own 6,.i,.rows true .cac,.rows true .cer],.e,.e,.gone,.s false .blk,.e,.e]⟩
abbrev qq2:List SkC:=[.nil,.i,.nil,.i,.bool,.bool,.i,.nil,.nil,.i]
abbrev pK:List SkC:=[.rows true .u8,.i]
abbrev JR:List SkC:=[.nil,.i,.nil,.i,.bool,.bool,.i,.nil,.nil,.i,.nil,.nil]
abbrev qq4:dZ:=⟨[(4,.p 1 12),(5,.p 2 12)],[.g pK,.g JR,.g [.e,.i,.own 3,.i,.bool,.bool,.i,.e,.e,.i,.own 4,.own 5],.e,.rows true .cac,.rows true .cer]⟩
abbrev qq5:List SkC:=[.i,.i,.nil,.i,.i,.i,.i]
abbrev qq6:List SkO:=[.g [.own 1,.i,.own 2,.i,.bool,.bool,.i,.e,.own 4,.i,.rows true .cac,.rows true .cer],.e,.e,.gone,.e]
abbrev qq7:Ann:=(.cond .u .u)
abbrev qq8:dZ:=⟨[(4,.p 1 7),(5,.p 2 7)],[.g pK,.g qq5,.g [.i,.i,.own 3,.i,.i,.i,.i],.rows true .iop]⟩
abbrev qq9:List SkO:=[.g xV,.g [.own 2,.own 3,.i,.own 4,.own 5,.i],.rows true .ev,.rows true .poly,.rows true .mono,.rows true .mono]
abbrev ag2:List SkC:=[.own 1,.i,.own 2,.i,.bool,.bool,.i,.e,.own 3,.i,.rows true .cac,.rows true .cer]
abbrev apU:List SkO:=[.g pK,.g qq2,.g [.own 3,.i,.own 4,.i,.bool,.bool,.i,.e,.own 5,.i],.e,.e,.e]
abbrev Pf:dZ:=⟨[],[.g [.i,.i,.own 2,.i,.i,.i,.i,.i],.gone,.rows true .iop]⟩
abbrev VB:List SkO:=[.g qq5,.g [.i,.i,.own 2,.i,.i,.i,.i],.rows true .iop]
abbrev apV:dZ:=⟨[(2,.p 0 7),(4,.p 1 10),(6,.p 2 10),(7,.o 3),(8,.i),(9,.p 4 5),(82,.b)],[.s false .blk,.g qq2,.g [.own 5,.i,.own 6,.i,.bool,.bool,.i,.e,.own 7,.i],.e,.s false .iop,.e,.e,.e]⟩
abbrev aww:dZ:=⟨[(3,.p 0 7),(4,.p 1 1),(5,.p 2 6),(6,.p 3 2),(7,.p 4 6),(8,.o 5),(9,.i),(10,.i),(11,.i),(12,.p 6 5),(17,.p 7 1),(18,.p 8 1),(57,.r false .iop),(58,.i),(59,.i)],[.s false .blk,.g [.nil],.g xV,.g VA,.g [.own 9,.own 10,.i,.nil,.nil,.i],.rows true .poly,.s false .iop,.s true .poly,.s true .poly,.rows true .ev,.rows true .poly]⟩
abbrev amF:dZ:=⟨[(1,.p 0 7),(2,.p 1 7),(3,.o 2),(4,.o 3),(18,.r false .iop),(19,.i),(20,.i)],[.s false .blk,.g qq5,.e,.e]⟩
abbrev amG:dZ:=⟨[(1,.p 0 7),(2,.p 1 7),(3,.o 2),(4,.o 3),(5,.i)],[.s false .blk,.g qq5,.rows true .bool,.rows true .bool]⟩
abbrev amH:dZ:=⟨[(4,.p 1 10),(5,.p 2 10)],[.g pK,.g qq2,.g [.own 3,.i,.e,.i,.bool,.bool,.i,.e,.own 4,.i],.e,.e]⟩
abbrev zk:List SkO:=[.rows false .mono]
abbrev apW:List SkC:=[.own 0,.i,.own 1,.i,.bool,.bool,.i,.e,.own 2,.i]
abbrev awx:dZ:=⟨[(3,.p 0 7),(4,.p 1 1),(5,.p 2 6),(6,.p 3 1),(7,.p 4 6),(9,.o 5),(13,.o 6),(14,.i),(18,.p 7 1)],[.s false .blk,.g [.nil],.g xV,.g [.own 8],.g [.own 9,.nil,.i,.nil,.nil,.i],.rows false .poly,.rows false .poly,.g [.own 10],.rows true .atom,.rows true .ev,.rows true .mono]⟩
abbrev ag3:List SkO:=[.s false .blk,.rows true .bool]
abbrev awy:dZ:=⟨[(3,.p 0 7),(4,.p 1 1),(5,.p 2 6),(6,.p 3 1),(7,.p 4 6),(9,.o 5),(13,.o 6),(14,.i),(18,.p 7 1)],[.s false .blk,.g [.nil],.g xV,.g [.own 8],.g [.own 9,.nil,.i,.nil,.nil,.i],.rows false .poly,.rows false .poly,.s false .poly,.rows true .atom,.rows true .ev]⟩
abbrev Ph:dZ:=⟨[(0,.p 0 12),(4,.i)],qq6⟩
abbrev apX:List SkO:=[.s false .blk,.g qq5,.g [.i,.i,.own 3,.i,.i,.i,.i],.rows true .iop]
abbrev apY:dZ:=⟨[(0,.r false .mono),(3,.p 0 2),(5,.o 1),(6,.b),(7,.i)],[.s false .mono,.rows false .mono]⟩
abbrev awz:List SkO:=[.s false .blk,.g qq2,.g [.own 4,.i,.own 5,.i,.bool,.bool,.i,.e,.own 6,.i],.e,.e,.e,.e]
abbrev amI:dZ:=⟨[(0,.p 0 2),(3,.o 1),(4,.i)],[.g pK,.rows true .ins]⟩
abbrev VD:List SkC:=[.i,.i,.own 4,.i,.i,.i,.i]
abbrev awC:Ann:=(.v (.cut ⟨[(2,.p 0 7),(3,.p 1 7),(4,.o 2),(5,.o 3),(6,.i),(7,.p 4 5),(8,.i)],[.g qq5,.g [.i,.i,.own 5,.i,.i,.i,.i],.e,.e,.s true .iop,.rows true .iop]⟩ qq7))
abbrev apZ:dZ:=⟨[(0,.p 0 12),(1,.r false .ins),(7,.p 4 7)],[.g ag2,.e,.e,.e,.s true .blk]⟩
abbrev awD:dZ:=⟨[(1,.r false .bool),(4,.p 0 7),(5,.o 1),(6,.p 2 7),(16,.r false .iop),(17,.i),(18,.i)],[.g qq5,.e,.g [.i,.i,.own 3,.i,.i,.i,.i],.rows true .iop]⟩
abbrev amJ:dZ:=⟨[(1,.p 0 4),(4,.i),(30,.b)],[.s false .ins]⟩
abbrev awE:dZ:=⟨[(4,.p 1 12),(5,.p 2 12)],[.g pK,.g JR,.g [.e,.i,.e,.i,.bool,.bool,.i,.e,.e,.i,.own 3,.own 4],.rows true .cac,.rows true .cer]⟩
abbrev ap0:List SkO:=[.g [.i,.i,.own 1,.i,.i,.i,.i],.rows true .iop]
abbrev awF:List SkO:=[.rows true .iop,.g [.i,.i,.own 0,.i,.i,.i,.i],.s false .ins,.g qq5]
abbrev amK:dZ:=⟨[(0,.p 0 12),(4,.i)],[.g ag2,.e,.e,.e]⟩
abbrev awG:dZ:=⟨[(2,.p 0 1),(3,.p 1 1),(4,.p 2 1),(6,.o 3),(7,.i),(8,.i)],[.s false .poly,.s false .poly,.g [.nil],.rows false .mono]⟩
abbrev awH:Ann:=(.cut ⟨[(0,.p 0 2),(4,.p 1 7),(5,.p 2 7),(6,.i),(7,.p 3 5)],[.g pK,.g qq5,.g VD,.s true .iop,.rows true .iop]⟩ qq7)
abbrev ap1:dZ:=⟨[(0,.o 0),(1,.i),(2,.i),(3,.i),(8,.b),(9,.b)],[.e]⟩
abbrev ap2:Ann:=(.v (.cut ⟨[(0,.p 0 2),(2,.p 1 10),(3,.p 2 10)],apU⟩ qq7))
abbrev awI:dZ:=⟨[(1,.r false .bool),(2,.p 0 7),(4,.p 1 7),(5,.o 2),(6,.o 3),(7,.i)],[.s false .blk,.g qq5,.rows true .iop,.e]⟩
abbrev ag4:dZ:=⟨[(4,.p 0 6),(5,.p 1 6)],qq9⟩
abbrev awJ:dZ:=⟨[(0,.p 0 2),(4,.p 1 7),(5,.p 2 7),(6,.i)],[.g pK,.g qq5,.g [.i,.i,.own 3,.i,.i,.i,.i],.rows true .iop]⟩
abbrev awK:dZ:=⟨[(0,.o 0),(1,.i),(2,.i),(3,.i),(4,.c (.fn 311 [])),(18,.i),(19,.i),(20,.i),(21,.i),(22,.i)],zk⟩
abbrev ap3:dZ:=⟨[(2,.p 3 10),(4,.p 4 10)],[.e,.e,.e,.g apW,.g qq2]⟩
abbrev awL:Ann:=(.v (.v (.seq (.v (.block (.loop ⟨[(2,.p 0 7),(3,.p 1 7),(5,.i)],[.s false .blk,.s false .blk]⟩ .u))) .u)))
abbrev awM:dZ:=⟨[(0,.o 0),(2,.p 1 1),(4,.p 2 1),(5,.i)],[.rows false .mono,.g [.nil],.g [.own 3],.rows true .mono]⟩
abbrev awN:dZ:=⟨[(1,.i),(2,.p 0 1),(4,.p 1 1),(5,.o 2),(6,.i)],[.s false .poly,.g [.nil],.rows false .mono]⟩
abbrev amL:dZ:=⟨[(4,.p 1 10),(5,.p 2 10)],apU⟩
abbrev awO:dZ:=⟨[(1,.p 0 7),(2,.p 1 7),(3,.p 2 7),(4,.c (.fn 130 [(2,7)])),(15,.o 3),(16,.i),(17,.i)],apX⟩
abbrev awP:Ann:=(.v (.v (.seq (.v (.block (.loop ⟨[(0,.r false .i64),(1,.r false .i64),(5,.i)],[]⟩ .u))) .u)))
abbrev awQ:dZ:=⟨[(0,.o 0),(1,.c (.fn 149 [(1,1)])),(5,.i),(6,.i)],[.rows true .cac,.box (.r false .i64)]⟩
abbrev awR:Ann:=(.block (.loop ⟨[(0,.o 0),(1,.i),(2,.c (.fn 311 [])),(6,.i),(7,.i),(8,.i)],zk⟩ .u))
abbrev amM:dZ:=⟨[(2,.p 0 7),(3,.p 1 7)],VB⟩
abbrev awS:dZ:=⟨[(0,.p 0 2),(2,.p 1 4),(3,.i),(4,.i),(10,.i),(30,.b)],[.g pK,.g [.i,.i,.i,.i]]⟩
abbrev ap4:Ann:=(.v (.cut ⟨[(1,.p 0 7),(3,.o 1)],ag3⟩ qq7))
abbrev awT:dZ:=⟨[(0,.o 0),(1,.c (.fn 271 [(1,8)])),(5,.i),(6,.i)],[.rows true .cac,.s true .cac]⟩
abbrev awU:Ann:=(.block (.loop ⟨[(1,.p 0 10),(3,.o 1),(4,.i)],[.s false .aj,.rows true .ins]⟩ .u))
abbrev awV:dZ:=⟨[(0,.r false .cac),(3,.p 0 8),(5,.o 1),(6,.i)],[.s false .cac,.rows true .cac]⟩
abbrev awW:List SkC:=[.own 3,.i,.own 4,.i,.bool,.bool,.i,.e,.own 5,.i,.rows true .cac,.rows true .cer]
abbrev awX:dZ:=⟨[(0,.r false .cac),(1,.r false .i64),(5,.o 0),(6,.i)],[.rows true .cac]⟩
abbrev awY:List (Nat×SkV):=[(1,.r false .i64),(2,.i),(3,.r false .ask),(8,.p 0 12),(9,.p 1 12),(10,.i)]
abbrev awZ:List SkO:=[.g qq2,.g [.own 2,.i,.own 3,.i,.bool,.bool,.i,.own 4,.nil,.i],.e,.e,.e]
abbrev ap5:dZ:=⟨[(1,.p 0 7),(3,.o 1),(7,.i)],ag3⟩
abbrev ap6:dZ:=⟨[(1,.p 0 7),(3,.o 1),(5,.i)],ag3⟩
abbrev aw0:dZ:=⟨[(0,.r false .i64),(1,.r false .i64),(5,.o 0),(6,.i),(7,.i)],[.e]⟩
abbrev aw1:Ann:=(.v (.seq (.v (.block (.loop ⟨[(0,.r false .i64),(3,.i)],[]⟩ .u))) .u))
abbrev az6:List SkO:=[.g qq2,.g [.own 2,.i,.own 3,.i,.bool,.bool,.i,.e,.own 4,.i],.e,.e,.e]
abbrev ap7:List SkO:=[.e,.e,.e,.g apW,.s false .ins,.g qq2]
abbrev aw2:dZ:=⟨[(2,.p 0 7),(4,.p 1 10),(6,.p 2 10),(7,.o 3),(8,.i),(10,.i)],awz⟩
abbrev aw3:dZ:=⟨[(0,.p 0 7),(1,.r false .i64),(16,.o 1),(17,.i),(18,.i)],ap0⟩
abbrev aw4:List (Nat×SkV):=[(0,.p 0 2),(2,.r false .i64),(9,.o 1),(10,.p 2 12),(11,.i),(12,.i)]
abbrev aw5:dZ:=⟨[(0,.o 0),(2,.i),(4,.c (.fn 311 [])),(14,.i),(15,.i)],zk⟩
abbrev aw6:dZ:=⟨[(0,.o 0),(2,.i),(4,.c (.fn 311 [])),(10,.i),(11,.i)],zk⟩
abbrev aw7:dZ:=⟨[(0,.o 0),(1,.i),(4,.c (.fn 311 [])),(10,.i),(11,.i)],zk⟩
abbrev aw8:dZ:=⟨[(0,.o 0),(1,.i),(2,.c (.fn 311 [])),(6,.i)],zk⟩
abbrev aw9:dZ:=⟨[(3,.p 1 7),(4,.p 2 4),(6,.p 3 7),(109,.b)],awF⟩
abbrev axa:dZ:=⟨[(0,.r false .ev),(1,.i),(5,.i),(6,.i)],[]⟩
end Go.TX.F
noncomputable section
namespace Go.TX.F
open Go Go.AE Go.TX Go.TX.Seat Go.Proofs List
set_option maxRecDepth 100000
set_option maxHeartbeats 4000000
def VE:Gt aB.z X E (.v (.seq (.v (.cut ⟨[(0,.r true .u8)],[]⟩ qq7)) .u)) UN Tryz.f36 []:=gm
def VF:Gt aB.z X E .u iJ Tryz.f39 []:=gm
def VG:Gt aB.z X E .u E9 Tryz.f40 [(39,iJ)]:=gm
def VH:Gt aB.z X E (.v (.v (.seq (.v (.block (.loop ⟨[(0,.p 0 2),(3,.o 1),(4,.i)],[.g pK,.e]⟩ .u))) .u))) Cw Tryz.f38 [(39,iJ)]:=gm
def VI:Gt aB.z X E .u bY Tryz.f47 []:=gm
def VJ:Gt aB.z X E aw1 Cx Tryz.f46 [(47,bY)]:=gm
def VK:Gt aB.z X E (.v (.v (.v (.seq (.v (.block (.loop ⟨[(0,.r false .i64),(4,.p 0 10),(5,.p 1 10),(6,.i)],awZ⟩ (.v (.seq (.block (.v (.seq (.v (.cut ⟨[(0,.r false .i64),(4,.p 0 10),(5,.p 1 10),(6,.i),(7,.i)],awZ⟩ qq7)) .u))) .u))))) .u)))) UO Tryz.f138 [(46,Cx)]:=gm
def VL:Gt aB.z X E .u OQ Tryz.f98 [(39,iJ)]:=gm
def VN:Gt aB.z X E (.v (.v (.v (.seq (.v (.block (.seq (.v (.cut ⟨[(0,.p 0 2),(2,.p 1 4),(3,.i),(4,.i),(10,.i),(11,.b)],[.g pK,.g [.i,.i,.i,.i]]⟩ qq7)) (.cond .u (.v (.cond .u (.seq (.v (.cut awS (.cond .u (.v (.cut awS qq7))))) (.cond .u (.v (.cond .u (.seq (.v (.cut ⟨[(0,.p 0 2),(2,.p 1 4),(3,.i),(4,.i),(10,.i),(54,.b)],[.g pK,.g [.i,.i,.i,.i]]⟩ qq7)) .u))))))))))) .u)))) Cy Tryz.f195 [(39,iJ)]:=gm
def VO:Gt aB.z X E .u bY Tryz.f160 []:=gm
def VP:Gt aB.z X E .u bS Tryz.f48 []:=gm
def VQ:Gt aB.z X E (.v (.seq (.v (.block (.v (.cond .u (.v (.cond .u (.v (.cond .u (.seq (.v (.cut amJ (.cond .u (.v (.cut amJ (.cond .u (.v (.cut amJ (.cond .u (.v (.cut amJ qq7))))))))))) (.cond .u (.v (.cond .u (.v (.cond .u (.seq (.v (.cut ⟨[(1,.p 0 4),(54,.b)],[.s false .ins]⟩ qq7)) .u))))))))))))))) .u)) nQ Tryz.f274 []:=gm
def VR:Gt aB.z X E .u nQ Tryz.f207 [(48,bS),(274,nQ)]:=gm
def VT:Gt aB.z X E .u nQ Tryz.f206 [(160,bY),(207,nQ)]:=gm
def VU:Gt aB.z X E .u Cy Tryz.f198 [(195,Cy),(39,iJ),(206,nQ)]:=gm
def VW:Gt aB.z X E (.v (.v (.v (.seq (.v (.block (.loop ⟨[(0,.p 0 2),(1,.i),(6,.o 1),(7,.i)],[.g pK,.rows true .ins]⟩ (.v (.seq (.block (.v (.seq (.v (.cut ⟨[(0,.p 0 2),(1,.i),(6,.o 1),(7,.i),(8,.p 2 4)],[.g pK,.rows true .ins,.g [.i,.i,.i,.i]]⟩ qq7)) .u))) .u))))) .u)))) OT Tryz.f193 [(198,Cy),(39,iJ)]:=gm
def VX:Gt aB.z X E .u OT Tryz.f194 [(39,iJ)]:=gm
def VY:Gt aB.z X E .u JF Tryz.f197 [(207,nQ)]:=gm
def VZ:Gt aB.z X E (.v (.v (.seq (.v (.block (.loop ⟨[(0,.r false .ins),(3,.o 0),(4,.i)],[.e]⟩ .u))) .u))) JG Tryz.f196 [(197,JF)]:=gm
def V3:Gt aB.z X E (.v (.v (.seq (.v (.cut ⟨[(0,.p 0 2),(3,.o 1)],[.g pK,.rows true .ins]⟩ qq7)) (.seq (.v (.block (.loop amI (.v (.seq (.block (.v (.block (.v (.cut amI (.cond .u (.v (.cut amI (.cond .u (.v (.block (.loop ⟨[(0,.p 0 2),(3,.o 1),(4,.i),(5,.i)],[.g pK,.rows true .ins]⟩ .u)))))))))))) .u))))) (.v (.v (.seq (.block (.loop ⟨[(0,.p 0 2),(6,.o 1)],[.g pK,.e]⟩ .u)) (.v (.seq (.v (.block (.loop ⟨[(0,.p 0 2),(6,.o 1),(7,.i)],[.g pK,.e]⟩ .u))) (.v (.seq (.v (.cut ⟨[(6,.o 1)],[.g pK,.e]⟩ qq7)) .u))))))))))) Cw Tryz.f139 [(196,JG),(197,JF),(193,OT),(198,Cy),(195,Cy),(194,OT),(40,E9),(39,iJ),(98,OQ)]:=gm
def V4:Gt aB.z X E (.v (.v (.seq (.v (.block (.loop ⟨[(0,.p 0 2),(1,.i),(5,.o 1),(6,.i)],[.g pK,.e]⟩ .u))) .u))) UQ Tryz.f140 [(98,OQ)]:=gm
def V5:Gt aB.z X E .u oV Tryz.f14 [(47,bY),(48,bS),(46,Cx)]:=gm
def V6:Gt aB.z X E .u ze Tryz.f56 []:=gm
def V7:Gt aB.z X E (.v (.seq (.v (.block (.loop ⟨[(0,.r false .i64),(1,.i),(5,.i)],[]⟩ .u))) .u)) Cz Tryz.f182 []:=gm
def V8:Gt aB.z X E .u zf Tryz.f159 [(207,nQ),(47,bY)]:=gm
def V9:Gt aB.z X E (.v (.v (.seq (.v (.cut ap3 qq7)) .u))) afw Tryz.f266 []:=gm
def Wh:Gt aB.z X E .u pX Tryz.f267 []:=gm
def Wi:Gt aB.z X E (.v (.v (.seq (.v (.cut ⟨[(3,.i)],[]⟩ qq7)) .u))) l9 Tryz.f276 []:=gm
def Wj:Gt aB.z X E .u uw Tryz.f222 [(276,l9),(47,bY)]:=gm
def Wm:Gt aB.z X E .u pX Tryz.f307 [(276,l9)]:=gm
def Wn:Gt aB.z X E (.v (.seq (.v (.block (.v (.cond .u (.v (.cut ap3 (.cond .u (.v (.cut ap3 qq7))))))))) .u)) pX Tryz.f303 [(267,pX),(307,pX)]:=gm
def Wp:Gt aB.z X E .u OU Tryz.f304 [(307,pX)]:=gm
def Wq:Gt aB.z X E (.v (.v (.seq (.v (.block (.loop ⟨[(1,.i),(5,.i),(6,.i)],[]⟩ .u))) .u))) Fa Tryz.f305 [(276,l9)]:=gm
def Ws:Gt aB.z X E .u afx Tryz.f306 [(276,l9),(267,pX),(307,pX),(304,OU)]:=gm
def Wt:Gt aB.z X E (.v (.v (.v (.seq (.v (.cut ⟨[(2,.p 3 10),(3,.p 4 4),(4,.p 5 10),(5,.i)],ap7⟩ qq7)) .u)))) OV Tryz.f308 [(307,pX),(304,OU)]:=gm
def Wu:Gt aB.z X E (.v (.v (.seq (.v (.block (.v (.cond .u (.v (.cond .u (.v (.cond .u (.v (.cond .u (.seq (.v (.cut ⟨[(2,.p 3 10),(3,.p 4 4),(4,.p 5 10),(5,.i),(13,.i),(45,.b)],ap7⟩ qq7)) (.cond .u (.v (.cond .u (.v (.cond .u (.v (.cond .u (.seq (.v (.cut ⟨[(2,.p 3 10),(3,.p 4 4),(4,.p 5 10),(5,.i),(94,.b)],ap7⟩ qq7)) .u))))))))))))))))))) .u))) OV Tryz.f268 [(222,uw),(307,pX),(308,OV),(306,afx),(304,OU),(305,Fa),(303,pX)]:=gm
def Wv:Gt aB.z X E .u UR Tryz.f199 [(159,zf),(14,oV),(56,ze),(268,OV),(267,pX),(266,afw)]:=gm
def Ww:Gt aB.z X E (.v (.v (.v (.seq (.v (.block (.loop ⟨[(1,.r false .i64),(2,.i),(6,.p 0 10),(7,.p 1 10),(8,.i)],az6⟩ .u))) .u)))) afy Tryz.f141 [(14,oV),(199,UR),(56,ze),(182,Cz)]:=gm
def Wx:Gt aB.z X E (.v (.v (.v (.seq ap2 (.seq ap2 (.seq ap2 (.seq (.v (.cut ⟨[(2,.p 1 10),(3,.p 2 10)],apU⟩ qq7)) .u))))))) afz Tryz.f81 [(138,UO),(141,afy),(139,Cw),(38,Cw),(40,E9),(39,iJ),(140,UQ)]:=gm
def Wy:Gt aB.z X E (.v (.v (.seq (.v (.cut amH (.cond (.v (.block (.v (.cut amH (.cond .u (.v (.cut amH (.cond .u (.v (.cut amH (.cond .u (.v (.cut amL (.cond .u (.v (.cut amL (.cond .u (.v (.cut amL (.cond .u (.v (.cut amL qq7)))))))))))))))))))))) .u))) .u))) afA Tryz.f37 [(81,afz),(40,E9),(39,iJ)]:=gm
end Go.TX.F
end
noncomputable section
namespace Go.TX.F
open Go Go.AE Go.TX Go.TX.Seat Go.Proofs List
set_option maxRecDepth 100000
set_option maxHeartbeats 4000000
def Wz:Gt aB.z X E .u bS Tryz.f87 []:=gm
def WA:Gt aB.z X E .u bY Tryz.f49 [(87,bS)]:=gm
def WB:Gt aB.z X E (.v (.seq (.v (.block (.loop ⟨[(5,.r false .i64),(6,.i),(7,.i)],[]⟩ .u))) .u)) Cx Tryz.f86 [(49,bY)]:=gm
def ag5:Gt aB.z X E .u oV Tryz.f44 [(49,bY),(87,bS),(86,Cx)]:=gm
def ag6:Gt aB.z X E .u an1 Tryz.f60 []:=gm
def WE:Gt aB.z X E (.v (.v (.seq (.v (.block (.loop ⟨[(0,.r false .i64),(1,.r false .i64),(12,.i),(13,.i)],[]⟩ .u))) .u))) JH Tryz.f152 []:=gm
def ag7:Gt aB.z X E .u afB Tryz.f91 [(87,bS),(152,JH)]:=gm
def ag8:Gt aB.z X E .u afC Tryz.f149 [(91,afB)]:=gm
def ag9:Gt aB.z X E .u afD Tryz.f271 []:=gm
def WG:Gt aB.z X E (.v (.seq (.v (.block (.loop ⟨[(0,.r false .cac),(1,.c (.fn 60 [(0,1)])),(7,.i),(8,.i)],[.box (.i)]⟩ .u))) .u)) afE Tryz.f59 [(60,an1)]:=gm
def WH:Gt aB.z X E (.v (.seq (.v (.block (.loop ⟨[(0,.r false .cac),(1,.c (.fn 271 [(0,8)])),(7,.i),(8,.i)],[.s true .cac]⟩ .u))) .u)) afF Tryz.f59 [(271,afD)]:=gm
def WI:Gt aB.z X E (.v (.seq (.v (.block (.loop ⟨[(0,.o 0),(1,.c (.fn 149 [(1,1)])),(7,.i),(8,.i)],[.rows true .cac,.box (.r false .i64)]⟩ .u))) .u)) afG Tryz.f59 [(149,afC)]:=gm
def aha:Gt aB.z X E .u Gn Tryz.f24 [(59,afE)]:=gm
def ahb:Gt aB.z X E .u bY Tryz.f65 [(87,bS)]:=gm
def WJ:Gt aB.z X E .u bY Tryz.f166 [(87,bS)]:=gm
def ahc:Gt aB.z X E .u nQ Tryz.f104 [(87,bS),(166,bY)]:=gm
def ap8:Gt aB.z X E (.v (.v (.seq (.v (.block (.loop ⟨[(1,.r false .ins),(19,.r false .ins),(20,.i),(21,.i)],[]⟩ .u))) .u))) ad9 Tryz.f61 [(65,bY),(104,nQ),(87,bS)]:=gm
def ahd:Gt aB.z X E .u Sq Tryz.f117 [(87,bS)]:=gm
def WK:Gt aB.z X E (.v (.v (.seq (.v (.cut ⟨[(0,.p 0 8),(11,.p 2 5)],[.g [.i,.i,.own 1,.i,.i,.i,.i,.i],.rows true .iop,.g [.i,.i,.i,.i,.i]]⟩ qq7)) .u))) Fb Tryz.f106 [(117,Sq)]:=gm
def WL:Gt aB.z X E .u afH Tryz.f105 [(106,Fb)]:=gm
def WM:Gt aB.z X E .u OW Tryz.f107 [(106,Fb)]:=gm
def WO:Gt aB.z X E .u OW Tryz.f108 [(106,Fb)]:=gm
def WQ:Gt aB.z X E .u afI Tryz.f109 [(106,Fb)]:=gm
def WR:Gt aB.z X E (.v (.v (.v (.block (.v (.cut Pf (.cond .u (.v (.cut Pf (.cond .u (.v (.cut Pf (.cond .u (.v (.cut Pf (.cond .u (.v (.cut Pf (.cond .u (.v (.cut Pf (.cond .u (.v (.cut Pf (.cond .u (.seq (.v (.cut ⟨[(2,.p 2 1),(3,.p 3 4),(4,.c (.fn 105 [(2,1),(3,4)])),(11,.i),(112,.b)],[.g [.i,.i,.own 1,.i,.i,.i,.i,.i],.rows true .iop,.box (.p 0 8),.s false .ins]⟩ qq7)) (.cut Pf (.cond .u (.v (.cut Pf qq7)))))))))))))))))))))))))))))) afJ Tryz.f62 [(109,afI),(108,OW),(105,afH),(106,Fb),(107,OW)]:=gm
def ahe:Gt aB.z X E .u jW Tryz.f63 []:=gm
def ap9:Gt aB.z X E (.v (.v (.v (.seq (.v (.block (.loop ⟨[(4,.p 0 7),(5,.p 1 8),(23,.r false .ins),(24,.i),(25,.i)],[.g qq5,.g [.i,.i,.own 2,.i,.i,.i,.i,.i],.rows true .iop]⟩ .u))) .u)))) GI Tryz.f25 [(61,ad9),(63,jW),(62,afJ)]:=gm
def ahf:Gt aB.z X E .u Sv Tryz.f116 [(87,bS)]:=gm
def WS:Gt aB.z X E .u bY Tryz.f167 [(87,bS)]:=gm
def ahg:Gt aB.z X E .u Sq Tryz.f224 [(87,bS)]:=gm
def ahh:Gt aB.z X E .u Sw Tryz.f168 [(224,Sq),(87,bS)]:=gm
def ahi:Gt ⟨[],[27,40]⟩ X E .u an2 Tryz.f110 [(168,Sw),(116,Sv),(49,bY),(87,bS),(167,bY),(166,bY)]:=gm
def ahj:Gt aB.z X E .u Sy Tryz.f122 []:=gm
def ahk:Gt aB.z X E .u kD Tryz.f111 [(122,Sy),(168,Sw),(49,bY),(87,bS)]:=gm
def ahl:Gt aB.z X E (.v (.v (.seq (.v (.block (.loop ⟨[(1,.p 0 7),(25,.i),(26,.i)],[.s false .blk]⟩ .u))) .u))) kD Tryz.f69 [(111,kD),(110,an2),(87,bS)]:=gm
def WT:Gt aB.z X E (.v (.v (.seq (.v (.block (.loop ⟨[(0,.r false .iop),(1,.r false .iop),(12,.i),(13,.i)],[]⟩ .u))) .u))) afK Tryz.f112 []:=gm
def ahm:Gt aB.z X E .u lK Tryz.f70 [(112,afK)]:=gm
def ahn:Gt aB.z X E .u an3 Tryz.f146 [(87,bS)]:=gm
def aho:Gt aB.z X E .u an4 Tryz.f278 []:=gm
def WU:Gt aB.z X E (.v (.seq (.v (.block (.loop ⟨[(0,.r false .i64),(1,.c (.fn 278 [(0,1)])),(7,.i),(8,.i)],[.box (.i)]⟩ .u))) .u)) afL Tryz.f205 [(278,an4)]:=gm
def WW:Gt aB.z X E (.v (.seq (.v (.block (.loop ⟨[(0,.r false .i64),(1,.c (.fn 146 [(0,1),(1,7)])),(7,.i),(8,.i)],[.box (.p 2 12),.s true .blk,.g awW,.e,.e,.e]⟩ .u))) .u)) afM Tryz.f205 [(146,an3)]:=gm
def WX:Gt aB.z X E .u afN Tryz.f145 [(205,afL)]:=gm
def WY:Gt aB.z X E .u afO Tryz.f145 [(205,afM)]:=gm
def ahp:Gt aB.z X E (.v (.seq (.v (.block (.loop ⟨[(3,.p 0 1),(8,.r false .mono),(9,.i),(10,.i)],[.box (.i)]⟩ .u))) .u)) Sz Tryz.f225 [(145,afN)]:=gm
def aqa:Gt aB.z X E .u bY Tryz.f283 []:=gm
def aqb:Gt aB.z X E .u Fa Tryz.f232 [(283,bY)]:=gm
def aqc:Gt aB.z X E (.v (.v (.seq (.v (.block (.loop ⟨[(3,.i),(6,.r false .i64),(7,.i),(8,.i)],[]⟩ .u))) .u))) apT Tryz.f233 []:=gm
def WZ:Gt aB.z X E (.v (.seq (.v (.block (.loop ⟨[(0,.r false .i64),(1,.r false .i64),(9,.r false .i64),(10,.i),(11,.i)],[]⟩ .u))) .u)) ru Tryz.f284 [(232,Fa)]:=gm
def Xa:Gt aB.z X E .u ru Tryz.f234 [(233,apT),(232,Fa),(284,ru)]:=gm
def aqd:Gt aB.z X E .u amE Tryz.f285 [(283,bY)]:=gm
def Xb:Gt aB.z X E aw1 Cx Tryz.f236 [(285,amE)]:=gm
def ahq:Gt aB.z X E .u acp Tryz.f238 []:=gm
def Xc:Gt aB.z X E (.v (.seq (.v (.block (.loop ⟨[(0,.r false .mono),(1,.c (.fn 238 [])),(7,.i),(8,.i)],[]⟩ .u))) .u)) afP Tryz.f286 [(238,acp)]:=gm
def Xd:Gt aB.z X E .u afQ Tryz.f237 [(286,afP)]:=gm
def ahr:Gt aB.z X E (.v (.seq (.v (.block (.loop ⟨[(1,.p 0 1),(6,.r false .mono),(7,.i),(8,.i)],[.s false .poly]⟩ .u))) .u)) rz Tryz.f176 [(87,bS),(225,Sz),(236,Cx),(234,ru),(237,afQ)]:=gm
def ahs:Gt aB.z X E .u Nw Tryz.f170 [(87,bS),(167,bY),(225,Sz),(176,rz),(166,bY)]:=gm
def aht:Gt aB.z X E (.v (.v (.seq (.v (.block (.loop ⟨[(3,.p 0 1),(20,.r false .mono),(21,.i),(22,.i)],[.s false .poly]⟩ .u))) .u))) xu Tryz.f173 [(233,apT),(232,Fa),(234,ru)]:=gm
def Xe:Gt aB.z X E .u wz Tryz.f126 [(173,xu)]:=gm
def ahu:Gt aB.z X E .u SA Tryz.f228 [(126,wz)]:=gm
def ahv:Gt aB.z X E .u an5 Tryz.f227 [(228,SA)]:=gm
def Xf:Gt aB.z X E (.v (.seq (.v (.block (.loop ⟨[(0,.r false .atom),(1,.c (.fn 227 [(0,4)])),(7,.i),(8,.i)],[.s false .atom]⟩ .u))) .u)) afR Tryz.f226 [(227,an5)]:=gm
def ahw:Gt aB.z X E .u afS Tryz.f171 [(226,afR)]:=gm
def Xg:Gt aB.z X E .u afT Tryz.f235 []:=gm
def ahx:Gt aB.z X E .u afU Tryz.f174 [(170,Nw),(171,afS),(235,afT)]:=gm
def ahy:Gt aB.z X E .u rA Tryz.f175 [(87,bS)]:=gm
def Xh:Gt aB.z X E .u UU Tryz.f121 [(175,rA),(174,afU)]:=gm
def Xi:Gt aB.z X E (.v (.v (.seq (.v (.block (.loop ⟨[(0,.p 0 2),(3,.o 1),(5,.i)],[.g VA,.rows true .poly]⟩ .u))) .u))) UW Tryz.f113 [(121,UU)]:=gm
def Xj:Gt aB.z X E .u JI Tryz.f88 []:=gm
def ahz:Gt ⟨[20],[]⟩ X E (.v (.v (.seq (.v (.block (.loop ⟨[(2,.p 0 1),(3,.p 1 1),(7,.r false .mono),(8,.i),(9,.i)],[.g [.nil],.g [.own 2],.rows true .mono]⟩ .u))) .u))) acr Tryz.f169 [(88,JI)]:=gm
def ahA:Gt ⟨[25],[]⟩ X E (.v (.v (.seq (.v (.block (.loop ⟨[(2,.p 0 1),(3,.p 1 1),(7,.r false .atom),(8,.i),(9,.i)],[.g [.nil],.g [.own 2],.rows true .atom]⟩ .u))) .u))) SB Tryz.f114 [(169,acr)]:=gm
def ahB:Gt aB.z X E .u an6 Tryz.f71 [(114,SB),(113,UW)]:=gm
def ahC:Gt aB.z X E (.v (.seq (.v (.block (.loop ⟨[(1,.p 0 1),(6,.r false .atom),(7,.i),(8,.i)],[.s false .tab]⟩ .u))) .u)) acs Tryz.f115 [(170,Nw),(171,afS)]:=gm
def Xk:Gt aB.z X E .u afV Tryz.f118 []:=gm
def ahD:Gt aB.z X E .u rA Tryz.f119 [(87,bS)]:=gm
def Xl:Gt aB.z X E .u l9 Tryz.f150 []:=gm
def Xm:Gt aB.z X E .u uw Tryz.f131 [(49,bY),(150,l9)]:=gm
def ahE:Gt aB.z X E .u JJ Tryz.f178 [(176,rz)]:=gm
def Xo:Gt aB.z X E .u UY Tryz.f311 [(234,ru)]:=gm
def Xp:Gt aB.z X E (.v (.block (.loop ⟨[(0,.o 0),(1,.i),(2,.i),(3,.c (.fn 311 [])),(8,.i)],zk⟩ (.v (.seq (.block (.v (.block (.loop ⟨[(0,.o 0),(1,.i),(2,.i),(3,.c (.fn 311 [])),(8,.i),(9,.i)],zk⟩ .u)))) .u))))) afW Tryz.f339 [(311,UY)]:=gm
def Xq:Gt aB.z X E (.v (.block (.loop ⟨[(0,.o 0),(1,.i),(2,.i),(3,.i),(10,.i)],zk⟩ .u))) CB Tryz.f348 []:=gm
def Xr:Gt aB.z X E (.v (.v (.seq (.block (.loop aw6 (.v (.block (.v (.cut aw6 qq7)))))) .u))) CB Tryz.f346 [(348,CB)]:=gm
def JU:Gt aB.z X E (.seq (.v (.cond (.v (.v (.seq (.block (.loop aw7 (.v (.block (.v (.v (.cut aw7 qq7))))))) (.seq (.v (.block (.loop ⟨[(0,.o 0),(10,.i),(13,.i)],zk⟩ .u))) .u)))) .u)) (.seq (.v (.cond (.v (.v (.seq (.block (.loop aw5 (.v (.block (.v (.v (.cut aw5 qq7))))))) (.seq (.v (.block (.loop ⟨[(0,.o 0),(14,.i),(17,.i)],zk⟩ .u))) .u)))) .u)) (.v (.v (.v (.seq (.v (.cut ⟨[(0,.o 0),(1,.i),(2,.i),(3,.i),(4,.c (.fn 311 [])),(18,.i),(19,.i),(20,.i),(21,.i)],zk⟩ qq7)) (.v (.seq (.block (.loop awK (.v (.block (.v (.v (.cut awK qq7))))))) (.v (.seq (.v (.cut ⟨[(0,.o 0),(1,.i),(3,.i),(4,.c (.fn 311 [])),(18,.i),(20,.i),(24,.i)],zk⟩ qq7)) (.seq (.v (.cut ⟨[(0,.o 0),(3,.i),(4,.c (.fn 311 [])),(18,.i),(24,.i)],zk⟩ qq7)) (.v (.cut ⟨[],zk⟩ qq7))))))))))))) CB Tryz.f340 [(311,UY),(346,CB),(340,CB)]:=gm
def Xt:Gt aB.z X E (.v (.v (.seq awR (.v (.block (.loop aw8 (.v (.block (.v (.seq awR (.seq (.v (.v (.cut aw8 qq7))) .u))))))))))) afX Tryz.f324 [(339,afW),(340,CB)]:=gm
def Xu:Gt aB.z X E .u afY Tryz.f310 [(324,afX)]:=gm
def Xv:Gt ⟨[51],[]⟩ X E (.v (.v (.v (.seq (.v (.block (.loop awM (.v (.block (.v (.seq (.block (.loop ⟨[(0,.o 0),(2,.p 1 1),(4,.p 2 1),(5,.i),(6,.i),(7,.p 3 2)],[.rows false .mono,.g [.nil],.g [.own 4],.s false .mono,.rows true .mono]⟩ .u)) (.v (.cut awM qq7))))))))) .u)))) Va Tryz.f279 [(234,ru),(176,rz),(150,l9),(88,JI),(310,afY)]:=gm
end Go.TX.F
end
noncomputable section
namespace Go.TX.F
open Go Go.AE Go.TX Go.TX.Seat Go.Proofs List
set_option maxRecDepth 100000
set_option maxHeartbeats 4000000
def Xw:Gt aB.z X E (.v (.v (.seq (.v (.v (.cut ⟨[(0,.o 0)],[.rows true .mono]⟩ qq7))) .u))) afZ Tryz.f312 []:=gm
def Xx:Gt aB.z X E (.v (.v (.seq (.v (.block (.loop ⟨[(0,.r false .poly),(3,.i),(9,.r false .poly),(10,.i),(11,.i)],[]⟩ .u))) (.v (.seq (.v (.block (.loop ⟨[(6,.o 0),(25,.r false .poly),(26,.i),(27,.i)],zk⟩ .u))) .u))))) af0 Tryz.f280 [(312,afZ)]:=gm
def ahF:Gt aB.z X E .u DR Tryz.f229 [(176,rz),(279,Va),(280,af0)]:=gm
def Xy:Gt aB.z X E (.v (.v (.seq (.v (.v (.cut ⟨[(0,.o 0)],[.e]⟩ qq7))) .u))) af2 Tryz.f313 []:=gm
def Xz:Gt aB.z X E (.v (.v (.seq (.v (.block (.loop ⟨[(0,.r false .ints),(3,.i),(9,.r false .ints),(10,.i),(11,.i)],[]⟩ .u))) (.v (.seq (.v (.block (.loop ⟨[(6,.o 0),(25,.r false .ints),(26,.i),(27,.i)],[.e]⟩ .u))) .u))))) af3 Tryz.f281 [(313,af2)]:=gm
def XA:Gt aB.z X E (.v (.block (.loop ⟨[(0,.o 0),(1,.i),(2,.i),(6,.i)],[.e]⟩ (.v (.seq (.block (.v (.block (.loop ⟨[(0,.o 0),(1,.i),(2,.i),(6,.i),(7,.i)],[.e]⟩ .u)))) .u))))) JK Tryz.f325 [(285,amE)]:=gm
def XB:Gt aB.z X E (.v (.v (.block (.loop ap1 (.cut ap1 (.block (.v (.v (.v (.seq (.v (.cut ⟨[(0,.o 0),(1,.i),(2,.i),(3,.i),(8,.b),(9,.b),(10,.i)],[.e]⟩ qq7)) (.v (.seq (.v (.cut ⟨[(0,.o 0),(1,.i),(2,.i),(3,.i),(8,.b),(9,.b),(10,.i),(11,.i),(12,.i)],[.e]⟩ qq7)) (.seq (.v (.cut ⟨[(0,.o 0),(1,.i),(2,.i),(3,.i),(8,.b),(9,.b),(10,.i),(11,.i)],[.e]⟩ qq7)) (.v (.v (.v (.v (.v (.v (.cut ap1 qq7)))))))))))))))))))) JL Tryz.f314 [(285,amE),(325,JK),(326,JK),(327,JK),(328,Vb),(329,JK),(330,Vd),(331,Ve),(332,Vf),(314,JL)]:=gm
def XC:Gt aB.z X E .u af8 Tryz.f282 [(314,JL),(315,af7)]:=gm
def ahG:Gt aB.z X E (.v (.v (.v (.seq (.v (.block (.loop ⟨[(3,.p 0 1),(4,.p 1 1),(6,.o 2),(22,.r false .mono),(23,.i),(24,.i)],[.s false .poly,.g [.nil],.rows true .mono]⟩ (.v (.v (.seq (.block (.v (.v (.block (.loop ⟨[(3,.p 0 1),(4,.p 1 1),(6,.o 2),(8,.p 3 2),(22,.r false .mono),(23,.i),(24,.i),(29,.r false .mono),(30,.i),(31,.i)],[.s false .poly,.g [.nil],.rows true .mono,.s false .mono]⟩ .u))))) .u)))))) .u)))) DR Tryz.f231 [(176,rz),(150,l9),(279,Va),(281,af3),(282,af8)]:=gm
def ahH:Gt aB.z X E .u acu Tryz.f230 [(176,rz),(119,rA),(49,bY),(231,DR)]:=gm
def XD:Gt aB.z X E (.v (.v (.v (.v (.v (.seq (.v (.cut ⟨[(0,.i),(4,.p 0 1),(6,.p 1 1),(10,.i),(11,.b)],[.s true .poly,.g [.nil]]⟩ qq7)) .u)))))) af9 Tryz.f172 [(126,wz),(119,rA),(131,uw),(229,DR),(231,DR),(230,acu),(178,JJ)]:=gm
def ahI:Gt aB.z X E (.v (.v (.seq (.v (.cut ⟨[(1,.i),(4,.p 0 1),(6,.p 1 1),(7,.p 2 1),(8,.p 3 1),(9,.p 4 1)],[.s true .tab,.s true .poly,.s true .poly,.g [.nil],.g [.nil]]⟩ qq7)) .u))) an7 Tryz.f120 [(173,xu),(172,af9),(174,afU),(175,rA)]:=gm
def XE:Gt aB.z X E .u bS Tryz.f132 [(49,bY)]:=gm
def XF:Gt aB.z X E (.v (.v (.seq (.v (.block (.loop ⟨[(3,.o 0),(6,.r false .poly),(7,.i),(8,.i)],[.rows true .poly]⟩ .u))) .u))) Fe Tryz.f239 [(169,acr)]:=gm
def ahJ:Gt ⟨[42],[]⟩ X E (.v (.v (.seq (.v (.block (.loop ⟨[(2,.p 0 6),(3,.p 1 6),(21,.r false .ev),(22,.i),(23,.i)],qq9⟩ .u))) .u))) an8 Tryz.f177 [(169,acr),(239,Fe)]:=gm
def ahK:Gt aB.z X E (.v (.v (.v (.v (.v (.v (.seq (.block (.v (.cut ag4 (.cond .u (.v (.cut ag4 (.cond .u (.v (.cut ag4 (.cond (.v (.v (.v (.cut ⟨[(4,.p 0 6),(5,.p 1 6)],[.g xV,.g [.own 2,.own 3,.i,.nil,.nil,.i],.rows true .ev,.rows true .poly]⟩ qq7)))) (.v (.cut ag4 qq7)))))))))))) .u))))))) an9 Tryz.f123 [(178,JJ),(176,rz),(173,xu),(177,an8),(126,wz),(132,bS)]:=gm
def ahL:Gt aB.z X E (.v (.v (.v (.v (.v (.v (.seq (.v (.block (.loop qq0 (.v (.v (.seq (.block (.v (.v (.v (.seq (.v (.cut ⟨[(3,.p 0 7),(4,.p 1 1),(5,.p 2 6),(6,.p 3 2),(7,.p 4 6),(8,.o 5),(9,.i),(10,.i),(11,.i),(12,.p 6 5),(14,.b),(17,.p 7 1),(18,.p 8 1),(57,.r false .iop),(58,.i),(59,.i)],[.s false .blk,.g [.nil],.g xV,.g VA,.g [.own 9,.own 10,.i,.nil,.nil,.i],.rows true .poly,.s false .iop,.s true .poly,.g [.nil],.rows true .ev,.rows true .poly]⟩ qq7)) (.seq (.v (.cut aww qq7)) (.seq (.v (.cut aww (.cond (.v (.seq (.v (.cut ⟨[(3,.p 0 7),(4,.p 1 1),(5,.p 2 6),(6,.p 3 2),(7,.p 4 6),(8,.o 5),(9,.i),(10,.i),(11,.i),(12,.p 6 5),(17,.p 7 1),(18,.p 8 1),(19,.p 9 5),(57,.r false .iop),(58,.i),(59,.i)],[.s false .blk,.g [.nil],.g xV,.g VA,.g [.own 10,.own 11,.i,.nil,.nil,.i],.rows true .poly,.s false .iop,.s true .poly,.s true .poly,.g [.i,.i,.rows true .mono,.rows true .mono,.own 12],.rows true .ev,.rows true .poly,.rows true .poly]⟩ qq7)) .u)) .u))) (.v (.block (.v (.cut qq0 (.cond .u (.v (.cut qq0 (.cond .u (.v (.cut qq0 (.cond .u (.v (.cut qq0 (.cond .u (.v (.cut qq0 (.cond .u (.v (.cut qq0 qq7)))))))))))))))))))))))))) .u)))))) (.v (.seq (.v (.cut ⟨[(3,.p 0 7),(4,.p 1 1),(5,.p 2 6),(6,.p 3 2),(7,.p 4 6),(8,.o 5),(24,.b)],[.s false .blk,.g [.nil],.g xV,.g VA,.g [.own 6,.own 7,.i,.rows true .mono,.nil,.i],.rows true .poly,.rows true .ev,.rows true .poly]⟩ qq7)) (.seq (.v (.cut ⟨[(3,.p 0 7),(4,.p 1 1),(5,.p 2 6),(6,.p 3 2),(7,.p 4 6)],[.s false .blk,.g [.nil],.g xV,.g VA,.g [.own 5,.own 6,.i,.rows true .mono,.rows true .mono,.i],.rows true .ev,.rows true .poly]⟩ qq7)) .u)))))))))) aoa Tryz.f72 [(122,Sy),(69,kD),(117,Sq),(116,Sv),(119,rA),(123,an9),(115,acs),(114,SB),(120,an7),(121,UU),(113,UW),(118,afV)]:=gm
def XG:Gt aB.z X E .u wz Tryz.f180 [(126,wz)]:=gm
def XH:Gt aB.z X E (.v (.v (.seq (.v (.block (.loop ⟨[(1,.r false .poly),(2,.c (.fn 180 [])),(15,.r false .poly),(16,.i),(17,.i)],[]⟩ .u))) .u))) aga Tryz.f179 [(180,wz)]:=gm
def XI:Gt aB.z X E .u Fg Tryz.f127 [(179,aga)]:=gm
def ahM:Gt aB.z X E .u acv Tryz.f125 [(126,wz),(127,Fg)]:=gm
def XJ:Gt aB.z X E (.v (.v (.seq (.v (.block (.loop ⟨[(1,.r false .ev),(2,.c (.fn 125 [])),(15,.r false .ev),(16,.i),(17,.i)],[]⟩ .u))) .u))) agb Tryz.f124 [(125,acv)]:=gm
def ahN:Gt aB.z X E .u acw Tryz.f73 [(126,wz),(127,Fg),(124,agb)]:=gm
def ahO:Gt aB.z X E .u lK Tryz.f28 [(69,kD),(70,lK),(71,an6),(72,aoa),(73,acw)]:=gm
def ahP:Gt aB.z X E .u zf Tryz.f64 [(104,nQ),(49,bY)]:=gm
def aqe:Gt aB.z X E (.v (.v (.seq (.v (.cut ⟨[(3,.o 0)],[.rows true .ins]⟩ (.block (.loop ⟨[(3,.o 0),(8,.r false .i64),(9,.i),(10,.i)],[.rows true .ins]⟩ .u)))) .u))) agc Tryz.f33 [(64,zf)]:=gm
def ahQ:Gt aB.z X E (.v (.seq (.v (.block (.loop ⟨[(0,.r false .cac),(1,.r false .i64),(8,.r false .cac),(9,.i),(10,.i)],[]⟩ (.v (.v (.seq (.block (.v (.v (.seq (.cut ⟨[(0,.r false .cac),(1,.r false .i64),(8,.r false .cac),(9,.i),(10,.i),(57,.b)],[]⟩ .u) .u)))) .u)))))) .u)) acy Tryz.f53 [(25,GI),(61,ad9),(33,agc),(91,afB),(24,Gn),(28,lK)]:=gm
def ahR:Gt aB.z X E .u aob Tryz.f93 [(28,lK)]:=gm
def ahS:Gt aB.z X E .u aoc Tryz.f269 [(70,lK)]:=gm
def XK:Gt aB.z X E (.v (.seq (.v (.block (.loop ⟨[(0,.r false .cer),(1,.c (.fn 269 [(0,7),(1,7)])),(7,.i),(8,.i)],[.s false .blk,.s false .blk]⟩ .u))) .u)) agd Tryz.f153 [(269,aoc)]:=gm
def XL:Gt aB.z X E (.v (.seq (.v (.block (.loop ⟨[(0,.r false .cer),(1,.c (.fn 93 [])),(7,.i),(8,.i)],[]⟩ .u))) .u)) agf Tryz.f153 [(93,aob)]:=gm
def XM:Gt aB.z X E .u agh Tryz.f92 [(153,agd)]:=gm
def XO:Gt aB.z X E .u agi Tryz.f92 [(153,agf)]:=gm
def ahT:Gt aB.z X E .u acz Tryz.f54 [(92,agi)]:=gm
def ahU:Gt aB.z X E .u zh Tryz.f18 [(53,acy),(54,acz),(44,oV)]:=gm
def ahV:Gt aB.z X E .u ze Tryz.f45 [(88,JI)]:=gm
def ahW:Gt aB.z X E .u Ny Tryz.f142 [(63,jW),(88,JI)]:=gm
def XP:Gt aB.z X E (.v (.v (.seq (.v (.block (.loop ⟨[(3,.o 0),(6,.r false .cac),(7,.i),(8,.i)],[.rows true .cac]⟩ .u))) .u))) OX Tryz.f82 [(142,Ny)]:=gm
def ahX:Gt aB.z X E .u SE Tryz.f143 [(63,jW)]:=gm
def XQ:Gt aB.z X E (.v (.v (.seq (.v (.block (.loop ⟨[(3,.o 0),(6,.r false .cer),(7,.i),(8,.i)],[.rows true .cer]⟩ .u))) .u))) Vg Tryz.f83 [(143,SE)]:=gm
def ahY:Gt aB.z X E .u agj Tryz.f41 [(45,ze),(82,OX),(83,Vg)]:=gm
def ahZ:Gt aB.z X E .u oV Tryz.f42 []:=gm
def aqf:Gt aB.z X E (.v (.v (.v (.seq (.v (.cut ⟨[(3,.o 0)],[.rows true .ins]⟩ awU)) .u)))) Vh Tryz.f26 [(65,bY),(64,zf),(44,oV)]:=gm
def ah0:Gt aB.z X E .u agk Tryz.f151 []:=gm
def ah1:Gt aB.z X E (.v (.v (.v (.v (.v (.seq (.v (.block (.v (.cut Ph (.cond (.v (.block (.v (.cut amK (.cond .u (.v (.cut amK qq7))))))) (.v (.cut Ph (.cond .u (.v (.cut Ph (.cond .u (.v (.cut Ph (.cond .u (.v (.cut Ph (.cond .u (.v (.cut Ph (.cond .u (.seq (.v (.cut ⟨[(0,.p 0 12),(3,.p 4 4),(4,.i),(5,.c (.pr 1 0)),(6,.i),(50,.i),(133,.b)],[.g ag2,.e,.e,.e,.s false .ins]⟩ qq7)) (.cut Ph (.cond (.v (.cut amK qq7)) (.v (.cut Ph (.cond .u (.v (.cut Ph (.cond .u (.v (.cut amK qq7))))))))))))))))))))))))))))))) .u)))))) aod Tryz.f89 [(151,agk),(131,uw),(132,bS),(150,l9)]:=gm
end Go.TX.F
end
noncomputable section
namespace Go.TX.F
open Go Go.AE Go.TX Go.TX.Seat Go.Proofs List
set_option maxRecDepth 100000
set_option maxHeartbeats 4000000
def ah2:Gt aB.z X E (.v (.seq (.v (.cut ⟨[(0,.p 0 12)],[.g ag2,.e,.e,.e]⟩ qq7)) .u)) aoe Tryz.f51 [(64,zf),(89,aod)]:=gm
def XR:Gt aB.z X E (.v (.seq (.v (.block (.loop ⟨[(0,.r false .i64),(1,.i),(7,.i),(8,.i)],[]⟩ .u))) .u)) OY Tryz.f90 []:=gm
def XU:Gt aB.z X E .u Cz Tryz.f52 [(90,OY)]:=gm
def ah3:Gt aB.z X E .u aof Tryz.f66 []:=gm
def aqg:Gt aB.z X E .u awv Tryz.f67 []:=gm
def ah4:Gt aB.z X E (.v (.v (.v (.seq (.v (.block (.loop ⟨[(3,.o 0),(33,.r false .iop),(34,.i),(35,.i)],[.rows true .u8]⟩ .u))) .u)))) acA Tryz.f68 [(69,kD)]:=gm
def ah5:Gt aB.z X E (.v (.v (.v (.v (.seq (.v (.block (.loop ⟨[(0,.r false .u8),(2,.p 0 7),(4,.c (.fn 66 [])),(5,.p 1 7),(6,.i)],VB⟩ .u))) .u))))) SF Tryz.f27 [(67,awv),(68,acA),(66,aof)]:=gm
def ah6:Gt aB.z X E (.seq (.v (.block (.loop aw3 (.v (.v (.seq (.block (.v (.v (.seq (.v (.cut ⟨[(0,.p 0 7),(1,.r false .i64),(4,.i),(5,.p 2 5),(7,.b),(16,.o 1),(17,.i),(18,.i)],[.g [.i,.i,.own 1,.i,.i,.i,.i],.rows true .iop,.s true .iop]⟩ qq7)) (.v (.cut aw3 qq7)))))) .u)))))) (.v (.seq (.v (.cut ⟨[(0,.p 0 7),(1,.r false .i64),(11,.b)],ap0⟩ qq7)) (.v (.cut ⟨[],ap0⟩ qq7))))) agl Tryz.f133 [(122,Sy),(116,Sv)]:=gm
def ah7:Gt aB.z X E (.v (.v (.v (.v (.seq (.v (.block (.loop awD (.v (.v (.seq (.block (.v (.v (.v (.cut awD qq7))))) .u)))))) .u))))) Nz Tryz.f128 [(133,agl)]:=gm
def ah8:Gt aB.z X E (.v (.v (.v (.seq (.v (.cut ⟨[(1,.p 0 7),(3,.o 1),(5,.b)],ag3⟩ qq7)) (.seq ap4 (.seq (.v (.block (.loop ap5 (.v (.seq (.cut ap5 (.block (.v (.v (.v (.v (.seq (.v (.cut ⟨[(1,.p 0 7),(3,.o 1),(7,.i),(8,.p 2 5),(10,.b)],[.s false .blk,.rows true .bool,.s false .iop]⟩ qq7)) (.v (.cut ap5 qq7))))))))) .u))))) .u)))))) acB Tryz.f129 [(122,Sy),(116,Sv)]:=gm
def ah9:Gt aB.z X E .u zi Tryz.f74 [(128,Nz),(129,acB),(69,kD)]:=gm
def aia:Gt aB.z X E (.v (.v (.v (.v (.seq (.v (.block (.loop amG (.v (.seq (.block (.v (.v (.v (.block (.v (.cut amG (.cond .u (.v (.cut amG (.cond .u (.seq (.v (.cut ⟨[(1,.p 0 7),(2,.p 1 7),(3,.o 2),(4,.o 3),(5,.i),(55,.b)],[.s false .blk,.g qq5,.rows true .bool,.rows true .bool]⟩ qq7)) (.cut amG qq7))))))))))))) .u))))) .u))))) zi Tryz.f75 [(128,Nz),(69,kD)]:=gm
def aib:Gt aB.z X E .u aog Tryz.f130 []:=gm
def aic:Gt aB.z X E (.v (.v (.v (.v (.seq (.v (.block (.loop awO (.v (.v (.seq (.block (.v (.seq (.cut ⟨[(1,.p 0 7),(2,.p 1 7),(3,.p 2 7),(4,.c (.fn 130 [(2,7)])),(5,.i),(6,.p 3 5),(15,.o 4),(16,.i),(17,.i),(36,.b)],[.s false .blk,.g qq5,.g VD,.s true .iop,.rows true .iop]⟩ .u) (.cut awO qq7)))) .u)))))) (.seq (.block (.seq (.cut ⟨[(1,.p 0 7),(2,.p 1 7),(3,.p 2 7),(4,.c (.fn 130 [(2,7)])),(60,.b)],apX⟩ .u) (.cut amM (.cond .u (.seq (.cut ⟨[(1,.p 0 7),(2,.p 1 7),(3,.p 2 7),(80,.b)],apX⟩ .u) (.cut amM (.cond (.v (.v (.cut amM qq7))) .u))))))) .u)))))) zi Tryz.f76 [(63,jW),(69,kD),(130,aog),(131,uw),(132,bS)]:=gm
def aie:Gt aB.z X E (.v (.v (.v (.v (.seq (.v (.block (.loop amF (.v (.v (.seq (.block (.v (.v (.block (.v (.cut amF (.cond .u (.v (.cut amF (.cond .u (.v (.cut amF qq7)))))))))))) .u)))))) .u))))) zi Tryz.f77 [(63,jW),(133,agl),(69,kD)]:=gm
def aif:Gt aB.z X E .u zi Tryz.f30 [(76,zi),(77,zi),(74,zi),(75,zi)]:=gm
def aii:Gt aB.z X E .u aoh Tryz.f200 [(27,SF),(30,zi)]:=gm
def aij:Gt aB.z X E .u acC Tryz.f201 [(92,agh)]:=gm
def XV:Gt aB.z X E .u agm Tryz.f270 []:=gm
def aik:Gt aB.z X E .u acD Tryz.f202 [(83,Vg),(270,agm)]:=gm
def XW:Gt aB.z X E (.v (.v (.v (.seq (.v (.block (.loop awT (.v (.seq (.block (.v (.v (.cut awT qq7)))) .u))))) .u)))) agn Tryz.f148 [(271,afD),(59,afF)]:=gm
def XY:Gt aB.z X E (.v (.v (.v (.seq (.v (.block (.loop awQ (.v (.seq (.block (.v (.v (.cut awQ qq7)))) .u))))) .u)))) agp Tryz.f148 [(149,afC),(59,afG)]:=gm
def XZ:Gt aB.z X E .u agq Tryz.f272 []:=gm
def ail:Gt aB.z X E .u aoi Tryz.f203 [(82,OX),(272,agq),(148,agn)]:=gm
def ain:Gt aB.z X E .u JF Tryz.f273 [(104,nQ)]:=gm
def aqh:Gt aB.z X E (.v (.v (.seq (.v (.block (.loop ⟨[(3,.o 0),(6,.r false .ins),(7,.i),(8,.i)],[.e]⟩ .u))) .u))) JG Tryz.f204 [(273,JF)]:=gm
def aio:Gt aB.z X E (.v (.v (.v (.seq (.v (.v (.cut apZ (.cond (.v (.v (.cut apZ (.cond (.v (.v (.cut apZ qq7))) .u)))) .u)))) .u)))) aoj Tryz.f144 [(25,GI),(204,JG),(203,aoi),(201,acC),(202,acD),(28,lK),(200,aoh)]:=gm
def aip:Gt aB.z X E (.v (.v (.seq (.v (.block (.loop qq1 (.v (.v (.seq (.block (.v (.v (.seq (.v (.cut ⟨[(1,.p 0 12),(2,.p 4 7),(4,.o 5),(5,.i),(6,.p 6 5),(7,.i),(8,.i),(14,.r false .iop),(15,.i),(16,.i)],[.g [.own 1,.i,.own 2,.i,.bool,.bool,.i,.e,.own 7,.i,.rows true .cac,.rows true .cer],.e,.e,.gone,.s false .blk,.e,.s false .iop,.e]⟩ qq7)) (.v (.v (.block (.v (.cut qq1 (.cond .u (.v (.cut qq1 (.cond .u (.v (.cut qq1 (.cond .u (.v (.cut qq1 (.cond .u (.v (.cut qq1 (.cond .u (.v (.cut qq1 (.cond .u (.v (.cut qq1 (.cond .u (.v (.cut qq1 qq7)))))))))))))))))))))))))))))) .u)))))) (.v (.v (.block (.v (.cut ⟨[],qq6⟩ (.cond .u (.v (.cut ⟨[],qq6⟩ (.cond .u (.v (.v (.cut ⟨[],qq6⟩ qq7))))))))))))))) aol Tryz.f147 [(151,agk),(131,uw),(132,bS),(87,bS)]:=gm
end Go.TX.F
end
noncomputable section
namespace Go.TX.F
open Go Go.AE Go.TX Go.TX.Seat Go.Proofs List
set_option maxRecDepth 100000
set_option maxHeartbeats 4000000
def aiq:Gt aB.z X E (.v (.v (.v (.v (.v (.v (.seq (.v (.cut ⟨[(0,.p 0 12),(1,.r false .i64),(2,.i),(9,.p 4 1),(10,.b),(11,.b),(12,.i)],[.g ag2,.e,.e,.e,.box (.p 0 12)]⟩ qq7)) .u))))))) aom Tryz.f84 [(26,Vh),(24,Gn),(144,aoj),(147,aol),(51,aoe),(145,afO),(52,Cz)]:=gm
def air:Gt aB.z X E .u SG Tryz.f85 [(82,OX),(148,agp)]:=gm
def ais:Gt aB.z X E .u agr Tryz.f43 [(85,SG),(84,aom)]:=gm
def ait:Gt aB.z X E (.v (.v (.v (.v (.seq (.block (.loop ⟨awY,[.g JR,.g [.own 2,.i,.own 3,.i,.bool,.bool,.i,.e,.own 4,.i,.rows true .cac,.rows true .cer],.e,.e,.e]⟩ (.v (.block (.v (.seq (.v (.cut ⟨[(1,.r false .i64),(2,.i),(3,.r false .ask),(8,.p 0 12),(9,.p 1 12),(10,.i),(11,.p 2 2)],[.g JR,.g awW,.s false .ask,.e,.e,.e]⟩ qq7)) (.v (.cut ⟨awY,[.g JR,.g [.own 2,.i,.own 3,.i,.bool,.bool,.i,.e,.own 4,.i,.own 5,.rows true .cer],.e,.e,.e,.rows true .cac]⟩ qq7)))))))) .u))))) ags Tryz.f12 [(41,agj),(43,agr),(18,zh),(42,oV)]:=gm
def X3:Gt aB.z X E .u CF Tryz.f15 [(49,bY)]:=gm
def X4:Gt aB.z X E awP JH Tryz.f50 []:=gm
def X5:Gt aB.z X E .u Vi Tryz.f16 [(50,JH)]:=gm
def X6:Gt aB.z X E awL lK Tryz.f29 []:=gm
def X7:Gt aB.z X E (.v (.v (.seq (.v (.block (.loop ⟨[(0,.r false .cac),(1,.r false .cac),(5,.i)],[]⟩ .u))) .u))) Vj Tryz.f35 [(29,lK),(50,JH)]:=gm
def X8:Gt aB.z X E (.v (.v (.seq (.v (.block (.loop ⟨[(0,.r false .cer),(1,.r false .cer),(5,.i)],[]⟩ .u))) .u))) agt Tryz.f55 [(29,lK)]:=gm
def X9:Gt aB.z X E .u agu Tryz.f20 [(35,Vj),(55,agt),(16,Vi)]:=gm
def Ya:Gt aB.z X E .u agv Tryz.f21 [(14,oV),(56,ze)]:=gm
def Yb:Gt aB.z X E (.v (.v (.seq (.v (.block (.loop ⟨[(1,.r false .ins),(5,.i)],[]⟩ .u))) .u))) ad9 Tryz.f154 [(160,bY),(207,nQ),(48,bS),(206,nQ)]:=gm
def Yc:Gt aB.z X E .u Fj Tryz.f208 []:=gm
def Yd:Gt aB.z X E .u Vk Tryz.f209 [(208,Fj)]:=gm
def Ye:Gt aB.z X E .u JM Tryz.f210 [(208,Fj)]:=gm
def Yf:Gt aB.z X E .u Vm Tryz.f211 [(210,JM),(208,Fj)]:=gm
def Yg:Gt aB.z X E (.v (.v (.seq (.v (.block (.loop ⟨[(0,.i),(3,.i),(4,.i)],[]⟩ .u))) .u))) l9 Tryz.f212 []:=gm
def Yh:Gt aB.z X E .u OZ Tryz.f213 [(210,JM),(208,Fj),(211,Vm),(209,Vk)]:=gm
def Yi:Gt aB.z X E (.v (.v (.v (.v (.v (.seq (.v (.cut ⟨[(3,.p 1 4),(4,.p 2 7),(8,.i),(9,.p 3 7),(10,.i)],[.gone,.s false .ins,.g qq5,.g VD,.rows true .iop]⟩ qq7)) .u)))))) agw Tryz.f214 [(210,JM)]:=gm
def Yj:Gt aB.z X E (.v (.seq (.v (.block (.v (.cond .u (.v (.cond .u (.v (.cond .u (.seq (.v (.cut ⟨[(2,.i),(3,.p 1 7),(4,.p 2 4),(6,.p 3 7),(22,.i),(70,.b)],awF⟩ qq7)) (.cond .u (.v (.cond .u (.v (.cond .u (.seq (.v (.cut aw9 (.cond .u (.v (.cut aw9 qq7))))) .u))))))))))))))) .u)) OZ Tryz.f155 [(210,JM),(214,agw),(208,Fj),(213,OZ),(211,Vm),(209,Vk),(212,l9)]:=gm
def Yk:Gt aB.z X E (.v (.v (.v (.seq (.v (.block (.loop ⟨[(1,.r false .ins),(4,.p 0 7),(5,.p 1 7),(6,.i)],VB⟩ .u))) .u)))) GI Tryz.f95 [(154,ad9),(155,OZ)]:=gm
def Yl:Gt aB.z X E .u jW Tryz.f156 []:=gm
def Pj:Gt aB.z X E (.v (.v (.v (.v (.seq (.v (.block (.v (.cut qq8 (.cond .u (.v (.cut qq8 (.cond .u (.v (.cut qq8 (.cond .u (.v (.cut qq8 (.cond .u (.v (.cut qq8 (.cond .u (.v (.cut qq8 (.cond .u (.v (.cut qq8 (.cond (.v (.cut qq8 qq7)) (.v (.cut qq8 qq7))))))))))))))))))))))))) .u))))) JN Tryz.f96 [(39,iJ),(156,jW)]:=gm
def Ym:Gt aB.z X E .u bY Tryz.f309 [(48,bS)]:=gm
def Yn:Gt aB.z X E .u JO Tryz.f275 [(309,bY)]:=gm
def Yp:Gt aB.z X E (.v (.v (.seq (.v (.block (.v (.cond .u (.v (.cond .u (.v (.cond .u (.seq (.v (.cut ⟨[(0,.r false .iop),(1,.i),(2,.i),(7,.p 0 5),(13,.i),(78,.b)],[.s false .iop]⟩ qq7)) .u))))))))) .u))) JO Tryz.f216 [(47,bY),(48,bS),(275,JO)]:=gm
def Yq:Gt aB.z X E (.v (.v (.seq (.v (.block (.v (.cond .u (.v (.cond .u (.seq (.v (.cut ⟨[(1,.p 0 7),(3,.i),(42,.b)],[.s false .blk]⟩ qq7)) .u))))))) .u))) kD Tryz.f217 [(47,bY),(275,JO)]:=gm
def Yr:Gt aB.z X E (.v (.v (.seq (.v (.block (.loop ⟨[(1,.p 0 7),(3,.i)],[.s false .blk]⟩ .u))) .u))) kD Tryz.f161 [(48,bS),(217,kD),(216,JO)]:=gm
def Yt:Gt aB.z X E (.v (.v (.seq (.v (.cut ⟨[(1,.r false .i64),(2,.p 0 5),(4,.p 1 5),(5,.p 2 5)],[.s false .iop,.g [.i,.i,.i,.i,.i],.s true .iop]⟩ qq7)) (.seq (.v (.cut ⟨[(4,.p 0 5),(5,.p 1 5)],[.g [.i,.i,.i,.i,.i],.s true .iop]⟩ qq7)) .u)))) Vn Tryz.f215 [(48,bS)]:=gm
def Yu:Gt aB.z X E (.v (.v (.v (.v (.v (.seq (.v (.block (.loop ⟨[(2,.p 0 7),(3,.p 1 7),(4,.o 2),(5,.o 3),(6,.i)],[.g qq5,.g VD,.e,.e,.rows true .iop]⟩ (.v (.seq (.block (.v (.v (.v (.seq awC (.seq awC (.seq (.v (.cut ⟨[(2,.p 0 7),(3,.p 1 7),(4,.o 2),(5,.o 3),(6,.i),(8,.i)],[.g qq5,.g VD,.e,.e,.rows true .iop]⟩ qq7)) .u))))))) .u))))) (.seq (.v (.cut ⟨[(2,.p 0 7),(3,.p 1 7),(4,.o 2)],[.g qq5,.g [.i,.i,.own 3,.i,.i,.i,.i],.e,.rows true .iop]⟩ qq7)) (.seq (.v (.cut amM qq7)) .u)))))))) jW Tryz.f158 [(161,kD),(215,Vn),(156,jW)]:=gm
end Go.TX.F
end
noncomputable section
namespace Go.TX.F
open Go Go.AE Go.TX Go.TX.Seat Go.Proofs List
set_option maxRecDepth 100000
set_option maxHeartbeats 4000000
def Yv:Gt aB.z X E (.v (.v (.v (.seq (.v (.block (.loop awI (.v (.seq (.block (.v (.v (.cut awI qq7)))) .u))))) (.v (.v (.seq (.v (.cut ⟨[(2,.p 0 7),(4,.p 1 7),(6,.o 2),(8,.p 3 7)],[.s false .blk,.g qq5,.e,.g VD,.rows true .iop]⟩ qq7)) (.seq (.v (.cut ⟨[(4,.p 0 7),(8,.p 1 7)],VB⟩ qq7)) .u)))))))) Nz Tryz.f218 [(215,Vn)]:=gm
def Yw:Gt aB.z X E (.v (.v (.v (.seq (.v (.block (.loop ⟨[(1,.p 0 7),(3,.o 1),(4,.i)],ag3⟩ .u))) (.seq ap4 (.seq ap4 (.seq (.v (.block (.loop ap6 (.v (.seq (.cut ap6 (.block (.v (.v (.seq (.v (.cut ⟨[(1,.p 0 7),(3,.o 1),(5,.i),(6,.p 2 5)],[.s false .blk,.rows true .bool,.s false .iop]⟩ qq7)) (.v (.cut ap6 qq7))))))) .u))))) .u))))))) acB Tryz.f219 [(161,kD),(48,bS)]:=gm
def Yx:Gt aB.z X E .u jW Tryz.f163 [(161,kD),(219,acB),(218,Nz)]:=gm
def Yy:Gt aB.z X E (.v (.seq (.v (.block (.loop ⟨[(0,.r false .iop),(1,.i),(5,.i)],[]⟩ .u))) .u)) agx Tryz.f220 []:=gm
def Yz:Gt aB.z X E (.v (.v (.v (.seq (.v (.block (.loop ⟨[(1,.p 0 7),(2,.p 1 7),(3,.o 2),(4,.i)],[.s false .blk,.g qq5,.rows true .bool]⟩ .u))) .u)))) jW Tryz.f164 [(161,kD),(218,Nz),(220,agx)]:=gm
def YA:Gt aB.z X E .u Vo Tryz.f221 []:=gm
def YB:Gt aB.z X E .u agy Tryz.f277 []:=gm
def YC:Gt aB.z X E (.v (.v (.v (.seq (.block (.v (.cond .u (.seq (.v (.cut ⟨[(1,.p 0 7),(2,.p 1 7),(4,.b),(6,.b),(33,.b)],[.s false .blk,.g qq5]⟩ qq7)) .u)))) .u)))) O5 Tryz.f223 [(277,agy),(221,Vo)]:=gm
def YD:Gt aB.z X E (.v (.v (.v (.seq (.v (.block (.loop ⟨[(2,.p 0 7),(3,.p 1 7),(4,.i)],VB⟩ (.v (.seq (.block (.v (.v (.v (.v (.cut ⟨[(2,.p 0 7),(3,.p 1 7),(4,.i)],VB⟩ qq7)))))) .u))))) .u)))) O5 Tryz.f165 [(161,kD),(222,uw),(223,O5),(221,Vo),(156,jW)]:=gm
def YE:Gt aB.z X E .u jW Tryz.f102 [(165,O5),(158,jW),(163,jW),(164,jW)]:=gm
def YF:Gt aB.z X E (.v (.v (.seq (.v (.block (.loop amI .u))) .u))) agz Tryz.f157 [(198,Cy),(39,iJ)]:=gm
def YG:Gt aB.z X E .u Vp Tryz.f97 [(95,GI),(102,jW),(158,jW),(39,iJ),(157,agz)]:=gm
def YH:Gt aB.z X E (.v (.v (.v (.seq (.v awU) .u)))) Vh Tryz.f99 [(160,bY),(159,zf),(14,oV)]:=gm
def YI:Gt aB.z X E .u agA Tryz.f162 []:=gm
def YJ:Gt aB.z X E (.v (.v (.v (.v (.seq (.v (.block (.loop ⟨[(1,.p 0 7),(3,.o 1),(4,.i)],[.s false .blk,.rows true .u8]⟩ .u))) .u))))) acA Tryz.f100 [(161,kD),(162,agA)]:=gm
def YK:Gt aB.z X E (.v (.v (.seq (.v (.block (.loop awJ (.v (.seq (.block (.v (.seq (.seq (.cut ⟨[(0,.p 0 2),(4,.p 1 7),(5,.p 2 7),(6,.i),(7,.p 3 5),(34,.b)],[.g pK,.g qq5,.g VD,.s true .iop,.rows true .iop]⟩ .u) awH) (.seq (.v awH) (.v (.cut awJ qq7)))))) .u))))) .u))) JN Tryz.f101 [(39,iJ),(156,jW)]:=gm
def YL:Gt aB.z X E .u agB Tryz.f103 [(39,iJ)]:=gm
def Pm:Gt aB.z X E .u O6 Tryz.f58 [(99,Vh),(95,GI),(100,acA),(102,jW),(39,iJ),(96,JN),(97,Vp),(101,JN),(103,agB)]:=gm
def YM:Gt aB.z X E awL lK Tryz.f189 []:=gm
def YN:Gt aB.z X E .u rA Tryz.f249 [(48,bS)]:=gm
def YO:Gt aB.z X E (.v (.v (.v (.seq (.v (.block (.loop ⟨[(0,.p 0 1),(2,.p 1 1),(3,.o 2),(4,.i)],[.g [.nil],.g [.own 3],.rows true .poly,.rows true .atom]⟩ .u))) .u)))) Vq Tryz.f190 [(249,rA)]:=gm
def YP:Gt aB.z X E awP ru Tryz.f302 []:=gm
def YQ:Gt aB.z X E (.v (.v (.seq (.v (.block (.loop ⟨[(1,.p 0 2),(3,.i)],[.s false .mono]⟩ .u))) .u))) acp Tryz.f323 [(48,bS)]:=gm
def YR:Gt aB.z X E (.v (.v (.seq (.v (.block (.loop ⟨[(1,.p 0 1),(3,.i)],[.s false .poly]⟩ .u))) .u))) rz Tryz.f298 [(323,acp),(302,ru)]:=gm
def YS:Gt aB.z X E .u agC Tryz.f317 []:=gm
def YT:Gt aB.z X E (.v (.seq (.v (.block (.loop ⟨[(1,.i),(2,.p 0 1),(5,.i)],[.s false .poly]⟩ (.v (.seq (.block (.v (.block (.loop ⟨[(1,.i),(2,.p 0 1),(5,.i),(6,.i)],[.s false .poly]⟩ .u)))) .u))))) .u)) Sz Tryz.f318 []:=gm
def YU:Gt aB.z X E (.v (.seq (.v (.block (.v (.cond .u (.seq (.v (.cut ⟨[(1,.i),(2,.p 0 4),(6,.i),(16,.b)],[.s false .atom]⟩ qq7)) .u))))) .u)) Nw Tryz.f292 [(48,bS),(298,rz),(318,Sz),(317,agC)]:=gm
def YV:Gt aB.z X E (.v (.v (.seq (.v (.block (.loop ⟨[(2,.p 0 1),(3,.p 1 1),(5,.i)],[.s false .poly,.s false .poly]⟩ .u))) .u))) xu Tryz.f264 [(302,ru)]:=gm
def YW:Gt aB.z X E .u SA Tryz.f293 [(264,xu)]:=gm
def YX:Gt aB.z X E (.v (.v (.seq (.v (.block (.loop ⟨[(1,.p 0 1),(3,.i)],[.s false .tab]⟩ (.v (.seq (.block (.v (.v (.block (.loop ⟨[(1,.p 0 1),(3,.i),(4,.i)],[.s false .tab]⟩ .u))))) .u))))) .u))) acs Tryz.f250 [(292,Nw),(293,SA)]:=gm
def YZ:Gt ⟨[26],[]⟩ X E (.v (.v (.seq (.v (.block (.loop ⟨[(0,.r false .mono),(2,.p 0 1),(3,.p 1 1),(4,.i)],[.g [.nil],.g [.own 2],.rows true .mono]⟩ .u))) .u))) uz Tryz.f259 []:=gm
def Za:Gt aB.z X E .u Vr Tryz.f294 [(259,uz)]:=gm
def Zb:Gt ⟨[20],[]⟩ X E (.v (.v (.seq (.v (.block (.loop ⟨[(1,.p 0 1),(2,.p 1 1),(3,.p 2 1),(4,.i)],[.s false .tab,.g [.nil],.g [.own 3],.rows true .atom]⟩ .u))) .u))) SB Tryz.f251 [(294,Vr)]:=gm
def Zc:Gt ⟨[38],[]⟩ X E (.v (.v (.seq (.v (.block (.loop ⟨[(2,.p 1 1),(3,.p 2 4),(4,.p 3 1),(6,.i)],[.rows true .atom,.g [.own 0],.s false .atom,.g [.nil]]⟩ .u))) .u))) O7 Tryz.f252 [(292,Nw),(293,SA),(294,Vr)]:=gm
def Zd:Gt aB.z X E .u agD Tryz.f253 []:=gm
def Ze:Gt aB.z X E .u rA Tryz.f254 [(48,bS)]:=gm
def Zf:Gt aB.z X E (.v (.v (.v (.seq (.v (.block (.loop apY (.v (.seq (.block (.v (.seq (.v (.cut ⟨[(0,.r false .mono),(3,.p 0 2),(5,.o 1),(6,.b),(7,.i),(8,.i)],[.s false .mono,.rows false .mono]⟩ qq7)) (.v (.cut apY (.cond (.v (.v (.v (.cut apY qq7)))) .u)))))) .u))))) (.seq (.v (.cut ⟨[(5,.o 0)],zk⟩ qq7)) .u))))) Vt Tryz.f336 [(302,ru),(276,l9)]:=gm
def Zg:Gt aB.z X E (.v (.v (.seq (.v (.block (.loop ⟨[(0,.r false .mono),(2,.p 0 1),(4,.i)],[.g [.nil]]⟩ .u))) .u))) Vu Tryz.f337 [(259,uz)]:=gm
def Zh:Gt aB.z X E (.v (.v (.v (.seq (.v (.block (.loop ⟨[(3,.p 0 1),(4,.p 1 1),(6,.r false .mono),(7,.i)],[.s false .poly,.g [.nil]]⟩ .u))) .u)))) DR Tryz.f319 [(298,rz),(336,Vt),(337,Vu)]:=gm
def Zi:Gt aB.z X E (.v (.v (.v (.seq (.v (.block (.loop awN (.v (.seq (.block (.v (.v (.cut awN qq7)))) .u))))) .u)))) acu Tryz.f320 [(298,rz),(276,l9),(259,uz),(47,bY)]:=gm
def Zj:Gt aB.z X E (.v (.v (.v (.seq (.v (.block (.loop aw0 (.v (.seq (.block (.seq (.block (.loop aw0 .u)) .u)) .u))))) .u)))) agE Tryz.f338 []:=gm
def Zk:Gt aB.z X E (.v (.v (.v (.seq (.v (.block (.loop ⟨[(2,.p 0 1),(3,.p 1 1),(4,.p 2 1),(6,.o 3),(7,.i)],[.s false .poly,.s false .poly,.g [.nil],.rows false .mono]⟩ (.v (.seq (.block (.v (.block (.loop awG (.v (.seq (.block (.v (.v (.cut awG qq7)))) .u)))))) .u))))) .u)))) DR Tryz.f321 [(298,rz),(276,l9),(336,Vt),(338,agE),(337,Vu)]:=gm
def Zl:Gt aB.z X E .u O8 Tryz.f295 [(321,DR),(319,DR),(320,acu)]:=gm
def Zm:Gt aB.z X E .u JJ Tryz.f299 [(298,rz)]:=gm
def Zn:Gt aB.z X E .u agF Tryz.f322 [(259,uz)]:=gm
def Zo:Gt aB.z X E .u O8 Tryz.f296 [(264,xu),(259,uz),(222,uw),(254,rA),(299,JJ),(322,agF)]:=gm
def Zp:Gt aB.z X E (.v (.v (.seq (.v (.cut ⟨[(1,.i),(4,.p 1 1),(6,.p 2 1),(7,.p 3 1),(8,.p 4 1),(9,.p 5 1),(10,.p 6 1),(11,.b)],[.rows true .atom,.g [.own 0],.s false .poly,.s false .poly,.g [.nil],.g [.nil],.g [.own 7],.rows true .mono]⟩ qq7)) (.v (.v (.seq (.v (.cut ⟨[(4,.p 1 1),(8,.p 2 1),(9,.p 3 1),(12,.p 4 4)],[.rows true .atom,.g [.own 0],.g [.nil],.g [.nil],.g [.i,.i,.rows false .mono,.rows false .mono]]⟩ qq7)) .u)))))) agG Tryz.f255 [(249,rA),(264,xu),(295,O8),(296,O8),(252,O7)]:=gm
def Zq:Gt aB.z X E (.v (.v (.seq (.v (.block (.loop axa (.v (.seq (.block (.v (.cut axa qq7))) .u))))) .u))) agH Tryz.f297 []:=gm
def Zr:Gt aB.z X E (.v (.v (.seq (.v (.cut ⟨[(3,.p 1 1),(6,.p 2 1),(7,.p 3 1),(8,.p 4 4)],[.rows true .atom,.g [.own 0],.g [.nil],.g [.nil],.g [.i,.i,.nil,.nil]]⟩ qq7)) .u))) agI Tryz.f256 [(249,rA),(252,O7),(297,agH)]:=gm
def Zt:Gt aB.z X E (.v (.v (.seq (.v (.block (.loop ⟨[(0,.r false .poly),(3,.o 0),(4,.i)],[.rows true .poly]⟩ .u))) .u))) Fe Tryz.f258 [(259,uz)]:=gm
def Zu:Gt aB.z X E (.v (.v (.seq (.v (.cut ⟨[(3,.r false .poly),(4,.p 0 5),(6,.p 1 1),(8,.p 2 5),(9,.p 3 5)],[.s false .iop,.s false .poly,.g [.i,.i,.nil,.nil,.nil],.g [.i,.i,.own 4,.nil,.nil],.rows true .mono]⟩ qq7)) (.seq (.v (.cut ⟨[(3,.r false .poly),(4,.p 0 5),(8,.p 1 5),(9,.p 2 5)],[.s false .iop,.g [.i,.i,.nil,.nil,.nil],.g [.i,.i,.own 3,.own 4,.nil],.rows true .mono,.rows true .mono]⟩ qq7)) (.seq (.v (.cut ⟨[(8,.p 0 5),(9,.p 1 5)],[.g [.i,.i,.nil,.nil,.nil],.g [.i,.i,.own 2,.own 3,.own 4],.rows true .mono,.rows true .mono,.rows true .poly]⟩ qq7)) .u))))) agJ Tryz.f257 [(259,uz),(258,Fe)]:=gm
end Go.TX.F
end
noncomputable section
namespace Go.TX.F
open Go Go.AE Go.TX Go.TX.Seat Go.Proofs List
set_option maxRecDepth 100000
set_option maxHeartbeats 4000000
def Zv:Gt aB.z X E .u O9 Tryz.f260 []:=gm
def Zw:Gt aB.z X E .u O9 Tryz.f261 []:=gm
def Zx:Gt aB.z X E .u Vv Tryz.f300 []:=gm
def Zy:Gt aB.z X E (.v (.v (.v (.v (.seq (.block (.seq (.v (.cut ⟨[(1,.i),(2,.p 0 6),(4,.p 1 6),(6,.b),(8,.b),(9,.b),(29,.b)],[.s false .sym,.g xV]⟩ qq7)) (.cond .u (.seq (.v (.cut ⟨[(1,.i),(2,.p 0 6),(4,.p 1 6),(54,.b)],[.s false .sym,.g xV]⟩ qq7)) .u)))) (.seq (.v (.cut ⟨[(2,.p 0 6),(4,.p 1 6)],[.s false .sym,.g xV]⟩ qq7)) .u)))))) Pb Tryz.f301 [(299,JJ),(264,xu),(300,Vv)]:=gm
def Zz:Gt ⟨[53],[]⟩ X E (.v (.v (.v (.v (.seq (.v (.block (.loop ⟨[(1,.i),(2,.p 0 6),(4,.p 1 6),(5,.p 2 6),(6,.i)],[.s false .sym,.g xV,.g [.own 3,.rows false .poly,.i,.rows false .mono,.rows false .mono,.i],.rows true .ev]⟩ .u))) (.v (.v (.v (.seq (.v (.block (.v (.cut ag4 (.cond .u (.seq (.v (.cut ⟨[(1,.i),(4,.p 0 6),(5,.p 1 6),(85,.b)],qq9⟩ qq7)) .u)))))) .u))))))))) Pb Tryz.f262 [(299,JJ),(298,rz),(259,uz),(300,Vv),(301,Pb),(258,Fe)]:=gm
def ZA:Gt ⟨[116],[]⟩ X E (.v (.v (.v (.v (.v (.seq (.v (.block (.loop ⟨[(3,.p 0 7),(4,.p 1 1),(5,.p 2 6),(6,.p 3 1),(7,.p 4 6),(9,.o 5),(10,.i)],[.s false .blk,.g [.nil],.g xV,.g [.own 6],.g xV,.rows true .poly,.rows true .atom]⟩ .u))) (.v (.seq (.v (.block (.loop ⟨[(3,.p 0 7),(4,.p 1 1),(5,.p 2 6),(6,.p 3 1),(7,.p 4 6),(9,.o 5),(13,.o 6),(14,.i)],[.s false .blk,.g [.nil],.g xV,.g [.own 7],.g [.own 8,.nil,.i,.nil,.nil,.i],.rows false .poly,.rows false .poly,.rows true .atom,.rows true .ev]⟩ (.v (.seq (.block (.v (.v (.v (.v (.seq (.v (.block (.v (.cut awy (.cond .u (.v (.cut awy (.cond .u (.v (.cut awx (.cond .u (.v (.cut awx (.cond .u (.seq (.v (.cut ⟨[(3,.p 0 7),(4,.p 1 1),(5,.p 2 6),(6,.p 3 1),(7,.p 4 6),(9,.o 5),(13,.o 6),(14,.i),(15,.p 7 5),(16,.p 8 1),(17,.p 9 1),(18,.p 10 1)],[.s false .blk,.g [.nil],.g xV,.g [.own 11],.g [.own 12,.nil,.i,.nil,.nil,.i],.rows false .poly,.rows false .poly,.s false .iop,.s false .poly,.s false .poly,.g [.own 13],.rows true .atom,.rows true .ev,.rows true .mono]⟩ qq7)) .u))))))))))))))) .u)))))) .u))))) .u)))))))) agK Tryz.f191 [(161,kD),(249,rA),(254,rA),(262,Pb),(190,Vq),(250,acs),(259,uz),(251,SB),(255,agG),(252,O7),(256,agI),(257,agJ),(253,agD),(258,Fe),(260,O9),(261,O9)]:=gm
def ZB:Gt aB.z X E (.v (.v (.seq (.v (.block (.loop ⟨[(0,.r false .poly),(1,.r false .poly),(5,.i)],[]⟩ .u))) .u))) Fg Tryz.f263 [(264,xu)]:=gm
def ZE:Gt aB.z X E .u acv Tryz.f265 [(264,xu),(263,Fg)]:=gm
def ZF:Gt aB.z X E (.v (.v (.seq (.v (.block (.loop ⟨[(2,.p 0 6),(3,.p 1 6),(5,.i)],[.s false .sym,.s false .sym]⟩ .u))) .u))) acw Tryz.f192 [(264,xu),(265,acv),(263,Fg)]:=gm
def ZG:Gt aB.z X E .u lK Tryz.f137 [(161,kD),(189,lK),(190,Vq),(191,agK),(192,acw)]:=gm
def ZH:Gt aB.z X E (.v (.v (.seq (.v (.block (.loop ⟨[(0,.r false .i64),(3,.o 0),(4,.i)],[.rows true .ins]⟩ .u))) .u))) agc Tryz.f188 [(159,zf)]:=gm
def ZI:Gt aB.z X E (.v (.v (.seq (.cut ⟨[(2,.b)],[]⟩ .u) .u))) agL Tryz.f135 [(95,GI),(154,ad9),(188,agc),(137,lK)]:=gm
def ZJ:Gt aB.z X E (.v (.seq (.v (.block (.loop ⟨[(0,.r false .i64),(1,.r false .i64),(2,.i),(7,.i)],[]⟩ .u))) .u)) Vw Tryz.f136 []:=gm
def ZK:Gt aB.z X E (.v (.v (.seq (.v (.block (.loop ⟨[(0,.r false .cac),(1,.r false .i64),(5,.i)],[]⟩ (.v (.seq (.block (.v (.v (.block (.loop ⟨[(0,.r false .cac),(1,.r false .i64),(5,.i),(6,.i)],[]⟩ .u))))) .u))))) .u))) acy Tryz.f79 [(135,agL),(136,Vw)]:=gm
def ZL:Gt aB.z X E (.v (.v (.seq (.v (.block (.loop ⟨[(0,.r false .cer),(3,.i)],[]⟩ .u))) .u))) acz Tryz.f80 [(137,lK)]:=gm
def ZM:Gt aB.z X E .u zh Tryz.f32 [(79,acy),(80,acz),(14,oV)]:=gm
def ZN:Gt aB.z X E .u Ny Tryz.f240 [(156,jW)]:=gm
def ZO:Gt aB.z X E .u SE Tryz.f241 [(156,jW)]:=gm
def ZP:Gt ⟨[24,42],[]⟩ X E (.v (.v (.seq (.v (.block (.loop ⟨[(1,.p 0 12),(2,.p 1 12),(3,.p 2 12),(4,.i)],[.s false .eng,.g JR,.g [.own 3,.i,.own 4,.i,.bool,.bool,.i,.own 5,.own 6,.i,.own 7,.nil],.e,.e,.e,.e,.rows true .cac]⟩ .u))) (.seq (.v (.block (.loop ⟨[(1,.p 0 12),(2,.p 1 12),(3,.p 2 12),(5,.i)],[.s false .eng,.g JR,.g [.own 3,.i,.own 4,.i,.bool,.bool,.i,.own 5,.own 6,.i,.own 7,.own 8],.e,.e,.e,.e,.rows true .cac,.rows true .cer]⟩ .u))) .u)))) agM Tryz.f181 [(240,Ny),(241,SE),(56,ze)]:=gm
def ZQ:Gt aB.z X E (.v (.v (.seq (.v (.block (.loop awX (.v (.seq (.block (.v (.cut awX qq7))) .u))))) .u))) SG Tryz.f187 [(240,Ny),(136,Vw)]:=gm
def ZR:Gt aB.z X E .u agN Tryz.f183 [(187,SG),(199,UR),(182,Cz)]:=gm
def ZT:Gt aB.z X E (.v (.seq (.v (.block (.loop ⟨[(0,.r false .cac),(1,.i),(5,.i)],[]⟩ .u))) .u)) Gn Tryz.f242 []:=gm
def ZU:Gt aB.z X E .u agO Tryz.f335 []:=gm
def ZV:Gt aB.z X E (.v (.v (.v (.seq (.v (.block (.loop ⟨[(0,.r false .u8),(2,.p 0 7),(4,.p 1 7),(5,.i)],VB⟩ .u))) .u)))) SF Tryz.f316 [(161,kD),(335,agO)]:=gm
def ZW:Gt aB.z X E .u agP Tryz.f287 [(316,SF),(102,jW)]:=gm
def ZX:Gt aB.z X E (.v (.seq (.v (.block (.loop ⟨[(0,.r false .cer),(4,.p 0 7),(5,.p 1 7),(7,.i)],[.s false .blk,.s false .blk]⟩ .u))) .u)) acC Tryz.f288 [(189,lK)]:=gm
def ZY:Gt aB.z X E (.v (.v (.seq (.v (.block (.loop ⟨[(0,.r false .cer),(3,.p 0 14),(5,.o 1),(6,.i)],[.s false .cer,.rows true .cer]⟩ .u))) .u))) acD Tryz.f289 [(241,SE)]:=gm
def Z0:Gt aB.z X E .u agQ Tryz.f243 [(288,acC),(289,acD),(137,lK),(287,agP)]:=gm
def Z4:Gt aB.z X E (.v (.v (.seq (.v (.block (.loop awV (.v (.seq (.block (.v (.cut awV qq7))) .u))))) .u))) agR Tryz.f244 [(240,Ny)]:=gm
def Z5:Gt aB.z X E .u agS Tryz.f184 [(99,Vh),(95,GI),(196,JG),(242,Gn),(244,agR),(243,agQ)]:=gm
def Z6:Gt aB.z X E (.v (.v (.seq (.v (.block (.loop ⟨[(1,.r false .i64),(3,.i),(4,.p 0 10),(9,.i)],[.s false .aj]⟩ .u))) .u))) agT Tryz.f185 [(182,Cz)]:=gm
def Z7:Gt aB.z X E .u agU Tryz.f290 []:=gm
def Z8:Gt aB.z X E .u Sw Tryz.f291 []:=gm
def Z9:Gt aB.z X E (.v (.seq (.v (.block (.v (.cond .u (.v (.cond (.v (.seq (.v (.cut ⟨[(5,.p 3 10),(10,.p 4 10),(13,.i)],[.e,.e,.e,.g apW,.g qq2]⟩ qq7)) .u)) .u)))))) .u)) agV Tryz.f245 [(290,agU),(291,Sw)]:=gm
def aac:Gt aB.z X E .u OY Tryz.f246 []:=gm
def aad:Gt aB.z X E .u agW Tryz.f247 [(222,uw)]:=gm
def aae:Gt aB.z X E (.v (.seq (.v (.block (.v (.cond .u (.v (.cond .u (.v (.cut ⟨[(2,.p 0 7)],[.s false .blk]⟩ (.cond .u (.v (.cut ⟨[(2,.p 0 7)],[.s false .blk]⟩ qq7))))))))))) .u)) agX Tryz.f248 []:=gm
def aaf:Gt aB.z X E (.v (.v (.v (.v (.v (.seq (.v (.block (.loop ⟨[(2,.p 0 7),(4,.p 1 10),(6,.p 2 10),(7,.o 3),(8,.i)],awz⟩ (.v (.seq (.block (.v (.v (.seq (.v (.block (.v (.cut aw2 (.cond .u (.seq (.v (.cut apV (.cond .u (.v (.cut apV (.cond .u (.v (.cut apV qq7)))))))) (.cut aw2 qq7))))))) .u)))) .u))))) .u)))))) agY Tryz.f186 [(161,kD),(14,oV),(56,ze),(246,OY),(245,agV),(248,agX),(247,agW)]:=gm
def aag:Gt aB.z X E (.v (.v (.v (.v (.v (.seq (.cut ⟨[(1,.r false .i64),(2,.i),(7,.p 0 2),(8,.p 1 12),(10,.p 2 12),(11,.p 3 10),(12,.b)],[.s false .ask,.g JR,.g [.e,.i,.e,.i,.bool,.bool,.i,.e,.e,.i,.own 4,.own 5],.g [.e,.i,.e,.i,.bool,.bool,.i,.e,.e,.i],.rows true .cac,.rows true .cer]⟩ .u) .u)))))) Vx Tryz.f134 [(187,SG),(32,zh),(186,agY),(181,agM),(184,agS),(183,agN),(185,agT),(182,Cz)]:=gm
def aah:Gt aB.z X E (.v (.v (.v (.seq (.v (.block (.loop ⟨[(0,.p 0 2),(2,.p 1 12),(3,.p 2 12),(4,.o 3),(5,.i)],[.g pK,.g JR,.g [.e,.i,.own 4,.i,.bool,.bool,.i,.e,.e,.i,.own 5,.own 6],.e,.e,.rows true .cac,.rows true .cer]⟩ .u))) .u)))) agZ Tryz.f94 [(21,agv),(134,Vx),(138,UO),(139,Cw),(38,Cw),(39,iJ),(140,UQ),(58,O6)]:=gm
end Go.TX.F
end
noncomputable section
namespace Go.TX.F
open Go Go.AE Go.TX Go.TX.Seat Go.Proofs List
set_option maxRecDepth 100000
set_option maxHeartbeats 4000000
def aai:Gt ⟨[36,39,68,22],[]⟩ X E (.v (.v (.seq (.v (.cut awE (.cond (.v (.block (.v (.cut awE (.cond .u (.v (.cut qq4 (.cond .u (.v (.cut qq4 (.cond (.v (.cut qq4 qq7)) (.v (.cut qq4 (.cond .u (.v (.cut qq4 (.cond (.v (.cut qq4 qq7)) (.v (.cut qq4 qq7))))))))))))))))))) .u))) .u))) Vy Tryz.f57 [(95,GI),(37,afA),(40,E9),(39,iJ),(98,OQ),(96,JN),(97,Vp),(94,agZ)]:=gm
def aaj:Gt aB.z X E (.v (.v (.v (.v (.seq (.v (.block (.loop ⟨[(2,.p 0 12),(5,.p 1 2),(6,.p 2 2),(7,.p 3 12),(8,.o 4),(9,.i)],[.g JR,.g [.bool,.nil],.g pK,.s true .eng,.e]⟩ .u))) .u))))) JQ Tryz.f22 [(36,UN),(39,iJ),(58,O6),(57,Vy)]:=gm
def aiu:Gt aB.z X E .u NA Tryz.f23 [(41,agj),(43,agr),(18,zh),(42,oV)]:=gm
def aak:Gt aB.z X E .u Fh Tryz.f5 [(24,Gn),(18,zh),(23,NA),(15,CF),(22,JQ)]:=gm
def aal:Gt aB.z X E .u Fh Tryz.f6 [(26,Vh),(25,GI),(24,Gn),(28,lK),(23,NA),(27,SF),(29,lK),(15,CF),(22,JQ)]:=gm
def aam:Gt aB.z X E .u Fh Tryz.f7 [(26,Vh),(25,GI),(24,Gn),(23,NA),(30,zi),(29,lK),(15,CF),(22,JQ)]:=gm
def aan:Gt aB.z X E (.v (.v (.v (.v (.seq (.v (.block (.loop ⟨aw4,[.g pK,.rows true .ask,.s false .eng]⟩ (.v (.seq (.block (.v (.v (.v (.v (.cut ⟨aw4,[.g pK,.rows true .ask,.g [.e,.i,.own 3,.i,.bool,.bool,.i,.e,.e,.i,.own 4,.own 5],.e,.rows true .cac,.rows true .cer]⟩ qq7)))))) .u))))) .u))))) ag0 Tryz.f78 [(134,Vx),(58,O6)]:=gm
def aao:Gt aB.z X E (.v (.v (.v (.v (.v (.seq (.v (.cut ⟨[(2,.p 0 12),(6,.p 1 2),(7,.p 2 12),(8,.o 3),(9,.i)],[.g JR,.g pK,.s true .eng,.e]⟩ qq7)) .u)))))) Vz Tryz.f31 [(32,zh),(38,Cw),(36,UN),(40,E9),(39,iJ),(78,ag0),(57,Vy)]:=gm
def aap:Gt aB.z X E (.v (.v (.v (.v (.v (.v (.seq (.v (.block (.loop ⟨[(7,.p 0 12),(8,.i)],[.s true .eng]⟩ (.v (.seq (.block (.v (.v (.v (.v (.seq (.cut ⟨[(7,.p 0 12),(8,.i),(99,.b)],[.s true .eng]⟩ .u) .u)))))) .u))))) .u))))))) Fh Tryz.f8 [(25,GI),(33,agc),(28,lK),(18,zh),(12,ags),(15,CF),(31,Vz),(32,zh)]:=gm
def aaq:Gt aB.z X E .u ag1 Tryz.f34 [(23,NA)]:=gm
def aar:Gt aB.z X E .u Fh Tryz.f9 [(23,NA),(34,ag1),(35,Vj),(16,Vi),(15,CF),(22,JQ),(32,zh)]:=gm
def aas:Gt aB.z X E .u Fh Tryz.f10 [(12,ags),(20,agu),(15,CF),(31,Vz),(32,zh)]:=gm
end Go.TX.F
end

namespace Go.TX
open Go Go.AE List
theorem aqi(x y:Int):bI .lss x y=decide (x<y):=rfl
theorem aqj(x y:Int):bI .leq x y=decide (x<=y):=rfl
theorem aqk(x y:Int):bI .gtr x y=decide (y<x):=rfl
theorem aql(x y:Int):bI .geq x y=decide (y<=x):=rfl
theorem aiv(x y:Int):bI .eql x y=decide (x=y):=rfl
theorem aqm(x y:Int):bI .neq x y= !decide (x=y):=rfl
theorem aqn(k:IntKind)(x y:Int):gF .add k x y=k.wrap (x+y):=rfl
theorem aiw(k:IntKind)(x y:Int):gF .sub k x y=k.wrap (x-y):=rfl
theorem aqo(k:IntKind)(x y:Int):gF .mul k x y=k.wrap (x*y):=rfl
theorem aqp(k:IntKind)(x y:Int):gF .quo k x y=k.wrap (x.tdiv y):=rfl
theorem aix(k:IntKind)(x y:Int):gF .rem k x y=x.tmod y:=rfl
theorem w64{x:Int}(a: -9223372036854775808<=x)(b:x<=9223372036854775807):IntKind.i64.wrap x=x:=IntWalk.i64_in _ ah
theorem amN(m:au):cO .mono 0 m=m.bN:=rfl
theorem amO(m:au):jQ .mono 1 .i64 m=m.atoms:=rfl
theorem aqr(p:List au):jQ .poly 0 .mono p=p:=rfl
theorem axb(p:List Atom):jQ .tab 0 .atom p=p:=rfl
theorem aqs(p:List Int):jQ .ints 0 .i64 p=p:=rfl
theorem amP(m:Atom):cO .atom 0 m=m.kind:=rfl
theorem amQ(m:Atom):cO .atom 1 m=m.k:=rfl
theorem amR(m:Atom):jQ .atom 2 .mono m=m.x:=rfl
theorem amS(m:Atom):jQ .atom 3 .mono m=m.y:=rfl
theorem axc(n:Int):cO .i64 0 n=n:=rfl
theorem az7(n:Int):cO .u8 0 n=n:=rfl
theorem amT(x):Co.mk .mono x=⟨x.1,x.2.1⟩:=rfl
theorem amU(x):Co.mk .poly x=x.1:=rfl
theorem aqt(x):Co.mk .tab x=x.1:=rfl
theorem amV(x):Co.mk .ints x=x.1:=rfl
theorem jw(x):Co.mk .i64 x=x.1:=rfl
theorem amW(x):Co.mk .atom x=⟨x.1,x.2.1,x.2.2.1,x.2.2.2.1⟩:=rfl
def ay{α ρ:Type}{f:α->(α ⊕ ρ->Prop)->Prop}{x:α}{Q:ρ->Prop}(I:α->Prop)(μ:α->Nat)(a:I x)(b:∀y,I y->f y (GD (λz _=>I z/\μ z<μ y) Q)):ab3 f x Q:=⟨I,μ,a,b⟩
theorem aiy{α ρ:Type}(k:α->(ρ->Prop)->Prop)(Q:ρ->Prop)(x:α):GD k Q (.inl x)=k x Q:=rfl
theorem aiz{α ρ:Type}(k:α->(ρ->Prop)->Prop)(Q:ρ->Prop)(r:ρ):GD k Q (.inr r)=Q r:=rfl
theorem getD_lt{α:Type}{a:List α}{d:α}{i:Nat}(h:i<a.length):a.getD i d=a[i]:=by simp [getD,h]
def bV{α:Type}{xs:List α}{d:α}{i:Int}(a:0<=i)(h:i<xs.length):xs.getD i.toNat d∈xs:=by
 rw [getD_lt ah];exact getElem_mem _
def RR:(∀(x y:Int),bI BinOp.lss x y=decide (x<y))/\(∀(x y:Int),bI BinOp.leq x y=decide (x<=y))/\(∀(x y:Int),bI BinOp.gtr x y=decide (y<x))/\(∀(x y:Int),bI BinOp.geq x y=decide (y<=x))/\(∀(x y:Int),bI BinOp.eql x y=decide (x=y))/\(∀(x y:Int),bI BinOp.neq x y= !decide (x=y))/\(∀(k:IntKind) (x y:Int),gF BinOp.add k x y=k.wrap (x+y))/\(∀(k:IntKind) (x y:Int),gF BinOp.sub k x y=k.wrap (x-y))/\(∀(k:IntKind) (x y:Int),gF BinOp.mul k x y=k.wrap (x*y))/\(∀(k:IntKind) (x y:Int),gF BinOp.quo k x y=k.wrap (x.tdiv y))/\(∀(k:IntKind) (x y:Int),gF BinOp.rem k x y=x.tmod y)/\(∀ {x:Int}, -9223372036854775808<=x->x<=9223372036854775807->IntKind.i64.wrap x=x)/\(∀(m:au),cO Co.mono 0 m=m.bN)/\(∀(m:au),jQ Co.mono 1 Co.i64 m=m.atoms)/\(∀(p:List au),jQ Co.poly 0 Co.mono p=p)/\(∀(p:List Atom),jQ Co.tab 0 Co.atom p=p)/\(∀(p:List Int),jQ Co.ints 0 Co.i64 p=p)/\(∀(m:Atom),cO Co.atom 0 m=m.kind)/\(∀(m:Atom),cO Co.atom 1 m=m.k)/\(∀(m:Atom),jQ Co.atom 2 Co.mono m=m.x)/\(∀(m:Atom),jQ Co.atom 3 Co.mono m=m.y)/\(∀(n:Int),cO Co.i64 0 n=n)/\(∀(n:Int),cO Co.u8 0 n=n)/\(∀(x:jr Co.mono.uU),Co.mono.mk x=au.mk x.fst x.snd.fst)/\(∀(x:jr Co.poly.uU),Co.poly.mk x=x.fst)/\(∀(x:jr Co.tab.uU),Co.tab.mk x=x.fst)/\(∀(x:jr Co.ints.uU),Co.ints.mk x=x.fst)/\(∀(x:jr Co.i64.uU),Co.i64.mk x=x.fst)/\(∀(x:jr Co.atom.uU),Co.atom.mk x=Atom.mk x.fst x.snd.fst x.snd.snd.fst x.snd.snd.snd.fst)/\(∀ {α ρ:Type} (k:α->(ρ->Prop)->Prop) (Q:ρ->Prop) (x:α),GD k Q (Sum.inl x)=k x Q)/\(∀ {α ρ:Type} (k:α->(ρ->Prop)->Prop) (Q:ρ->Prop) (r:ρ),GD k Q (Sum.inr r)=Q r)/\(∀(c f:Bool),(bif c then true else f)=(c || f))/\(∀(c t:Bool),(bif c then t else false)=(c&&t))/\(∀(c f:Bool),(bif c then false else f)=(!c&&f))/\(∀(c t:Bool),(bif c then t else true)=(!c || t))/\(∀(a b:Bool),((a || b)=true)=(a=true\/b=true))/\(∀ {x y:Bool},(x || y)=false↔x=false/\y=false)/\(∀(a b:Bool),((a&&b)=true)=(a=true/\b=true))/\(∀ {p:Prop} [inst:Decidable p],(decide p=true)=p)/\(∀ {p:Prop} {x:Decidable p},decide p=false↔¬p)/\(∀(b:Bool),((!b)=true)=(b=false))/\(∀(b:Bool),((!b)=false)=(b=true))/\(∀(b:Bool),(!!b)=b)/\(∀(p:Prop),(True/\p)=p)/\(∀(p:Prop),(p/\True)=p)/\(∀ {α:Type} [inst:LE α] {x y:α},x>=y↔y<=x)/\(¬True)=False/\(¬False)=True/\(false=true)=False/\(true=false)=False/\(∀(p:Prop),(False->p)=True)/\(∀(p:Prop),(True->p)=p)/\(∀(α:Prop),(α->True)=True)/\(∀(α:Type),(∀(a:α),True)=True)/\(∀(p:Prop),(False\/p)=p)/\(∀(p:Prop),(p\/False)=p)/\(∀(p:Prop),(True\/p)=True)/\(∀(p:Prop),(p\/True)=True)/\(∀ {α:Type} {x:Decidable True} (t e:α),(if True then t else e)=t)/\∀ {α:Type} {x:Decidable False} (t e:α),(if False then t else e)=e:=And.intro (@aqi)<| And.intro (@aqj)<| And.intro (@aqk)<| And.intro (@aql)<| And.intro (@aiv)<| And.intro (@aqm)<| And.intro (@aqn)<| And.intro (@aiw)<| And.intro (@aqo)<| And.intro (@aqp)<| And.intro (@aix)<| And.intro (@w64)<| And.intro (@amN)<| And.intro (@amO)<| And.intro (@aqr)<| And.intro (@axb)<| And.intro (@aqs)<| And.intro (@amP)<| And.intro (@amQ)<| And.intro (@amR)<| And.intro (@amS)<| And.intro (@axc)<| And.intro (@az7)<| And.intro (@amT)<| And.intro (@amU)<| And.intro (@aqt)<| And.intro (@amV)<| And.intro (@jw)<| And.intro (@amW)<| And.intro (@aiy)<| And.intro (@aiz)<| And.intro (@Bool.cond_true_left)<| And.intro (@Bool.cond_false_right)<| And.intro (@Bool.cond_false_left)<| And.intro (@Bool.cond_true_right)<| And.intro (@Bool.or_eq_true)<| And.intro (@Bool.or_eq_false_iff)<| And.intro (@Bool.and_eq_true)<| And.intro (@decide_eq_true_eq)<| And.intro (@decide_eq_false_iff_not)<| And.intro (@Bool.not_eq_true')<| And.intro (@Bool.not_eq_false')<| And.intro (@Bool.not_not)<| And.intro (@true_and)<| And.intro (@and_true)<| And.intro (@ge_iff_le.{0})<| And.intro (@not_true_eq_false)<| And.intro (@not_false_eq_true)<| And.intro (@Bool.false_eq_true)<| And.intro (@Bool.true_eq_false)<| And.intro (@false_implies)<| And.intro (@true_implies)<| And.intro (@implies_true.{0})<| And.intro (@implies_true.{1})<| And.intro (@false_or)<| And.intro (@or_false)<| And.intro (@true_or)<| And.intro (@or_true)<| And.intro (@if_true.{1})<| @if_false.{1}
abbrev bn:=List Int×Unit
abbrev wm:=List Int×bn
abbrev eB:=List Int×wm
abbrev ak:=Int×Int×Bool×Bool×Int×List Int×Int×List Cac×List Cer×eB
abbrev mF:=List IOp×Unit
abbrev bf:=Int×Int×Int×Int×Int×Int×mF
abbrev dY:=Int×Unit
abbrev eu:=List au×Unit
abbrev eG:=List Int×dY
abbrev fA:=Bool×Unit
abbrev fE:=Int×Int×Bool×Bool×Int×List Int×Int×eB
abbrev iK:=Blk×Unit
abbrev lX:=List (List au)×Unit
abbrev aAW:=List Ins×Unit
abbrev l6:=Int×aAW
abbrev l7:=Int×Int×eu
abbrev qj:=List Cac×Unit
abbrev l8:=List Int×Int×Int×Bool×Bool×Int×List Int×List Int×Int×List Cer×List Int×qj
abbrev mI:=List Atom×Unit
abbrev mQ:=List Cer×Unit
abbrev ni:=Int×dY
abbrev aAS:=Int×Int×eB
abbrev ny:=Int×Int×Bool×Bool×Int×List Int×aAS
abbrev oz:=Int×Int×Bool×Bool×Int×List Int×Int×Ins×eB
abbrev ql:=List au×eu
abbrev r9:=List Int×Int×bn
abbrev aBg:=Int×bf
abbrev El:=Int×aBg
abbrev sj:=Int×Int×Int×El
abbrev sw:=Int×Blk×Int×Int×Bool×Bool×Int×Int×Int×Int×Bool×Bool×Int×List Int×Int×List Int×eB
abbrev uy:=Int×Int×Int×Int×Int×Int×List Int×Int×mF
abbrev yc:=Int×Int×Bool×Bool×Int×List Int×Int×List Cer×List Int×List Int×List Int×qj
abbrev aAQ:=Atom×Unit
abbrev yt:=List Atom×aAQ
abbrev yw:=Int×Int×Bool×Bool×Int×List Int×Int×Bool×eB
abbrev aBh:=Cac×Unit
abbrev zx:=List Cac×aBh
abbrev Bb:=Int×Int×Int×Int×Int×Int×Ins×Int×mF
abbrev Bp:=Int×eG
abbrev Eo:=List IOp×Int×Int×Int×Int×Bool×Bool×Int×List Int×Int×List Cac×List Cer×List Int×List Int×Blk×wm
abbrev F5:=Int×Int×Int×Int×Int×Int×IOp×mF
abbrev He:=List Int×Int×Int×Bool×Bool×Int×List Int×List Int×Int×List Int×Int×List Cer×List Int×qj
abbrev I4:=List Bool×Unit
abbrev Ms:=List Int×Int×List Int×Int×Bool×Bool×Int×List Int×List Int×Int×List Cac×List Int×mQ
abbrev Ns:=List Int×Int×List Int×Int×Bool×Bool×Int×List Int×List Int×Int×List Cac×Blk×Ask×mQ
abbrev O1:=List Int×l6
abbrev O4:=List Cac×bn
abbrev P9:=Int×Int×bn
abbrev Sk:=List Int×Int×Int×Bool×Bool×Int×List Int×List Int×Int×Bool×List Cer×List Int×qj
abbrev Xn:=List Int×Int×List Int×Int×Bool×Bool×Int×List Int×List Int×Int×List Cac×Ask×mQ
abbrev aAL:=Int×l7
abbrev aAM:=Eng×List Int×Int×Ask×Unit
abbrev aAN:=List Int×ni
abbrev aAO:=Blk×iK
abbrev aAP:=aD×Unit
abbrev aAR:=Int×Int×Int×Int×Int×Int×Int×Int×Int×Int×Int×Int×List IOp×mF
abbrev aAT:=Eng×Unit
abbrev aAU:=List Int×Int×Ask×ak
abbrev aAV:=Int×ni
abbrev aAX:=List Cac×dY
abbrev aAY:=Ins×Unit
abbrev aAZ:=List Int×Int×List Ask×Unit
abbrev aBa:=Int×Int×Bool×Bool×Int×List Int×Int×Int×Bool×eB
abbrev aBb:=Int×Int×Bool×Bool×Int×List Int×Int×Blk×IOp×aAS
abbrev aBd:=List Cer×aAO
abbrev aBe:=Sym×Unit
abbrev aBf:=Int×ql
abbrev aBi:=Int×Int×Bool×Bool×Int×List Int×Int×Blk×aAS
abbrev aBj:=au×Unit
abbrev aBk:=List Int×eG
abbrev aBl:=List IOp×ni
abbrev aBm:=Int×Int×sj
abbrev aBn:=Blk×ak
abbrev aBo:=Int×Int×Bool×Bool×Int×List Int×Int×aAS
abbrev aBp:=Int×Int×Bool×Bool×Int×Int×List Int×eB
abbrev aBq:=List Atom×fA
abbrev aBr:=Int×Int×Int×Int×Int×Int×List Int×mF
end Go.TX
namespace Go.TX.F
open Go Go.AE Go.TX List
def inB(a b c:Int):Bool:=decide (b<=a)&&decide (a<=c)
def aqu(a b c:Int):Wz.F () (a,b,c,()) (λy=>y=(inB a b c,())):=by
 dsimp only [Wz,gm];simp (disch:=omega) only [RR];rfl
abbrev Y1(e:aAV->Bool)(d:aAV->fA):Prop:=∀a b c,e (a,b,c,())=true/\d (a,b,c,())=(inB a b c,())
def aqv{p f}(U:Y1 p f)(a:Int):WA.F (p,f,()) (a,()) (λy=>y=(inB a 0 65535,())):=by
 dsimp only [WA,gm];simp (disch:=omega) only [RR,U]
def aqw{p f}(U:Y1 p f)(a:Int):WS.F (p,f,()) (a,()) (λy=>y=(inB a 1 5,())):=by
 dsimp only [WS,gm];simp (disch:=omega) only [RR,U]
def aqx{p f}(U:Y1 p f)(a:Int):WJ.F (p,f,()) (a,()) (λy=>y=(inB a 0 3,())):=by
 dsimp only [WJ,gm];simp (disch:=omega) only [RR,U]
def az8(a:Int):aqa.F () (a,()) (λy=>y=(false,())):=by
 dsimp only [aqa,gm];simp (disch:=omega) only [RR];simp
def jd(a b:Int):Int:=if a<b then-1 else if b<a then 1 else 0
abbrev Y2(c:dY->Bool)(b:dY->fA):Prop:=∀a,c (a,())=true/\b (a,())=(false,())
def az9{p f}(U:Y2 p f)(a b:Int):aqb.F (p,f,()) (a,b,()) (λy=>y=(jd a b,())):=by
 dsimp only [aqb,gm];simp (disch:=omega) only [RR,U];unfold jd;refine⟨λh=>by simp [h],λh=>⟨λc=>by simp [h,c],λc=>by simp [h,c]⟩⟩
def aAa{p f}(U:Y2 p f)(a b:Int):aqd.F (p,f,()) (a,b,()) (λy=>y=(decide (a<b),())):=by
 dsimp only [aqd,gm];simp (disch:=omega) only [RR,U];simp
def or2(a b:Int):Int:=if a≠0 then a else b
def aAb(a b:Int):aqc.F () ([a,b],()) (λy=>y=(or2 a b,())):=by
 dsimp only [aqc,gm];refine ay (λ(y:Int×aAN)=>y.1=0/\y.2.1=[a,b]/\y.2.2.1=2/\0<=y.2.2.2.1/\y.2.2.2.1<=2/\(0<y.2.2.2.1->a=0)/\(1<y.2.2.2.1->b=0)) (λy=>(2-y.2.2.2.1).toNat) ⟨rfl,rfl,rfl,by simp,by simp,λh=>absurd h (by simp),λh=>absurd h (by simp)⟩ ?_;rintro⟨(z:Int),(l:List Int),(n:Int),(i:Int),⟨⟩⟩ hI;dsimp only at hI ⊢;obtain⟨rfl,rfl,rfl,j,g,c,d⟩:=hI;simp (disch:=omega) only [RR];have f:i=0\/i=1\/i=2:=by omega
 rcases f with rfl | rfl | rfl
 .by_cases ha:a=0<;>simp [or2,ha]<;>(try omega)
 .have:=c ah;by_cases e:b=0<;>simp [or2,this,e]<;>(try omega)
 .have:=c ah;have:=d ah;simp [or2, *]
def nS:List Int->List Int->Int
 | [],[]=>0
 | [],_::_=> -1
 | _::_,[]=>1
 | a::az,b::bs=>if jd a b≠0 then jd a b else nS az bs
def Fp(a b:List Int)(i:Nat):(d:i<a.length)->(c:i<b.length)->nS (a.drop i) (b.drop i)=if jd a[i] b[i]≠0 then jd a[i] b[i]else nS (a.drop (i+1)) (b.drop (i+1)):=by
 intro d c;rw [drop_eq_getElem_cons d,drop_eq_getElem_cons c];rfl
def aiA(l:List Int)(h:l≠ []):nS l []=1:=by cases l<;>simp_all [nS]
abbrev Y3(d:ni->Bool)(c:ni->dY):Prop:=∀a b,d (a,b,())=true/\c (a,b,())=(jd a b,())
def aqy{p f}(U:Y3 p f)(a b:List Int)(o:a.length<1000000000):
  WZ.F (p,f,()) (a,b,()) (λy=>y=(nS a b,())):=by
 dsimp only [WZ,gm]
 refine ay (λ(y:List Int×List Int×aAN)=>y.1=a/\y.2.1=b/\y.2.2.1=a/\y.2.2.2.1=a.length/\0<=y.2.2.2.2.1/\y.2.2.2.2.1<=a.length/\y.2.2.2.2.1<=b.length/\nS a b=nS (a.drop y.2.2.2.2.1.toNat) (b.drop y.2.2.2.2.1.toNat))
  (λy=>(a.length-y.2.2.2.2.1).toNat) ⟨rfl,rfl,rfl,rfl,by simp,by simp,by simp,by simp⟩ ?_
 rintro⟨(s:List Int),(c:List Int),(e:List Int),(n:Int),(i:Int),⟨⟩⟩ hI;dsimp only at hI ⊢;obtain⟨rfl,rfl,rfl,rfl,j,l,m,d⟩:=hI;simp (disch:=omega) only [RR,U];refine⟨λk=>⟨j,k,λh=> ?_,λh=>⟨j,ah,λhc=> ?_,λhc=> ?_⟩⟩,λk=>⟨λh=> ?_,λh=> ?_⟩⟩
 .rw [d,drop_eq_nil_of_le (show c.length<=i.toNat by omega),aiA _ (by simp;omega)]
 .rw [d,Fp e c i.toNat ah ah];rw [getD_lt ah,getD_lt ah]at hc;rw [getD_lt ah,getD_lt ah,if_pos hc]
 .rw [getD_lt ah,getD_lt ah]at hc;refine⟨⟨ah,ah,ah,?_⟩,ah⟩;rw [d,Fp e c i.toNat ah ah,if_neg (by simpa using hc),show(i+1).toNat=i.toNat+1 by omega]
 .rw [d,drop_eq_nil_of_le (show e.length<=i.toNat by omega)];have:∃q r,c.drop i.toNat=q::r:=by
   cases g:c.drop i.toNat with
   | nil=>have:=congrArg List.length g;simp at this;omega
   | cons q r=>exact⟨q,r,rfl⟩
  obtain⟨q,r,g⟩:=this;rw [g];rfl
 .rw [d,drop_eq_nil_of_le (show e.length<=i.toNat by omega),drop_eq_nil_of_le (show c.length<=i.toNat by omega)];rfl
def fM(a b:List Int):Int:=or2 (jd a.length b.length) (nS a b)
abbrev Y4(d:bn->Bool)(c:bn->dY):Prop:=∀a b,d ([a,b],())=true/\c ([a,b],())=(or2 a b,())
def aqz{p1 f1 p3 f3}{d:wm->Bool}{c:wm->dY}(f:Y3 p1 f1)(h:∀a b,a.length<1000000000->d (a,b,())=true/\c (a,b,())=(nS a b,()))(e:Y4 p3 f3)(a b:List Int)(g:a.length<1000000000):
  Xa.F (p3,f3,p1,f1,d,c,()) (a,b,()) (λy=>y=(fM a b,())):=by
 dsimp only [Xa,gm];simp (disch:=omega) only [RR,f,h a b g,e];rfl
variable{P:Prop}{G:Int->Prop}{p:eG->Bool}
noncomputable def bp (P:Prop):Bool:= @decide P (Classical.propDecidable P)
theorem aI(h:P):bp P=true:=by simp [bp,h]
theorem aT(h:¬P):bp P=false:=by simp [bp,h]
theorem aF:bp P=true↔P:=by simp [bp]
theorem gI:bp P=false↔¬P:=by simp [bp]
def fH{P Q:Prop}:bp (P/\Q)=(bp P&&bp Q):=by by_cases a:P<;>by_cases b:Q<;>simp [bp,a,b]
def ig{P Q:Prop}(h:P↔Q):bp P=bp Q:=by simp [bp,h]
def All(n:Int)(G:Int->Prop):Prop:=∀j,0<=j->j<n->G j
def All.zero:All 0 G:=λj b a=>absurd a ah
def All.snoc{n:Int}(h:All n G)(c:G n):All (n+1) G:=λj b d=>by
 by_cases a:j=n
 .exact a▸c
 .exact h j b ah
def All.le{n m:Int}(h:All n G)(c:m<=n):All m G:=λj a b=>h j a ah
def Idx(n:Int)(G:Int->Prop)(r:Int):Prop:=(r= -1/\All n (λj=>¬G j))\/(0<=r/\r<n/\G r/\All r (λj=>¬G j))
def Idx.ge{n:Int}{r:Int}(h:Idx n G r):(0<=r)↔¬All n (λj=>¬G j):=by
 rcases h with⟨rfl,h⟩ | ⟨a,b,c,d⟩
 .simp [h]
 .simp only [a,true_iff];exact λh=>h r a b c
def Srt(l:List Int):Prop:=All (l.length-1) (λi=>l.getD i.toNat default<=l.getD (i+1).toNat default)
abbrev Y5(d:ni->Bool)(c:ni->fA):Prop:=∀a b,d (a,b,())=true/\c (a,b,())=(decide (a<b),())
def aqA{p f}(U:Y5 p f)(a:List Int)(n:a.length<1000000000):
  Xb.F (p,f,()) (a,()) (λy=>y=(bp (Srt a),())):=by
 dsimp only [Xb,gm];simp (disch:=omega) only [RR,U];refine ay (λ(y:eG)=>y.1=a/\ -1<=y.2.1/\y.2.1<=a.length-1/\∀j,y.2.1<=j->0<=j->j< (a.length:Int)-1->a.getD j.toNat default<=a.getD (j+1).toNat default) (λy=>(y.2.1+1).toNat) ⟨rfl,by simp;omega,by simp,by simp;omega⟩ ?_;rintro⟨(l:List Int),(i:Int),⟨⟩⟩ hI;dsimp only at hI ⊢;obtain⟨rfl,o,m,d⟩:=hI;simp (disch:=omega) only [RR,U];refine⟨λg=>⟨ah,ah,ah,ah,λk=> ?_,λk=>⟨⟨ah,ah,λj c b e=> ?_⟩,ah⟩⟩,λg=> ?_⟩
 .rw [aT];intro h;have:=h (i-1) ah ah;dsimp only at this;rw [show i-1+1=i by omega]at this;omega
 .by_cases hj:j=i-1
  .subst hj;rw [show i-1+1=i by omega];omega
  .exact d j ah b e
 .rw [aI];exact λj c b=>d j ah c b
def axd(a n:Int):aho.F () (a,n,()) (λy=>y=(decide (n<=a),n,())):=by
 dsimp only [aho,gm];simp (disch:=omega) only [RR]
def aqB{p:ni->Bool}{f:ni->Bool×dY}(U:∀a b,p (a,b,())=true/\f (a,b,())=(decide (b<=a),b,()))(a:List Int)(n:Int)(h:a.length<1000000000):
  WU.F (p,f,()) (a,n,()) (λy=>Idx a.length (λi=>n<=a.getD i.toNat default) y.1/\y.2.1=n):=by
 dsimp only [WU,gm];refine ay (λ(y:List Int×aAV)=>y.1=a/\y.2.1=a.length/\y.2.2.2.1=n/\0<=y.2.2.1/\y.2.2.1<=a.length/\All y.2.2.1 (λi=>¬n<=a.getD i.toNat default)) (λy=>(a.length-y.2.2.1).toNat) ⟨rfl,rfl,rfl,by simp,by simp,All.zero⟩ ?_;rintro⟨(l:List Int),(m:Int),(i:Int),(g:Int),⟨⟩⟩ hI;dsimp only at hI ⊢;obtain⟨rfl,rfl,rfl,k,j,d⟩:=hI;simp (disch:=omega) only [RR,U];refine⟨λe=>⟨ah,ah,λc=> ?_,λc=>⟨⟨ah,ah,d.snoc c⟩,ah⟩⟩,λe=> ?_⟩
 .exact Or.inr ⟨ah,ah,c,d⟩
 .exact Or.inl ⟨rfl,d.le ah⟩
def aqC{f:eG->ni}(d:∀a b,a.length<1000000000->p (a,b,())=true)
  (e:∀a n,a.length<1000000000->Idx a.length (λi=>n<=a.getD i.toNat default) (f (a,n,())).1/\(f (a,n,())).2.1=n) (a:List Int) (n:Int) (c:a.length<1000000000):
  WX.F (p,f,()) (a,n,()) (λy=>y=(bp (¬All a.length (λi=>¬n<=a.getD i.toNat default)),n,())):=by
 obtain⟨h,g⟩:=e a n c;dsimp only [WX,gm];simp (disch:=omega) only [RR,d a n c,g];rw [show decide ((0:Int)<=(f (a,n,())).1)=bp (¬All a.length (λi=>¬n<=a.getD i.toNat default))from ?_];rw [<-ig h.ge];simp [bp]
def Pn(n:Int)(m:au):Prop:=All m.atoms.length (λi=>¬n<=m.atoms.getD i.toNat default)
def bA(p:List au)(n:Int):Prop:=All p.length (λi=>Pn n (p.getD i.toNat default))
def Sh(p:List au):Prop:=p.length<1000000000/\∀m∈p,m.atoms.length<1000000000
def Sh.at{p:List au}(h:Sh p)(n:Nat):(p.getD n default).atoms.length<1000000000:=by
 by_cases a:n<p.length
 .rw [getD_lt a];exact h.2 _ (getElem_mem _)
 .simp only [getD,getElem?_eq_none (by omega:p.length<=n)];decide
def axe{f:eG->Bool×dY}(q:∀a b,a.length<1000000000->p (a,b,())=true)
  (r:∀a n,a.length<1000000000->f (a,n,())=(bp (¬All a.length (λi=>¬n<=a.getD i.toNat default)),n,())) (a:List au) (n:Int) (j:Sh a):
  ahp.F (p,f,()) (a,n,()) (λy=>y=(bp (bA a n),())):=by
 have e:=j.1;dsimp only [ahp,gm];refine ay (λ(y:List au×aAV)=>y.1=a/\y.2.1=a.length/\y.2.2.2.1=n/\0<=y.2.2.1/\y.2.2.1<=a.length/\All y.2.2.1 (λi=>Pn n (a.getD i.toNat default))) (λy=>(a.length-y.2.2.1).toNat) ⟨rfl,rfl,rfl,by simp,by simp,All.zero⟩ ?_;rintro⟨(l:List au),(m:Int),(i:Int),(k:Int),⟨⟩⟩ hI;dsimp only at hI ⊢;obtain⟨rfl,rfl,rfl,o,s,g⟩:=hI;simp (disch:=omega) only [RR];refine⟨λd=> ?_,λd=> ?_⟩
 .have h5:=j.at i.toNat;rw [q _ _ h5,r _ _ h5];refine⟨ah,ah,rfl,λc=> ?_,λc=>⟨⟨rfl,ah,ah,g.snoc ?_⟩,ah⟩⟩
  .rw [aT (λh=> ?_)];exact aF.1 c (h i o d)
  .exact Classical.byContradiction (λh=>gI.1 c h)
 .rw [aI (show bA l k from g.le ah)]
def axf(m:au):ahq.F () (m,()) (λy=>y=(bp (0<m.atoms.length/\m.atoms.getD 0 default<0),())):=by
 dsimp only [ahq,gm];simp (disch:=omega) only [RR];refine⟨ah,ah,?_⟩;rw [fH];by_cases a:0<m.atoms.length
 .by_cases h2:m.atoms.getD 0 default<0
  .rw [aI a,aI h2,show Int.toNat 0=0 from rfl,decide_eq_true h2,decide_eq_true ah]
  .rw [aI a,aT h2,show Int.toNat 0=0 from rfl,decide_eq_false h2,Bool.and_false,Bool.and_false]
 .rw [aT a,decide_eq_false ah,Bool.false_and,Bool.false_and]
def aqD{p:aBj->Bool}{f:aBj->fA}(G:au->Prop)(U:∀a,p (a,())=true/\f (a,())=(bp (G a),()))(a:List au)(e:a.length<1000000000):
  Xc.F (p,f,()) (a,()) (λy=>Idx a.length (λi=>G (a.getD i.toNat default)) y.1):=by
 dsimp only [Xc,gm];refine ay (λ(y:List au×ni)=>y.1=a/\y.2.1=a.length/\0<=y.2.2.1/\y.2.2.1<=a.length/\All y.2.2.1 (λi=>¬G (a.getD i.toNat default))) (λy=>(a.length-y.2.2.1).toNat) ⟨rfl,rfl,by simp,by simp,All.zero⟩ ?_;rintro⟨(l:List au),(m:Int),(i:Int),⟨⟩⟩ hI;dsimp only at hI ⊢;obtain⟨rfl,rfl,h,g,c⟩:=hI;simp (disch:=omega) only [RR,U];refine⟨λd=>⟨ah,ah,λb=> ?_,λb=>⟨⟨ah,ah,c.snoc (gI.1 b)⟩,ah⟩⟩,λd=> ?_⟩
 .exact Or.inr ⟨ah,ah,aF.1 b,c⟩
 .exact Or.inl ⟨rfl,c.le ah⟩
def aqE{p:eu->Bool}{f:eu->dY}(G:au->Prop)(U:∀a,a.length<1000000000->p (a,())=true/\(Idx a.length (λi=>G (a.getD i.toNat default)) (f (a,())).1))(a:List au)(b:a.length<1000000000):
  Xd.F (p,f,()) (a,()) (λy=>y=(bp (¬All a.length (λi=>¬G (a.getD i.toNat default))),())):=by
 have c:=(U a b).2;dsimp only [Xd,gm];simp (disch:=omega) only [RR,(U a b).1];rw [show decide ((0:Int)<=(f (a,())).1)=bp (¬All a.length (λi=>¬G (a.getD i.toNat default)))from ?_];rw [<-ig c.ge];simp [bp]
def mOk(m:au):Prop:=(1<=m.bN/\m.bN<=65535)/\m.atoms.length<=4/\Srt m.atoms
def aX(p:List au):Prop:=All p.length (λi=>mOk (p.getD i.toNat default)/\(0<i->fM (p.getD (i-1).toNat default).atoms (p.getD i.toNat default).atoms<0))/\p.length<=12/\bA p 200
 /\All p.length (λi=>¬(0< (p.getD i.toNat default).atoms.length/\(p.getD i.toNat default).atoms.getD 0 default<0))
abbrev Y6(c:List au×dY->Bool)(b:List au×dY->fA):Prop:=∀a n,Sh a->c (a,n,())=true/\b (a,n,())=(bp (bA a n),())
abbrev Y7(d:wm->Bool)(c:wm->dY):Prop:=∀a b,a.length<1000000000->d (a,b,())=true/\c (a,b,())=(fM a b,())
def axg{p1 f1 p2 f2 p4 f4}{g:bn->Bool}{q:bn->fA}{j:eu->Bool}{n:eu->fA}(A:Y1 p1 f1)(w:Y6 p2 f2)(v:∀a,a.length<1000000000->g (a,())=true/\q (a,())=(bp (Srt a),()))(x:Y7 p4 f4)(t:∀a,a.length<1000000000->j (a,())=true/\(n (a,())=(bp (¬All a.length (λi=>¬(0< (a.getD i.toNat default).atoms.length/\(a.getD i.toNat default).atoms.getD 0 default<0))),())))(a:List au)(f:Sh a):ahr.F (p1,f1,p2,f2,g,q,p4,f4,j,n,()) (a,()) (λy=>y=(bp (aX a),())):=by
 have e:=f.1;dsimp only [ahr,gm];refine ay (λ(y:List au×l7)=>y.1=a/\y.2.1=a.length/\y.2.2.2.1=a/\0<=y.2.2.1/\y.2.2.1<=a.length/\All y.2.2.1 (λi=>mOk (a.getD i.toNat default)/\(0<i->fM (a.getD (i-1).toNat default).atoms (a.getD i.toNat default).atoms<0))) (λy=>(a.length-y.2.2.1).toNat) ⟨rfl,rfl,rfl,by simp,by simp,All.zero⟩ ?_;rintro⟨(l:List au),(m:Int),(i:Int),(d:List au),⟨⟩⟩ hI;dsimp only at hI ⊢;obtain⟨rfl,rfl,rfl,s,B,o⟩:=hI;simp (disch:=omega) only [RR,A,w d _ f,t d e];refine⟨λk=> ?_,λk=> ?_⟩
 .simp (disch:=omega) only [RR,v _ (f.at _),x _ _ (f.at _),aF,gI,inB];refine⟨ah,ah,by by_cases h:i<=0<;>simp [h]<;>omega,ah,λc=> ?_,λc=>⟨⟨ah,ah,o.snoc ?_⟩,ah⟩⟩
  .rw [aT (λh=> ?_)];have:=h.1 i s k;dsimp only [mOk]at this;obtain⟨⟨p,C,u⟩,z⟩:=this;rcases c with((c | c) | c) | ⟨c,r⟩
   .simp [-getD_eq_getElem?_getD]at c;omega
   .omega
   .exact c u
   .have:=z c;omega
  .refine⟨⟨ah,ah,c.1.2⟩,λp=> ?_⟩;have:=c.2;simp only [decide_eq_true p,Bool.true_and,decide_eq_false_iff_not]at this;omega
 .unfold aX;rw [show All (↑d.length) (λi=>mOk (d.getD i.toNat default)/\(0<i->fM (d.getD (i-1).toNat default).atoms (d.getD i.toNat default).atoms<0))=True from eq_true (o.le ah)];rw [true_and,fH,fH,Bool.and_assoc];refine congrArg (λb=>(b,())) ?_
  congr 1
  .by_cases h:d.length<=12<;>simp [bp,h]<;>omega
  .congr 1
   simp [bp]
def Po(a b:au):Int:=or2 (fM a.atoms b.atoms) (jd a.bN b.bN)
def Fq:List au->List au->Int
 | a::az,b::bs=>if Po a b≠0 then Po a b else Fq az bs
 | _,_=>0
def jR(a b:List au):Int:=if jd a.length b.length≠0 then jd a.length b.length else Fq a b
def Fu(a b:List au)(i:Nat):(d:i<a.length)->(c:i<b.length)->Fq (a.drop i) (b.drop i)=if Po a[i] b[i]≠0 then Po a[i] b[i]else Fq (a.drop (i+1)) (b.drop (i+1)):=by
 intro d c;rw [drop_eq_getElem_cons d,drop_eq_getElem_cons c];rfl
def axh{p1 f1 p2 f2 p4 f4}(p:Y4 p1 f1)(n:Y3 p2 f2)(o:Y7 p4 f4)(a b:List au)(g:Sh a):aht.F (p1,f1,p2,f2,p4,f4,()) (a,b,()) (λy=>y=(jR a b,())):=by
 have f:=g.1;dsimp only [aht,gm];simp (disch:=omega) only [RR,n];refine⟨λh=>by rw [jR,if_pos h],λh=> ?_⟩;have s:a.length=b.length:=by unfold jd at h;split at h<;>(try split at h)<;>omega
 rw [show jR a b=Fq a b by rw [jR,if_neg (by simp [h])]];refine ay (λ(y:List au×l7)=>y.1=a/\y.2.1=a.length/\y.2.2.2.1=b/\0<=y.2.2.1/\y.2.2.1<=a.length/\Fq a b=Fq (a.drop y.2.2.1.toNat) (b.drop y.2.2.1.toNat)) (λy=>(a.length-y.2.2.1).toNat) ⟨rfl,rfl,rfl,by simp,by simp,by simp⟩ ?_;rintro⟨(l:List au),(m:Int),(i:Int),(j:List au),⟨⟩⟩ hI;dsimp only at hI ⊢;obtain⟨rfl,rfl,rfl,r,q,e⟩:=hI;simp (disch:=omega) only [RR,p,o _ _ (g.at _)];refine⟨λk=>⟨ah,ah,ah,ah,ah,ah,λd=> ?_,λd=>⟨⟨ah,ah,?_⟩,ah⟩⟩,λk=> ?_⟩
 .rw [e,Fu _ _ _ ah ah];rw [getD_lt ah,getD_lt ah]at d ⊢;exact((if_pos (c:=Po l[i.toNat] j[i.toNat]≠0) d).trans rfl).symm▸rfl
 .rw [e,Fu _ _ _ ah ah];rw [getD_lt ah,getD_lt ah]at d;rw [if_neg (show¬(Po l[i.toNat] j[i.toNat]≠0)from λh=>h d),show(i+1).toNat=i.toNat+1 by omega]
 .rw [e,drop_eq_nil_of_le ah];rfl
abbrev Y8(d:ql->Bool)(c:ql->dY):Prop:=∀a b,Sh a->d (a,b,())=true/\c (a,b,())=(jR a b,())
def aqF{p1 f1}(c:Y8 p1 f1)(a b:List au)(d:Sh a):
  Xe.F (p1,f1,()) (a,b,()) (λy=>y=(decide (jR a b=0),())):=by
 dsimp only [Xe,gm];simp (disch:=omega) only [RR,c a b d]
end Go.TX.F
namespace Go.TX.F
open Go Go.AE Go.TX List
variable{G:Int->Prop}
theorem Pp(k:IntKind)(x y:Int):gF .and k x y=kr .and k x y:=rfl
theorem aat(k:IntKind)(x y:Int):gF .xor k x y=kr .xor k x y:=rfl
def aiB(x:Int):kr .and .i64 x 65535=x%65536:=by
 unfold kr;dsimp only;rw [BitVec.toNat_and,BitVec.toNat_ofInt,BitVec.toNat_ofInt];have a:((65535:Int)% ((2^IntKind.i64.bits:Nat):Int)).toNat=2^16-1:=by decide
 rw [a,Nat.and_two_pow_sub_one_eq_mod];rw [w64 ah ah];have b:((2^IntKind.i64.bits:Nat):Int)=18446744073709551616:=by decide
 rw [b];omega
def amX{a b:Int}(h:0<=a)(f:a<=65535)(i:0<=b)(e:b<=65535):(0<=kr .and .i64 a b/\kr .and .i64 a b<=65535)/\(0<=kr .xor .i64 a b/\kr .xor .i64 a b<=65535):=by
 have c:((2^IntKind.i64.bits:Nat):Int)=18446744073709551616:=by decide
 have d:kr .and .i64 a b=((a.toNat&&&b.toNat:Nat):Int):=by
  unfold kr;dsimp only;rw [BitVec.toNat_and,BitVec.toNat_ofInt,BitVec.toNat_ofInt,c,show a%18446744073709551616=a by omega,show b%18446744073709551616=b by omega];have:=Nat.and_lt_two_pow (a.toNat) (show b.toNat<2^16 by omega);rw [w64 ah ah]
 have g:kr .xor .i64 a b=((a.toNat^^^b.toNat:Nat):Int):=by
  unfold kr;dsimp only;rw [BitVec.toNat_xor,BitVec.toNat_ofInt,BitVec.toNat_ofInt,c,show a%18446744073709551616=a by omega,show b%18446744073709551616=b by omega];have:=Nat.xor_lt_two_pow (show a.toNat<2^16 by omega) (show b.toNat<2^16 by omega);rw [w64 ah ah]
 rw [d,g];have:=Nat.and_lt_two_pow (a.toNat) (show b.toNat<2^16 by omega);have:=Nat.xor_lt_two_pow (show a.toNat<2^16 by omega) (show b.toNat<2^16 by omega);omega
def aqG(a:Int):Xl.F () (a,()) (λy=>y=(a%65536,())):=by
 dsimp only [Xl,gm];simp (disch:=omega) only [RR,Pp,aiB]
def wdo(c a b:Int):Int:=if(0<=a/\a<=65535)/\(0<=b/\b<=65535)then
 (if c=1 then(a+b)%65536 else if c=2 then(a-b)%65536 else if c=3 then(a*b)%65536 else if c=4 then kr .and .i64 a b else if c=5 then kr .xor .i64 a b else 0)else 0
def DT(c a b:Int):0<=wdo c a b/\wdo c a b<=65535:=by
 unfold wdo;split
 .rename_i h;have:=amX h.1.1 h.1.2 h.2.1 h.2.2
  repeat' split
  all_goals omega
 .omega
theorem bB{a b c:Int}:inB a b c=true↔(b<=a/\a<=c):=by simp [inB]
def jJ{a b c:Int}:inB a b c=false↔¬(b<=a/\a<=c):=by rw [<-bB,Bool.not_eq_true]
abbrev Y9(c:dY->Bool)(b:dY->fA):Prop:=∀a,c (a,())=true/\b (a,())=(inB a 0 65535,())
abbrev Y10(c:dY->Bool)(b:dY->dY):Prop:=∀a,c (a,())=true/\b (a,())=(a%65536,())
def aqH{p1 f1 p2 f2}(e:Y9 p1 f1)(f:Y10 p2 f2)(d a b:Int):
  Xm.F (p1,f1,p2,f2,()) (d,a,b,()) (λy=>y=(wdo d a b,())):=by
 dsimp only [Xm,gm];simp (disch:=omega) only [RR,e,f,Pp,aat,bB,jJ];by_cases c:(0<=a/\a<=65535)/\(0<=b/\b<=65535)
 .have hm:0<=a*b/\a*b<=65535*65535:=⟨Int.mul_nonneg c.1.1 c.2.1,Int.mul_le_mul c.1.2 c.2.2 c.2.1 ah⟩
  grind [w64,wdo,absurd]
 grind [absurd,wdo]
def aY(n:Int):List au:=if 1<=n/\n<=65535 then [⟨n,[]⟩]else []
def axi{p1 f1}(b:Y1 p1 f1)(a:Int):
  ahD.F (p1,f1,()) (a,()) (λy=>y=(aY a,())):=by
 dsimp only [ahD,gm];simp (disch:=omega) only [RR,b,bB,jJ]
 grind [aY]
def iO(n:Int):List au:=if 0<=n/\n<=199 then [⟨1,[n]⟩]else []
def axj{p1 f1}(b:Y1 p1 f1)(a:Int):
  ahy.F (p1,f1,()) (a,()) (λy=>y=(iO a,())):=by
 dsimp only [ahy,gm];simp (disch:=omega) only [RR,b,bB,jJ]
 grind [iO]
noncomputable def dz (p:List au):Int×Bool:=if bp (aX p)then(if p.length=0 then(0,true)else if p.length=1/\(p.getD 0 default).atoms.length=0 then((p.getD 0 default).bN,true)else(0,false))else(0,false)
abbrev Y11(c:eu->Bool)(b:eu->fA):Prop:=∀a,Sh a->c (a,())=true/\b (a,())=(bp (aX a),())
def axk{p1 f1}(b:Y11 p1 f1)(a:List au)(c:Sh a):
  ahE.F (p1,f1,()) (a,()) (λy=>y=((dz a).1,(dz a).2,())):=by
 dsimp only [ahE,gm];simp (disch:=omega) only [RR,b a c]
 grind [dz,Int.toNat,default,decide_eq_true,decide_eq_false_iff_not]
def aqI(a:List Int)(b:a.length<=1073741824):Xj.F () (a,()) (λy=>y=(a,())):=by
 dsimp only [Xj,gm];simp (disch:=omega) only [RR];omega
theorem bg{α:Type}{l:List α}{i:Int}{d x:α}(a:0<=i)(h:i<l.length)(e:x=l.getD i.toNat d):l.take i.toNat++ [x]=l.take (i+1).toNat:=by
 rw [e,getD_lt ah,show(i+1).toNat=i.toNat+1 by omega,take_succ_eq_append_getElem ah]
abbrev Y12(c:bn->Bool)(b:bn->bn):Prop:=∀a,a.length<=1073741824->c (a,())=true/\b (a,())=(a,())
def axl{p1 f1}(d:Y12 p1 f1)(a:List au)(b:Sh a):
  ahz.F (p1,f1,()) (a,()) (λy=>y=(a,())):=by
 have c:=b.1;dsimp only [ahz,gm];refine ay (λ(y:List au×l7)=>y.1=a/\y.2.1=a.length/\y.2.2.2.1=a.take y.2.2.1.toNat/\0<=y.2.2.1/\y.2.2.1<=a.length) (λy=>(a.length-y.2.2.1).toNat) ⟨rfl,rfl,by simp,by simp,by simp⟩ ?_;rintro⟨(l:List au),(m:Int),(i:Int),(o:List au),⟨⟩⟩ hI;dsimp only at hI ⊢;obtain⟨rfl,rfl,rfl,f,e⟩:=hI;simp (disch:=first | omega | (have:=b.at i.toNat;omega)) only [RR,d]
 grind [bg,take_of_length_le,length_take_le',length_cons,length_nil]
def ShA(a:Atom):Prop:=Sh a.x/\Sh a.y
def ShT(t:List Atom):Prop:=t.length<1000000000/\∀a∈t,ShA a
def ShT.at{p:List Atom}(h:ShT p)(n:Nat):ShA (p.getD n default):=by
 by_cases a:n<p.length
 .rw [getD_lt a];exact h.2 _ (getElem_mem _)
 .simp only [getD,getElem?_eq_none (by omega:p.length<=n)];refine⟨⟨by decide,λm hm=> ?_⟩,⟨by decide,λm hm=> ?_⟩⟩<;>exact absurd hm (by simp [default,instInhabitedAtom.default])
abbrev Y13(c:eu->Bool)(b:eu->eu):Prop:=∀a,Sh a->c (a,())=true/\b (a,())=(a,())
def axn{p1 f1}(c:Y13 p1 f1)(a:List Atom)(b:ShT a):
  ahA.F (p1,f1,()) (a,()) (λy=>y=(a,())):=by
 have d:=b.1;dsimp only [ahA,gm];refine ay (λ(y:List Atom×Int×Int×mI)=>y.1=a/\y.2.1=a.length/\y.2.2.2.1=a.take y.2.2.1.toNat/\0<=y.2.2.1/\y.2.2.1<=a.length) (λy=>(a.length-y.2.2.1).toNat) ⟨rfl,rfl,by simp,by simp,by simp⟩ ?_;rintro⟨(l:List Atom),(m:Int),(i:Int),(o:List Atom),⟨⟩⟩ hI;dsimp only at hI ⊢;obtain⟨rfl,rfl,rfl,f,e⟩:=hI;simp (disch:=omega) only [RR,c _ (b.at _).1,c _ (b.at _).2]
 grind [bg,take_of_length_le,length_take_le',length_cons,length_nil]
def aqJ{p4 f4}(c:Y7 p4 f4)(a b:au)(d:a.atoms.length<1000000000):
  Xo.F (p4,f4,()) (a,b,()) (λy=>y=(fM a.atoms b.atoms,())):=by
 dsimp only [Xo,gm];simp (disch:=omega) only [RR,c a.atoms b.atoms d]
def aqK(a:List Atom):Xg.F () (a,()) (λy=>y=(a,())):=by
 dsimp only [Xg,gm];simp (disch:=omega) only [RR];simp_all
def xw(a b:Atom):Bool:=decide (a.kind=b.kind)&&decide (a.k=b.k)&&decide (jR a.x b.x=0)&&decide (jR a.y b.y=0)
abbrev Y14(d:ql->Bool)(c:ql->fA):Prop:=∀a b,Sh a->d (a,b,())=true/\c (a,b,())=(decide (jR a b=0),())
def axo{p1 f1}(c:Y14 p1 f1)(a b:Atom)(d:ShA a):
  ahu.F (p1,f1,()) (a,b,()) (λy=>y=(xw a b,())):=by
 dsimp only [ahu,gm];simp (disch:=omega) only [RR,c a.x b.x d.1,c a.y b.y d.2];rfl
abbrev Y15(d:Atom×aAQ->Bool)(c:Atom×aAQ->fA):Prop:=∀a b,ShA a->d (a,b,())=true/\c (a,b,())=(xw a b,())
def axp{p1 f1}(c:Y15 p1 f1)(a b:Atom)(d:ShA b):
  ahv.F (p1,f1,()) (a,b,()) (λy=>y=(xw b a,b,())):=by
 dsimp only [ahv,gm];simp_all
noncomputable def idxOf (n:Int) (G:Int->Prop):Int:= @dite _ (∃r,Idx n G r) (Classical.propDecidable _) (λh=>Classical.choose h) (λ_=> -1)
def Idx.uniq{n:Int}{r s:Int}(h:Idx n G r)(i:Idx n G s):r=s:=by
 rcases h with⟨d,c⟩ | ⟨d,c,e,j⟩<;>rcases i with⟨b,a⟩ | ⟨b,a,f,g⟩
 .omega
 .exact absurd f (c s b a)
 .exact absurd e (a r d c)
 .by_cases h5:r<s
  .exact absurd e (g r d h5)
  .by_cases h6:s<r
   .exact absurd f (j s b h6)
   .omega
def Idx.eq{n:Int}{r:Int}(h:Idx n G r):r=idxOf n G:=by
 unfold idxOf;have a:∃r,Idx n G r:=⟨r,h⟩;rw [dif_pos a];exact h.uniq (Classical.choose_spec a)
def aqL{p:Atom×aAQ->Bool}{f:Atom×aAQ->Bool×aAQ}(U:∀a b,ShA b->p (a,b,())=true/\f (a,b,())=(xw b a,b,()))(a:List Atom)(b:Atom)(h:a.length<1000000000)(g:ShA b):
  Xf.F (p,f,()) (a,b,()) (λy=>y=(idxOf a.length (λi=>xw b (a.getD i.toNat default)=true),b,())):=by
 dsimp only [Xf,gm];refine ay (λ(y:List Atom×Int×Int×aAQ)=>y.1=a/\y.2.1=a.length/\y.2.2.2.1=b/\0<=y.2.2.1/\y.2.2.1<=a.length/\All y.2.2.1 (λi=>¬xw b (a.getD i.toNat default)=true)) (λy=>(a.length-y.2.2.1).toNat) ⟨rfl,rfl,rfl,by simp,by simp,All.zero⟩ ?_;rintro⟨(l:List Atom),(m:Int),(i:Int),(n:Atom),⟨⟩⟩ hI;dsimp only at hI ⊢;obtain⟨rfl,rfl,rfl,k,j,d⟩:=hI;simp (disch:=omega) only [RR,U _ _ g];refine⟨λe=>⟨ah,ah,λc=> ?_,λc=>⟨⟨ah,ah,d.snoc (by simp only [c];simp)⟩,ah⟩⟩,λe=> ?_⟩
 .rw [<-Idx.eq (Or.inr ⟨ah,ah,c,d⟩)]
 .rw [<-Idx.eq (Or.inl ⟨rfl,d.le ah⟩)]
noncomputable def xA (t:List Atom) (a:Atom):Int:=idxOf t.length (λi=>xw a (t.getD i.toNat default)=true)
def axq{p:yt->Bool}{f:yt->Int×aAQ}(U:∀a b,a.length<1000000000->ShA b->p (a,b,())=true/\(f (a,b,())=(idxOf a.length (λi=>xw b (a.getD i.toNat default)=true),b,())))(a:List Atom)(b:Atom)(c:a.length<1000000000)(d:ShA b):
  ahw.F (p,f,()) (a,b,()) (λy=>y=(xA a b,())):=by
 dsimp only [ahw,gm];simp (disch:=omega) only [RR,U a b c d];rfl
def kE(a:Atom)(n:Int):Prop:=if a.kind=4 then(1<=a.k/\a.k<=5)/\aX a.x/\aX a.y/\bA a.x n/\bA a.y n else
 (a.x=[]/\a.y=[])/\((a.kind=1/\0<=a.k/\a.k<=3)\/(a.kind=2\/a.kind=3)/\0<=a.k/\a.k<=199)
abbrev Y16(c:dY->Bool)(b:dY->fA):Prop:=∀a,c (a,())=true/\b (a,())=(inB a 1 5,())
abbrev Y17(c:dY->Bool)(b:dY->fA):Prop:=∀a,c (a,())=true/\b (a,())=(inB a 0 3,())
def axr{p1 f1 p2 f2 p3 f3 p4 f4 p5 f5}(f:Y1 p1 f1)(g:Y16 p2 f2)(e:Y6 p3 f3)(d:Y11 p4 f4)(l:Y17 p5 f5)(a:Atom)(n:Int)(i:ShA a):
  ahs.F (p1,f1,p2,f2,p3,f3,p4,f4,p5,f5,()) (a,n,()) (λy=>y=(bp (kE a n),())):=by
 obtain⟨c,b⟩:=i;have m:=c.1;have k:=b.1;dsimp only [ahs,gm];simp (disch:=omega) only [RR,f,g,e a.x n c,e a.y n b,d a.x c,d a.y b,l];unfold kE;refine⟨λh=> ?_,λh=>⟨λj=> ?_,λj=> ?_⟩⟩
 .grind [aF,bB]
 .rw [if_neg h,aT]
  grind
 .rw [if_neg h];have o:a.x=[]:=eq_nil_of_length_eq_zero ah;have p:a.y=[]:=eq_nil_of_length_eq_zero ah
  grind [aF,bB]
def aM(t:List Atom):Prop:=All t.length (λi=>kE (t.getD i.toNat default) i/\xA t (t.getD i.toNat default)=i)/\t.length<=200
abbrev Y18(c:Atom×dY->Bool)(b:Atom×dY->fA):Prop:=∀a n,ShA a->c (a,n,())=true/\b (a,n,())=(bp (kE a n),())
abbrev Y19(d:yt->Bool)(c:yt->dY):Prop:=∀a b,a.length<1000000000->ShA b->d (a,b,())=true/\c (a,b,())=(xA a b,())
def axt{p1 f1 p2 f2}(f:Y18 p1 f1)(g:Y19 p2 f2)(a:List Atom)(b:ShT a):
  ahC.F (p1,f1,p2,f2,()) (a,()) (λy=>y=(bp (aM a),())):=by
 have e:=b.1;dsimp only [ahC,gm];refine ay (λ(y:List Atom×Int×Int×mI)=>y.1=a/\y.2.1=a.length/\y.2.2.2.1=a/\0<=y.2.2.1/\y.2.2.1<=a.length/\All y.2.2.1 (λi=>kE (a.getD i.toNat default) i/\xA a (a.getD i.toNat default)=i)) (λy=>(a.length-y.2.2.1).toNat) ⟨rfl,rfl,rfl,by simp,by simp,All.zero⟩ ?_;rintro⟨(l:List Atom),(m:Int),(i:Int),(o:List Atom),⟨⟩⟩ hI;dsimp only at hI ⊢;obtain⟨rfl,rfl,rfl,j,n,k⟩:=hI;simp (disch:=omega) only [RR,f _ _ (b.at _),g _ _ b.1 (b.at _),aF,gI];refine⟨λc=>⟨ah,ah,λd=> ?_,λd=>⟨⟨ah,ah,k.snoc d⟩,ah⟩⟩,λc=> ?_⟩
 .rw [aT (λh=> ?_)];have:=h.1 i j c;simp_all
 grind [aI,aM,decide_eq_true,aT,decide_eq_false]
noncomputable def bE (t:List Atom) (a:Atom):List Atom×Int:=if 0<=xA t a then(t,xA t a)else @ite _ (¬kE a t.length\/t.length=200) (Classical.propDecidable _) (t, -1) (t++ [a],(t.length:Int))
def axu{p1 f1 p2 f2}{b:mI->Bool}{d:mI->mI}(f:Y18 p1 f1)(g:Y19 p2 f2)(e:∀a,b (a,())=true/\d (a,())=(a,()))(t:List Atom)(a:Atom)(h:t.length<1000000000)(c:ShA a):
  ahx.F (p1,f1,p2,f2,b,d,()) (t,a,()) (λy=>y=((bE t a).1,(bE t a).2,())):=by
 dsimp only [ahx,gm];simp (disch:=omega) only [RR,f a t.length c,g t a h c,e,aF,gI]
 grind [bE,length_cons,length_nil,absurd]
end Go.TX.F
namespace Go.TX.F
open Go Go.AE Go.TX List
variable{d:List au}
def NC(a b:Int):jd b a= -jd a b:=by unfold jd;repeat' split<;>omega
def kU{a b:Int}:jd a b=0↔a=b:=by unfold jd;constructor<;>intro h<;>(repeat' split at*)<;>omega
def ND:∀a b:List Int,nS b a= -nS a b
 | [],[]=>rfl | [],_::_=>rfl | _::_,[]=>rfl
 | a::az,b::bs=>by
  simp only [nS,NC a b,ND az bs];split<;>split<;>omega
def NG:∀ {a b:List Int},nS a b=0->a=b
 | [],[],_=>rfl | [],_::_,h=>by simp [nS]at h
 | _::_,[],h=>by simp [nS]at h
 | a::az,b::bs,h=>by
  simp only [nS]at h;split at h
  .exact absurd h (by assumption)
  .rename_i h1;rw [kU.1 (Classical.not_not.1 h1),NG h]
def NH:∀a:List Int,nS a a=0
 | []=>rfl
 | a::az=>by simp only [nS,show jd a a=0 from kU.2 rfl];simp [NH az]
def JV:∀ {a b c:List Int},nS a b<=0->nS b c<=0->nS a c<=0
 | [],_,[],_,_=>by simp [nS]
 | [],_,_::_,_,_=>by simp [nS]
 | _::_,[],_,h,_=>by simp [nS]at h
 | _::_,_::_,[],_,h=>by simp [nS]at h
 | a::az,b::bs,c::cs,h1,h2=>by
  have d:= @JV az bs cs;simp only [nS]at h1 h2 ⊢;unfold jd at h1 h2 ⊢
  repeat' split at h1
  all_goals (repeat' split at h2)
  all_goals (repeat' split)
  all_goals omega
def vw(a b:List Int):fM b a= -fM a b:=by
 unfold fM or2;rw [NC,ND];repeat' split<;>omega
def nu{a b:List Int}:fM a b=0↔a=b:=by
 constructor
 .intro h;unfold fM or2 at h;split at h
  .exact absurd h (by assumption)
  .exact NG h
 .rintro rfl;unfold fM or2;rw [show jd (a.length:Int) a.length=0 from kU.2 rfl,NH];rfl
def CG{a b c:List Int}(e:fM a b<=0)(d:fM b c<=0):fM a c<=0:=by
 have f:= @JV a b c;unfold fM or2 jd at*
 repeat' split at e
 all_goals (repeat' split at d)
 all_goals (repeat' split)
 all_goals omega
def le(x y:au):Prop:=fM x.atoms y.atoms<=0
def le.trans{x y z:au}(a:le x y)(h2:le y z):le x z:=CG a h2
def vB{x y:au}(h:¬fM y.atoms x.atoms<0):le x y:=by unfold le;rw [vw];omega
def le_of_lt{x y:au}(h:fM x.atoms y.atoms<0):le x y:=by unfold le;omega
def le_refl(x:au):le x x:=by unfold le;rw [nu.2 rfl];omega
def eF{x y z:au}(a:le x y)(b:fM y.atoms z.atoms<0):fM x.atoms z.atoms<0:=by
 have c:=CG a (le_of_lt b);by_cases h:fM x.atoms z.atoms=0
 .have e:=nu.1 h;unfold le at a;rw [e,vw]at a;omega
 .omega
def nA{x y z:au}(b:fM x.atoms y.atoms<0)(a:le y z):fM x.atoms z.atoms<0:=by
 have c:=CG (le_of_lt b) a;by_cases h:fM x.atoms z.atoms=0
 .have e:=nu.1 h;unfold le at a;rw [<-e,vw]at a;omega
 .omega
def Pq(g:au->Int)(x:au):∀(d:List au) (n:Nat) (h:n<d.length),((d.set n x).map g).sum=(d.map g).sum-g d[n]+g x
 | [],_,h=>absurd h (by simp)
 | a::d,0,h=>by simp;omega
 | a::d,n+1,h=>by
  have:=Pq g x d n (by simpa using h);simp only [set_cons_succ,map_cons,sum_cons,getElem_cons_succ];omega
structure Sm(d d':List au):Prop where
 len:d'.length=d.length
 sum:∀g:au->Int,(d'.map g).sum=(d.map g).sum
def Sm.refl(d:List au):Sm d d:=⟨rfl,λ_=>rfl⟩
def Sm.trans{a b c:List au}(d:Sm a b)(h2:Sm b c):Sm a c:=⟨h2.1.trans d.1,λg=>(h2.2 g).trans (d.2 g)⟩
def Pv(x:au):∀d:List au,0<=(d.map (λy=>if y=x then(1:Int)else 0)).sum/\(0< (d.map (λy=>if y=x then(1:Int)else 0)).sum↔x∈d)
 | []=>by simp
 | a::d=>by
  have:=Pv x d;simp only [map_cons,sum_cons,mem_cons];by_cases h:a=x
  .rw [if_pos h];refine⟨ah,⟨λ_=>Or.inl h.symm,λ_=>by omega⟩⟩
  .rw [if_neg h];refine⟨ah,⟨λb=>Or.inr (this.2.1 ah),λb=> ?_⟩⟩;rcases b with b | b
   .exact absurd b.symm h
   .have:=this.2.2 b;omega
def Sm.mem{a b:List au}(h:Sm a b){x:au}(c:x∈b):x∈a:=by
 rw [<-(Pv x a).2,<-h.2];exact(Pv x b).2.2 c
def Sm.sh{a b:List au}(h:Sm a b)(c:Sh a):Sh b:=⟨by have:=c.1;have:=h.1;omega,λm hm=>c.2 m (h.mem hm)⟩
def swp(d:List au)(i j:Int):List au:=(d.set i.toNat ((d).getD (j).toNat default)).set j.toNat ((d).getD (i).toNat default)
def amY(d:List au)(i j:Int):(swp d i j).length=d.length:=by simp [swp]
def at_set{i j:Int}{x:au}(b:0<=i)(a:i<d.length)(c:0<=j):((d.set i.toNat x).getD (j).toNat default)=if j=i then x else((d).getD (j).toNat default):=by
 simp only [getD];by_cases h:j=i
 .subst h;rw [if_pos rfl,getElem?_set_self ah];rfl
 .rw [if_neg h,getElem?_set_ne ah]
def zm{i j k:Int}(c:0<=i)(b:i<d.length)(e:0<=j)(f:j<d.length)(a:0<=k):((swp d i j).getD (k).toNat default)=if k=j then((d).getD (i).toNat default)else if k=i then((d).getD (j).toNat default)else((d).getD (k).toNat default):=by
 unfold swp;rw [at_set e (by simp;omega) a,at_set c b a]
def Pw{i j:Int}(c:0<=i)(a:i<d.length)(e:0<=j)(b:j<d.length):Sm d (swp d i j):=by
 refine⟨amY d i j,λg=> ?_⟩;unfold swp;rw [getD_lt (show i.toNat<d.length by omega),getD_lt (show j.toNat<d.length by omega),Pq g _ _ _ (by simp;omega),Pq g _ _ _ ah,getElem_set];split
 .rename_i h;have:i=j:=by omega
  subst this;omega
 .omega
def Swp(d c:List au)(a b n:Int):Prop:=Sm d c/\∀k,0<=k->((c).getD (k).toNat default)=if a<=k/\k<a+n then((d).getD (k+(b-a)).toNat default)else if b<=k/\k<b+n then((d).getD (k- (b-a)).toNat default)else((d).getD (k).toNat default)
theorem aqM(a b n:Int)(d:List au)(s:d.length<1000000000)(q:0<=a)(o:0<=n)(t:a+n<=b)(p:b+n<=d.length):
  Xq.F () (a,b,n,d,()) (λy=>Swp d y.1 a b n):=by
 dsimp only [Xq,gm]
 refine ay (λ(y:Int×aAL)=>y.1=a/\y.2.1=b/\y.2.2.1=n/\0<=y.2.2.2.1/\y.2.2.2.1<=n/\Swp d y.2.2.2.2.1 a b y.2.2.2.1) (λy=>(n-y.2.2.2.1).toNat)
  ⟨rfl,rfl,rfl,by simp,by simp;omega,Sm.refl d,λk hk=>by dsimp only;rw [if_neg ah,if_neg ah]⟩ ?_
 rintro⟨(g:Int),(f:Int),(j:Int),(i:Int),(e:List au),⟨⟩⟩ hI;dsimp only at hI ⊢;obtain⟨rfl,rfl,rfl,r,u,h,c⟩:=hI;have m:=h.1;simp (disch:=omega) only [RR,length_set];refine⟨λl=> ?_,λl=> ?_⟩
 .have e1:(e.set (g+i).toNat ((e).getD (f+i).toNat default)).set (f+i).toNat ((e).getD (g+i).toNat default)=swp e (g+i) (f+i):=rfl;rw [e1];refine⟨ah,ah,ah,ah,ah,ah,ah,ah,ah,ah,ah,ah,ah,ah,ah,ah,⟨ah,ah,h.trans (Pw ah ah ah ah),λk hk=> ?_⟩,ah⟩;rw [zm ah ah ah ah hk];rw [c _ ah,c _ ah,c _ hk]
  repeat' split
  all_goals first | rfl | (exfalso;omega) | (congr 2;omega)
 .have:i=j:=by omega
  subst this;exact⟨h,c⟩
end Go.TX.F
namespace Go.TX.F
open Go Go.AE Go.TX List
def Rot(d c:List au)(a m b:Int):Prop:=Sm d c/\∀k,0<=k->((c).getD (k).toNat default)=if a<=k/\k<a+(b-m)then((d).getD (k+(m-a)).toNat default)else if a+(b-m)<=k/\k<b then((d).getD (k- (b-m)).toNat default)else((d).getD (k).toNat default)
def aqN{p:aAL->Bool}{f:aAL->eu}(U:∀(a b n:Int) (d:List au),d.length<1000000000->0<=a->0<=n->a+n<=b->b+n<=d.length->p (a,b,n,d,())=true/\Swp d (f (a,b,n,d,())).1 a b n)(a m b:Int)(d:List au)(F:d.length<1000000000)(C:0<=a)(x:a<m)(G:m<b)(z:b<=d.length):
  Xr.F (p,f,()) (a,m,b,d,()) (λy=>Rot d y.1 a m b):=by
 dsimp only [Xr,gm];simp (disch:=omega) only [RR]
 refine ay (λ(y:aAL)=>y.1=m/\0<y.2.1/\0<y.2.2.1/\a<=m-y.2.1/\m+y.2.2.1<=b/\Sm d y.2.2.2.1/\
   ∀k,0<=k->(if a<=k/\k<a+(b-m)then((d).getD (k+(m-a)).toNat default)else if a+(b-m)<=k/\k<b then((d).getD (k- (b-m)).toNat default)else((d).getD (k).toNat default))
    =(if m-y.2.1<=k/\k<m-y.2.1+y.2.2.1 then((y.2.2.2.1).getD (k+y.2.1).toNat default)else if m-y.2.1+y.2.2.1<=k/\k<m+y.2.2.1 then((y.2.2.2.1).getD (k-y.2.2.1).toNat default)else((y.2.2.2.1).getD (k).toNat default))) (λy=>(y.2.1+y.2.2.1).toNat)
  ⟨rfl,by simp;omega,by simp;omega,by simp;omega,by simp;omega,Sm.refl d,λk hk=>by
   dsimp only;rw [show m- (m-a)=a by omega,show m+(b-m)=b by omega]⟩ ?_
 rintro⟨(c:Int),(i:Int),(j:Int),(e:List au),⟨⟩⟩ hI;dsimp only at hI ⊢;obtain⟨rfl,D,H,B,E,r,h⟩:=hI;have w:=r.1;simp (disch:=omega) only [RR];refine⟨λt=>⟨λs=> ?_,λs=> ?_⟩,λt=> ?_⟩
 .obtain⟨l,g⟩:=(U (c-i) c j e ah ah ah ah ah).2;refine⟨(U _ _ _ _ ah ah ah ah ah).1,⟨ah,ah,ah,ah,r.trans l,λk hk=> ?_⟩,ah⟩;rw [h k hk];generalize (f (c-i,c,j,e,())).1=v at l g ⊢;by_cases o:c-i<=k/\k<c-i+j
  .rw [if_pos o,if_neg ah,if_neg ah,g k hk,if_pos o];congr 2;omega
  .rw [if_neg o];by_cases q:c-i+j<=k/\k<c+j
   .rw [if_pos q];by_cases u:c- (i-j)<=k/\k<c- (i-j)+j
    .rw [if_pos u,g _ ah,if_neg ah,if_pos ah];congr 2;omega
    .rw [if_neg u,if_pos ah,g _ ah,if_neg ah,if_neg ah]
   .rw [if_neg q,if_neg ah,if_neg ah,g _ hk,if_neg ah,if_neg ah]
 .obtain⟨l,g⟩:=(U (c-i) (c+j-i) i e ah ah ah ah ah).2;refine⟨(U _ _ _ _ ah ah ah ah ah).1,⟨ah,ah,ah,ah,r.trans l,λk hk=> ?_⟩,ah⟩;rw [h k hk];generalize (f (c-i,c+j-i,i,e,())).1=v at l g ⊢;by_cases o:c-i<=k/\k<c-i+j
  .rw [if_pos o];by_cases u:k<c-i+(j-i)
   .rw [if_pos ah,g _ ah];by_cases I:k<c
    .by_cases c5:k+i<c+j-i
     .rw [if_neg ah,if_neg ah]
     .exfalso;omega
    .by_cases c5:k+i<c+j-i
     .rw [if_neg ah,if_neg ah]
     .exfalso;omega
   .by_cases c6:k<c
    .rw [if_neg ah,if_pos ah,g _ ah,if_pos ah];congr 2;omega
    .rw [if_neg ah,if_pos ah,g _ ah];by_cases A:k- (j-i)<c
     .rw [if_pos ah];congr 2;omega
     .exfalso;omega
  .rw [if_neg o];by_cases q:c-i+j<=k/\k<c+j
   .rw [if_pos q,if_neg ah,if_neg ah,g _ hk,if_neg ah,if_pos ah];congr 2;omega
   .rw [if_neg q,if_neg ah,if_neg ah,g _ hk,if_neg ah,if_neg ah]
 .have hij:i=j:=by omega
  subst hij;obtain⟨l,g⟩:=(U (c-i) c i e ah ah ah ah ah).2;refine⟨(U _ _ _ _ ah ah ah ah ah).1,r.trans l,λk hk=> ?_⟩;rw [h k hk,g k hk]
  repeat' split
  all_goals first | rfl | (exfalso;omega) | (congr 2;omega)
def pY(d:List au)(a b:Int):Prop:=∀p q,a<=p->p<=q->q<b->le ((d).getD (p).toNat default) ((d).getD (q).toNat default)
def Out(d c:List au)(a b:Int):Prop:=∀k,0<=k->(k<a\/b<=k)->((c).getD (k).toNat default)=((d).getD (k).toNat default)
abbrev Y20(b:au×aBj->Bool)(a:au×aBj->dY):Prop:=∀x y,x.atoms.length<1000000000->b (x,y,())=true/\a (x,y,())=(fM x.atoms y.atoms,())
theorem aqO{p f}(U:Y20 p f)(a b:Int)(d:List au)(hd:Sh d)(M:0<=a)(K:a<=b)(G:b<=d.length):
  Xp.F (p,f,()) (a,b,d,()) (λy=>Sm d y.1/\Out d y.1 a b/\pY y.1 a b):=by
 have D:=hd.1;dsimp only [Xp,gm];simp (disch:=omega) only [RR]
 refine ay (λ(y:aAL)=>y.1=a/\y.2.1=b/\a+1<=y.2.2.1/\(y.2.2.1<=b\/y.2.2.1=a+1)/\Sm d y.2.2.2.1/\Out d y.2.2.2.1 a b/\pY y.2.2.2.1 a y.2.2.1) (λy=>(b-y.2.2.1).toNat)
  ⟨rfl,rfl,by simp,Or.inr rfl,Sm.refl d,λk _ _=>rfl,λp q M K G=>by dsimp only at G;rw [show p=q by omega];exact le_refl _⟩ ?_
 rintro⟨(w:Int),(B:Int),(i:Int),(e:List au),⟨⟩⟩ hI;dsimp only at hI ⊢;obtain⟨rfl,rfl,V,W,A,C,E⟩:=hI;have T:=A.1;simp (disch:=omega) only [RR];refine⟨λR=> ?_,λR=>⟨A,C,λp q s n I=>E p q s n ah⟩⟩
 refine ay (λ(y:Int×aAL)=>y.1=w/\y.2.1=B/\y.2.2.1=i/\w<=y.2.2.2.1/\y.2.2.2.1<=i/\Sm d y.2.2.2.2.1/\Out d y.2.2.2.2.1 w B
   /\(∀p q,w<=p->p<=q->q<=i->p≠y.2.2.2.1->q≠y.2.2.2.1->le ((y.2.2.2.2.1).getD (p).toNat default) ((y.2.2.2.2.1).getD (q).toNat default))/\(∀q,y.2.2.2.1<q->q<=i->le ((y.2.2.2.2.1).getD (y.2.2.2.1).toNat default) ((y.2.2.2.2.1).getD (q).toNat default))) (λy=>y.2.2.2.1.toNat)
  ⟨rfl,rfl,rfl,by simp;omega,by simp,A,C,λp q s n I X Q=>E p q s n (by dsimp only at I Q;omega),λq s n=>by dsimp only at s;omega⟩ ?_
 rintro⟨(z:Int),(J:Int),(Y:Int),(j:Int),(o:List au),⟨⟩⟩ hI;dsimp only at hI ⊢;obtain⟨rfl,rfl,rfl,L,N,m,t,l,u⟩:=hI;have F:=m.1;have P:=m.sh hd;simp (disch:=omega) only [RR,length_set,U _ _ (P.at _)];have S:(o.set j.toNat ((o).getD (j-1).toNat default)).set (j-1).toNat ((o).getD (j).toNat default)=swp o j (j-1):=rfl;rw [S]
 repeat' (refine And.intro ?_ ?_)
 all_goals try omega
 .intro ⟨s,n⟩
  repeat' (refine And.intro ?_ ?_)
  all_goals try omega
  .exact m.trans (Pw ah ah ah ah)
  .intro k hk hk2;rw [zm ah ah ah ah hk,if_neg ah,if_neg ah];exact t k hk hk2
  .intro p q v x k3 k4 k5;rw [zm ah ah ah ah ah,if_neg k4,zm ah ah ah ah ah,if_neg k5];by_cases r:p=j
   .rw [if_pos r];by_cases h:q=j
    .rw [if_pos h];exact le_refl _
    .rw [if_neg h];exact l _ _ ah ah ah ah ah
   .rw [if_neg r];by_cases h:q=j
    .rw [if_pos h];exact l _ _ ah ah ah ah ah
    .rw [if_neg h];exact l _ _ ah ah ah ah ah
  .intro q v x;rw [zm ah ah ah ah ah,if_pos rfl,zm ah ah ah ah ah,if_neg ah];by_cases h:q=j
   .rw [if_pos h];exact le_of_lt n
   .rw [if_neg h];exact u q ah x
 .intro g;refine⟨⟨ah,ah,m,t,?_⟩,ah⟩;have H:z<j->le ((o).getD (j-1).toNat default) ((o).getD (j).toNat default):=λc=>vB (by
   simp only [decide_eq_true c,Bool.true_and,decide_eq_false_iff_not]at g;exact g)
  intro p q v x k3;by_cases r:p=j
  .subst r;by_cases h:q=p
   .rw [h];exact le_refl _
   .exact u q ah ah
  .by_cases h:q=j
   .subst h;by_cases O:p=q-1
    .rw [O];exact H ah
    .exact(l p (q-1) v ah ah r ah).trans (H ah)
   .exact l p q v x ah r h
variable{p2:aAL->Bool}
def half{x:Int}(a:0<=x)(b:x<=4000000000):IntKind.i64.wrap (gF .shr .u64 (IntKind.u64.wrap x) 1)=x/2:=by grind [IntKind.wrap,IntKind.bits,IntKind.signed,gF,min,Int.toNat,Int.fdiv_eq_ediv_of_nonneg,w64]
structure Mrg(d d':List au)(a b:Int):Prop where
 sm:Sm d d'
 out:Out d d' a b
 ins:∀k,a<=k->k<b->∃j,a<=j/\j<b/\((d').getD (k).toNat default)=((d).getD (j).toNat default)
 srt:pY d' a b
structure JW(a m b:Int)(d:List au):Prop where
 sh:Sh d
 h1:0<=a
 h2:a<m
 h3:m<b
 h4:b<=d.length
 s1:pY d a m
 s2:pY d m b
def Fv{P Q:Prop}[Decidable P][Decidable Q]:((decide P&&decide Q)=false)↔¬(P/\Q):=by simp_all
def SH{B:aAL->eu}
    (a4:∀(a m b:Int) (d:List au),d.length<1000000000->0<=a->a<m->m<b->b<=d.length->p2 (a,m,b,d,())=true) (a1:∀(a m b:Int) (d:List au),d.length<1000000000->0<=a->a<m->m<b->b<=d.length->Rot d (B (a,m,b,d,())).1 a m b)
    {o:aAL->Bool} {l:aAL->eu}
    (K:Int) (N:∀(a m b:Int) (d:List au),JW a m b d->b-a<K->o (a,m,b,d,())=true) (S:∀(a m b:Int) (d:List au),JW a m b d->b-a<K->Mrg d (l (a,m,b,d,())).1 a b)
    (a m b f i E:Int) (d:List au) (hd:JW a m b d) (hK:b-a<=K) (a6:f=(a+b)/2) (hE:E=f+m-i)
    (b1:a<=i) (b2:i<=m) (b3:m<=E) (b4:E<=b) (b5:a<f) (b6:f<b)
    (L:i=a\/E=b\/le ((d).getD (i-1).toNat default) ((d).getD (E).toNat default)) (U:E=m\/i=m\/le ((d).getD (E-1).toNat default) ((d).getD (i).toNat default)):
      (i<m/\m<E->
          p2 (i,m,E,d,())=true/\
            (a<i/\i<f->
                o (a,i,f,(B (i,m,E,d,())).fst,())=true/\
                  (f<E/\E<b->
                      o (f,E,b,(l (a,i,f,(B (i,m,E,d,())).fst,())).fst,())=true/\
                        Mrg d (l (f,E,b,(l (a,i,f,(B (i,m,E,d,())).fst,())).fst,())).fst
                          a b)/\
                    ((decide (f<E)&&decide (E<b))=false->
                      Mrg d (l (a,i,f,(B (i,m,E,d,())).fst,())).fst a b))/\
              ((decide (a<i)&&decide (i<f))=false->
                (f<E/\E<b->
                    o (f,E,b,(B (i,m,E,d,())).fst,())=true/\
                      Mrg d (l (f,E,b,(B (i,m,E,d,())).fst,())).fst a b)/\
                  ((decide (f<E)&&decide (E<b))=false->
                    Mrg d (B (i,m,E,d,())).fst a b)))/\
        ((decide (i<m)&&decide (m<E))=false->
          (a<i/\i<f->
              o (a,i,f,d,())=true/\
                (f<E/\E<b->
                    o (f,E,b,(l (a,i,f,d,())).fst,())=true/\
                      Mrg d (l (f,E,b,(l (a,i,f,d,())).fst,())).fst a b)/\
                  ((decide (f<E)&&decide (E<b))=false->
                    Mrg d (l (a,i,f,d,())).fst a b))/\
            ((decide (a<i)&&decide (i<f))=false->
              (f<E/\E<b->
                  o (f,E,b,d,())=true/\Mrg d (l (f,E,b,d,())).fst a b)/\
                ((decide (f<E)&&decide (E<b))=false->Mrg d d a b))):=by
  obtain⟨hs,h1,h2,h3,h4,T,V⟩:=hd;have A:=hs.1;have H:∀x y,((a<=x/\x<i)\/(m<=x/\x<E))->((i<=y/\y<m)\/(E<=y/\y<b))->le ((d).getD (x).toNat default) ((d).getD (y).toNat default):=by
    rintro x y (Q | Q) (hy | hy)
    · exact T x y Q.1 ah hy.2
    · rcases L with L | L | L
      · omega
      · omega
      · exact((T x (i-1) Q.1 ah ah).trans L).trans (V E y b3 hy.1 hy.2)
    · rcases U with U | U | U
      · omega
      · omega
      · exact((V x (E-1) Q.1 ah ah).trans U).trans (T i y b1 hy.1 hy.2)
    · exact V x y Q.1 ah hy.2
  have axv : ∀ e, Rot d e i m E -> ∀ R : Prop, R = Mrg d e a b -> (a < i /\ i < f ->
              o (a,i,f,e,())=true/\
                (f<E/\E<b->
                    o (f,E,b,(l (a,i,f,e,())).fst,())=true/\
                      Mrg d (l (f,E,b,(l (a,i,f,e,())).fst,())).fst a b)/\
                  ((decide (f<E)&&decide (E<b))=false->
                    Mrg d (l (a,i,f,e,())).fst a b))/\
            ((decide (a<i)&&decide (i<f))=false->
              (f<E/\E<b->
                  o (f,E,b,e,())=true/\Mrg d (l (f,E,b,e,())).fst a b)/\
                ((decide (f<E)&&decide (E<b))=false->R)):=by
    rintro e ⟨r1,s⟩ R rfl;have a8:=r1.1;have X:=r1.sh hs;have lo:∀k,a<=k->k<f->∃x,((a<=x/\x<i)\/(m<=x/\x<E))/\((e).getD (k).toNat default)=((d).getD (x).toNat default):=by
      intro k t I;rw [s k ah];by_cases c1:i<=k/\k<i+(E-m)
      · grind
      · rw [if_neg c1,if_neg ah];exact⟨k,ah,rfl⟩
    have hi:∀k,f<=k->k<b->∃x,((i<=x/\x<m)\/(E<=x/\x<b))/\((e).getD (k).toNat default)=((d).getD (x).toNat default):=by
      intro k t I;rw [s k ah,if_neg ah];by_cases c1:i+(E-m)<=k/\k<E
      all_goals grind
    have S1:pY e a i:=by
      intro p q w u z;rw [s p ah,s q ah,if_neg ah,if_neg ah,if_neg ah,if_neg ah];exact T p q w u ah
    have S2:pY e i f:=by
      intro p q w u z;rw [s p ah,s q ah,if_pos ah,if_pos ah];exact V _ _ ah ah ah
    have S3:pY e f E:=by
      intro p q w u z;rw [s p ah,s q ah,if_neg ah,if_pos ah,if_neg ah,if_pos ah];exact T _ _ ah ah ah
    have S4:pY e E b:=by
      intro p q w u z;rw [s p ah,s q ah,if_neg ah,if_neg ah,if_neg ah,if_neg ah];exact V _ _ ah ah ah
    have fin:∀r e2,Mrg e r a f->Mrg r e2 f b->Mrg d e2 a b:=by
      intro r e2 n v;refine⟨(r1.trans n.sm).trans v.sm,λk t I=> ?_,λk t I=> ?_,λp q w u z=> ?_⟩
      · rw [v.out k t ah,n.out k t ah,s k t,if_neg ah,if_neg ah]
      · by_cases c:k<f
        · rw [v.out k ah ah];obtain⟨j,J,W,M⟩:=n.ins k t c;obtain⟨x,x1,P⟩:=lo j J W;rw [M,P];exact⟨x,ah,ah,rfl⟩
        · obtain⟨j,J,W,M⟩:=v.ins k ah I;rw [M,n.out j ah ah];obtain⟨x,x1,P⟩:=hi j J W;rw [P];exact⟨x,ah,ah,rfl⟩
      · by_cases c:q<f
        · rw [v.out p ah ah,v.out q ah ah];exact n.srt p q w u c
        · by_cases c2:f<=p
          · exact v.srt p q c2 u z
          · rw [v.out p ah ah];obtain⟨j,J,W,M⟩:=n.ins p w ah;obtain⟨x,x1,P⟩:=lo j J W;obtain⟨j',a0,a2,a3⟩:=v.ins q ah z;obtain⟨x',a5,Z⟩:=hi j' a0 a2;rw [M,P,a3,n.out j' ah ah,Z];exact H x x' x1 a5
    have C:∀Y G D,pY Y G D->Mrg Y Y G D:=λY G D h=>⟨Sm.refl _,λ_ _ _=>rfl,λk t I=>⟨k,t,I,rfl⟩,h⟩
    have F : ∀ r, Mrg e r a f -> (f < E /\ E < b ->
                    o (f,E,b,r,())=true/\
                      Mrg d (l (f,E,b,r,())).fst a b)/\
                  ((decide (f<E)&&decide (E<b))=false->
                    Mrg d r a b):=by
      intro r n;have a7:=n.sm.1;have O:∀G D,f<=G->D<=b->pY e G D->pY r G D:=λG D g1 g2 g p q w u z=>by
        rw [n.out p ah ah,n.out q ah ah];exact g p q w u z
      refine⟨λc=> ?_,λc=> ?_⟩
      · have pre:JW f E b r:=⟨n.sm.sh X,ah,c.1,c.2,ah,O _ _ ah ah S3,O _ _ ah ah S4⟩;exact⟨N _ _ _ _ pre ah,fin _ _ n (S _ _ _ _ pre ah)⟩
      · rw [Fv]at c;refine fin _ _ n (C _ _ _ ?_);by_cases c2:f<E
        · have:E=b:=by omega
          subst this;exact O _ _ ah ah S3
        · have:E=f:=by omega
          rw [this]at S4;exact O _ _ ah ah S4
    refine⟨λc=> ?_,λc=> ?_⟩
    · have pre:JW a i f e:=⟨X,ah,c.1,c.2,ah,S1,S2⟩;exact⟨N _ _ _ _ pre ah,F _ (S _ _ _ _ pre ah)⟩
    · rw [Fv]at c;refine F e (C _ _ _ ?_);by_cases c2:a<i
      · have:i=f:=by omega
        rw [<-this];exact S1
      · have:i=a:=by omega
        rw [this]at S2;exact S2
  refine⟨λc=>⟨a4 _ _ _ _ A ah c.1 c.2 ah,axv _ (a1 _ _ _ _ A ah c.1 c.2 ah) _ rfl⟩,λc=>axv d ?_ _ rfl⟩;rw [Fv]at c;refine⟨Sm.refl _,λk t=> ?_⟩
  repeat' split
  all_goals first | rfl | (exfalso;omega) | (congr 2;omega)
theorem aqP{p f}{f2:aAL->eu}{p3:aAL->Bool}{f3:aAL->eu}(U:Y20 p f)(U2:∀(a m b:Int) (d:List au),d.length<1000000000->0<=a->a<m->m<b->b<=d.length->p2 (a,m,b,d,())=true/\Rot d (f2 (a,m,b,d,())).1 a m b)(K:Int)(Z:∀(a m b:Int) (d:List au),JW a m b d->b-a<K->p3 (a,m,b,d,())=true/\Mrg d (f3 (a,m,b,d,())).1 a b)(a m b:Int)(d:List au)(hd:JW a m b d)(hK:b-a<=K):
  JU.F (p,f,p2,f2,p3,f3,()) (a,m,b,d,()) (λy=>Mrg d y.1 a b):=by
 obtain⟨P,h1,h2,h3,h4,F,G⟩:=hd;have a1:=P.1;dsimp only [JU,gm];simp (disch:=omega) only [RR];refine⟨λh5=> ?_,λh5=>⟨λh6=> ?_,λh6=> ?_⟩⟩
 ·
  have hm:m=a+1:=by omega
  subst hm
  refine ay (λ(y:aAL)=>y.1=a/\y.2.2.2.1=d/\a+1<=y.2.1/\y.2.1<=y.2.2.1/\y.2.2.1<=b/\(∀q,a+1<=q->q<y.2.1->fM ((d).getD (q).toNat default).atoms ((d).getD (a).toNat default).atoms<0)/\(∀q,y.2.2.1<=q->q<b->¬fM ((d).getD (q).toNat default).atoms ((d).getD (a).toNat default).atoms<0)) (λy=>(y.2.2.1-y.2.1).toNat)
   ⟨rfl,rfl,by simp,by simp;omega,by simp,λq s w=>by dsimp only at w;omega,λq s w=>by dsimp only at s;omega⟩ ?_
  rintro⟨(D:Int),(i:Int),(j:Int),(B:List au),⟨⟩⟩ hI;dsimp only at hI ⊢;obtain⟨rfl,rfl,s,w,g3,A,z⟩:=hI;simp (disch:=omega) only [RR,half,U _ _ (P.at _)];refine⟨λN=>⟨ah,ah,ah,ah,ah,ah,ah,ah,ah,λh=>⟨⟨ah,ah,ah,λq E C=> ?_,z⟩,ah⟩,λh=>⟨⟨ah,ah,ah,A,λq E C=> ?_⟩,ah⟩⟩,λN=> ?_⟩
  .exact eF (G q ((i+j)/2) E ah ah) h
  .intro T;exact h (eF (G ((i+j)/2) q ah ah C) T)
  have u:i=j:=by omega
  subst u
  refine ay (λ(y:l7)=>y.1=i/\D<=y.2.1/\y.2.1<=i-1/\Sm B y.2.2.1/\(∀k,0<=k->((y.2.2.1).getD (k).toNat default)=if D<=k/\k<y.2.1 then((B).getD (k+1).toNat default)else if k=y.2.1 then((B).getD (D).toNat default)else((B).getD (k).toNat default))) (λy=>(i-y.2.1).toNat)
   ⟨rfl,by simp,by simp;omega,Sm.refl _,λk hk=>by dsimp only;rw [if_neg ah];split;(· congr 2);(· rfl)⟩ ?_
  rintro⟨(J:Int),(k:Int),(e:List au),⟨⟩⟩ hI;dsimp only at hI ⊢;obtain⟨rfl,E,C,k3,v⟩:=hI;have a0:=k3.1;simp (disch:=omega) only [RR,length_set];have e1:(e.set k.toNat ((e).getD (k+1).toNat default)).set (k+1).toNat ((e).getD (k).toNat default)=swp e k (k+1):=rfl;rw [e1];refine⟨λh=>⟨ah,ah,ah,ah,ah,ah,ah,ah,ah,ah,ah,ah,ah,ah,ah,ah,⟨ah,ah,k3.trans (Pw ah ah ah ah),λq H=> ?_⟩,ah⟩,λh=> ?_⟩
  .rw [zm ah ah ah ah H,v _ ah,v _ ah,v _ H]
   repeat' split
   all_goals grind
  .have hk:k=J-1:=by omega
   subst hk;refine⟨k3,λq H R=> ?_,λq H R=> ?_,λq r q1 q2 q3=> ?_⟩
   .rw [v q H,if_neg ah,if_neg ah]
   .rw [v q ah]
    repeat' split
    .exact⟨q+1,ah,ah,rfl⟩
    .exact⟨D,ah,ah,rfl⟩
    .exact⟨q,ah,ah,rfl⟩
   .rw [v q ah,v r ah];by_cases V:D<=q/\q<J-1
    .rw [if_pos V];by_cases L:D<=r/\r<J-1
     .rw [if_pos L];exact G _ _ ah ah ah
     .rw [if_neg L];by_cases M:r=J-1
      .rw [if_pos M];exact le_of_lt (A _ ah ah)
      .rw [if_neg M];exact G _ _ ah ah ah
    .rw [if_neg V,if_neg (by omega:¬(D<=r/\r<J-1))];by_cases M:q=J-1
     .rw [if_pos M];by_cases W:r=J-1
      .rw [if_pos W];exact le_refl _
      .rw [if_neg W];exact vB (z r ah ah)
     .rw [if_neg M,if_neg ah];exact G _ _ ah ah ah
 ·
  have hm:b=m+1:=by omega
  subst hm
  refine ay (λ(y:aAL)=>y.1=m/\y.2.2.2.1=d/\a<=y.2.1/\y.2.1<=y.2.2.1/\y.2.2.1<=m/\(∀q,a<=q->q<y.2.1->¬fM ((d).getD (m).toNat default).atoms ((d).getD (q).toNat default).atoms<0)/\(∀q,y.2.2.1<=q->q<m->fM ((d).getD (m).toNat default).atoms ((d).getD (q).toNat default).atoms<0)) (λy=>(y.2.2.1-y.2.1).toNat)
   ⟨rfl,rfl,by simp,by simp;omega,by simp,λq s w=>by dsimp only at w;omega,λq s w=>by dsimp only at s;omega⟩ ?_
  rintro⟨(o:Int),(i:Int),(j:Int),(B:List au),⟨⟩⟩ hI;dsimp only at hI ⊢;obtain⟨rfl,rfl,s,w,g3,A,z⟩:=hI;simp (disch:=omega) only [RR,half,U _ _ (P.at _)];refine⟨λN=>⟨ah,ah,ah,ah,ah,ah,ah,ah,ah,λh=>⟨⟨ah,ah,ah,λq E C=> ?_,z⟩,ah⟩,λh=>⟨⟨ah,ah,ah,A,λq E C=> ?_⟩,ah⟩⟩,λN=> ?_⟩
  .intro T;have:=F q ((i+j)/2) E ah ah;apply h;have X:=nA T this;exact X
  .exact nA h (F ((i+j)/2) q ah ah C)
  have u:i=j:=by omega
  subst u
  refine ay (λ(y:l7)=>y.1=i/\i<=y.2.1/\y.2.1<=o/\Sm B y.2.2.1/\(∀k,0<=k->((y.2.2.1).getD (k).toNat default)=if y.2.1<k/\k<=o then((B).getD (k-1).toNat default)else if k=y.2.1 then((B).getD (o).toNat default)else((B).getD (k).toNat default))) (λy=>(y.2.1-i).toNat)
   ⟨rfl,by simp;omega,by simp,Sm.refl _,λk hk=>by dsimp only;rw [if_neg ah];split;(· congr 2);(· rfl)⟩ ?_
  rintro⟨(J:Int),(k:Int),(e:List au),⟨⟩⟩ hI;dsimp only at hI ⊢;obtain⟨rfl,E,C,k3,v⟩:=hI;have a0:=k3.1;simp (disch:=omega) only [RR,length_set];have e1:(e.set k.toNat ((e).getD (k-1).toNat default)).set (k-1).toNat ((e).getD (k).toNat default)=swp e k (k-1):=rfl;rw [e1];refine⟨λh=>⟨ah,ah,ah,ah,ah,ah,ah,ah,ah,ah,ah,ah,ah,ah,ah,ah,⟨ah,ah,k3.trans (Pw ah ah ah ah),λq H=> ?_⟩,ah⟩,λh=> ?_⟩
  .rw [zm ah ah ah ah H,v _ ah,v _ ah,v _ H]
   repeat' split
   all_goals first | rfl | (exfalso;omega) | (congr 2;omega)
  .have hk:k=J:=by omega
   subst hk;refine⟨k3,λq H R=> ?_,λq H R=> ?_,λq r q1 q2 q3=> ?_⟩
   .rw [v q H,if_neg ah,if_neg ah]
   .rw [v q ah]
    repeat' split
    .exact⟨q-1,ah,ah,rfl⟩
    .exact⟨o,ah,ah,rfl⟩
    .exact⟨q,ah,ah,rfl⟩
   .rw [v q ah,v r ah];by_cases V:k<q/\q<=o
    .rw [if_pos V,if_pos ah];exact F _ _ ah ah ah
    .rw [if_neg V];by_cases M:q=k
     .rw [if_pos M];by_cases L:k<r/\r<=o
      .rw [if_pos L];exact le_of_lt (z _ ah ah)
      .rw [if_neg L,if_pos ah];exact le_refl _
     .rw [if_neg M];by_cases L:k<r/\r<=o
      .rw [if_pos L];exact F _ _ ah ah ah
      .rw [if_neg L];by_cases W:r=k
       .rw [if_pos W];exact vB (A _ ah ah)
       .rw [if_neg W];exact F _ _ ah ah ah
 ·
  simp (disch:=omega) only [RR,half];refine⟨ah,λX=> ?_,λX=> ?_⟩
  .refine ay (λ(y:Int×Int×Int×Int×Int×aAL)=>y.1=a/\y.2.1=m/\y.2.2.1=b/\y.2.2.2.1=(a+b)/2/\y.2.2.2.2.1=(a+b)/2+m/\y.2.2.2.2.2.2.2.1=(a+b)/2+m-1/\y.2.2.2.2.2.2.2.2.1=d/\(a+b)/2+m-b<=y.2.2.2.2.2.1/\y.2.2.2.2.2.1<=y.2.2.2.2.2.2.1/\y.2.2.2.2.2.2.1<=(a+b)/2
     /\(∀q,(a+b)/2+m-b<=q->q<y.2.2.2.2.2.1->¬fM ((d).getD ((a+b)/2+m-1-q).toNat default).atoms ((d).getD (q).toNat default).atoms<0)/\(∀q,y.2.2.2.2.2.2.1<=q->q< (a+b)/2->fM ((d).getD ((a+b)/2+m-1-q).toNat default).atoms ((d).getD (q).toNat default).atoms<0)) (λy=>(y.2.2.2.2.2.2.1-y.2.2.2.2.2.1).toNat)
    ⟨rfl,rfl,rfl,rfl,rfl,rfl,rfl,by simp,by simp;omega,by simp,λq s w=>by dsimp only at w;omega,λq s w=>by dsimp only at s;omega⟩ ?_
   rintro⟨(D:Int),(o:Int),(Y:Int),(l:Int),(n:Int),(i:Int),(j:Int),(r:Int),(B:List au),⟨⟩⟩ hI;dsimp only at hI ⊢;obtain⟨rfl,rfl,rfl,g,hn,I,rfl,s,w,g3,A,z⟩:=hI;rw [<-g]at s g3 A z X;simp (disch:=omega) only [RR,half,U _ _ (P.at _)];refine⟨λN=>⟨ah,ah,ah,ah,ah,ah,ah,ah,ah,λh=>⟨⟨g,hn,I,ah,ah,ah,λq E C=> ?_,by rw [<-g];exact z⟩,ah⟩,λh=>⟨⟨g,hn,I,ah,ah,ah,by rw [<-g];exact A,λq E C=> ?_⟩,ah⟩⟩,λN=> ?_⟩
   .rw [<-g]at E ⊢;intro T;apply h;rw [I,<-g];exact eF (G _ _ ah ah ah) (nA T (F _ _ ah ah ah))
   .rw [<-g]at C ⊢;rw [I,<-g]at h;exact eF (G _ _ ah ah ah) (nA h (F _ _ ah ah ah))
   .have u:i=j:=by omega
    subst u;refine SH (λz1 z2 z3 z4 t x O Q S=>(U2 z1 z2 z3 z4 t x O Q S).1) (λz1 z2 z3 z4 t x O Q S=>(U2 z1 z2 z3 z4 t x O Q S).2) K (λz1 z2 z3 z4 t x=>(Z z1 z2 z3 z4 t x).1) (λz1 z2 z3 z4 t x=>(Z z1 z2 z3 z4 t x).2) D o Y l i (n-i) B ⟨P,h1,h2,h3,h4,F,G⟩ hK g ah ah ah ah ah ah ah ?_ ?_
    .by_cases c:i=l+o-Y
     .first | exact Or.inl ah | exact Or.inr (Or.inl ah)
     .refine Or.inr (Or.inr ?_);have:=A (i-1) ah ah;rw [show l+o-1- (i-1)=n-i by omega]at this;exact vB this
    .by_cases c:i=l
     .first | exact Or.inl ah | exact Or.inr (Or.inl ah)
     .refine Or.inr (Or.inr ?_);have:=z i ah ah;rw [show l+o-1-i=n-i-1 by omega]at this;exact le_of_lt this
  .refine ay (λ(y:Int×Int×Int×Int×Int×aAL)=>y.1=a/\y.2.1=m/\y.2.2.1=b/\y.2.2.2.1=(a+b)/2/\y.2.2.2.2.1=(a+b)/2+m/\y.2.2.2.2.2.2.2.1=(a+b)/2+m-1/\y.2.2.2.2.2.2.2.2.1=d/\a<=y.2.2.2.2.2.1/\y.2.2.2.2.2.1<=y.2.2.2.2.2.2.1/\y.2.2.2.2.2.2.1<=m
     /\(∀q,a<=q->q<y.2.2.2.2.2.1->¬fM ((d).getD ((a+b)/2+m-1-q).toNat default).atoms ((d).getD (q).toNat default).atoms<0)/\(∀q,y.2.2.2.2.2.2.1<=q->q<m->fM ((d).getD ((a+b)/2+m-1-q).toNat default).atoms ((d).getD (q).toNat default).atoms<0)) (λy=>(y.2.2.2.2.2.2.1-y.2.2.2.2.2.1).toNat)
    ⟨rfl,rfl,rfl,rfl,rfl,rfl,rfl,by simp,by simp;omega,by simp,λq s w=>by dsimp only at w;omega,λq s w=>by dsimp only at s;omega⟩ ?_
   rintro⟨(D:Int),(o:Int),(Y:Int),(l:Int),(n:Int),(i:Int),(j:Int),(r:Int),(B:List au),⟨⟩⟩ hI;dsimp only at hI ⊢;obtain⟨rfl,rfl,rfl,g,hn,I,rfl,s,w,g3,A,z⟩:=hI;rw [<-g]at A z X;simp (disch:=omega) only [RR,half,U _ _ (P.at _)];refine⟨λN=>⟨ah,ah,ah,ah,ah,ah,ah,ah,ah,λh=>⟨⟨g,hn,I,ah,ah,ah,λq E C=> ?_,by rw [<-g];exact z⟩,ah⟩,λh=>⟨⟨g,hn,I,ah,ah,ah,by rw [<-g];exact A,λq E C=> ?_⟩,ah⟩⟩,λN=> ?_⟩
   .rw [<-g];intro T;apply h;rw [I,<-g];exact eF (G _ _ ah ah ah) (nA T (F _ _ ah ah ah))
   .rw [<-g];rw [I,<-g]at h;exact eF (G _ _ ah ah ah) (nA h (F _ _ ah ah ah))
   .have u:i=j:=by omega
    subst u;refine SH (λz1 z2 z3 z4 t x O Q S=>(U2 z1 z2 z3 z4 t x O Q S).1) (λz1 z2 z3 z4 t x O Q S=>(U2 z1 z2 z3 z4 t x O Q S).2) K (λz1 z2 z3 z4 t x=>(Z z1 z2 z3 z4 t x).1) (λz1 z2 z3 z4 t x=>(Z z1 z2 z3 z4 t x).2) D o Y l i (n-i) B ⟨P,h1,h2,h3,h4,F,G⟩ hK g ah ah ah ah ah ah ah ?_ ?_
    .by_cases c:i=D
     .first | exact Or.inl ah | exact Or.inr (Or.inl ah)
     .refine Or.inr (Or.inr ?_);have:=A (i-1) ah ah;rw [show l+o-1- (i-1)=n-i by omega]at this;exact vB this
    .by_cases c:i=o
     .first | exact Or.inl ah | exact Or.inr (Or.inl ah)
     .refine Or.inr (Or.inr ?_);have:=z i ah ah;rw [show l+o-1-i=n-i-1 by omega]at this;exact le_of_lt this
end Go.TX.F
namespace Go.TX.F
open Go Go.AE Go.TX List
variable{d:List au}
def Az{s a x:Int}(h:s ∣ a)(d:a<x)(c:x<a+s):¬s ∣ x:=λb=>by
 have:=Int.le_of_dvd ah (Int.dvd_sub b h);omega
def pY.adj{a b:Int}(h:∀p,a<=p->p+1<b->le ((d).getD (p).toNat default) ((d).getD (p+1).toNat default)):pY d a b:=by
 intro p q f e g;obtain⟨n,hn⟩:∃n:Nat,q=p+n:=⟨(q-p).toNat,ah⟩;subst hn
 clear e
 induction n with
 | zero=>rw [show p+((0:Nat):Int)=p by omega];exact le_refl _
 | succ n c=>
  have:=h (p+n) ah ah;rw [show p+((n+1:Nat):Int)=p+n+1 by omega];exact(c ah).trans this
def pY.at1{a b p:Int}(h:pY d a b)(e:a<=p)(c:p+1<b):le ((d).getD (p).toNat default) ((d).getD (p+1).toNat default):=h p (p+1) e ah c
def Bl(d:List au)(s n:Int):Prop:=∀p,0<=p->p+1<n->¬s ∣ p+1->le ((d).getD (p).toNat default) ((d).getD (p+1).toNat default)
def aqQ{p:l7->Bool}{f:l7->eu}{Q:aAL->Bool}{Y:aAL->eu}(U:∀(a b:Int) (d:List au),Sh d->0<=a->a<=b->b<=d.length->p (a,b,d,())=true/\Sm d (f (a,b,d,())).1/\Out d (f (a,b,d,())).1 a b/\pY (f (a,b,d,())).1 a b)(I:∀(a m b:Int) (d:List au),JW a m b d->Q (a,m,b,d,())=true/\Mrg d (Y (a,m,b,d,())).1 a b)(n:Int)(d:List au)(hd:Sh d)(hn:n=d.length):
  Xt.F (p,f,Q,Y,()) (n,d,()) (λy=>Sm d y.1/\pY y.1 0 n):=by
 have V:=hd.1;dsimp only [Xt,gm];simp (disch:=omega) only [RR]
 refine ay (λ(y:Int×aAL)=>y.1=n/\y.2.1=20/\0<=y.2.2.1/\y.2.2.1<=n/\(20:Int) ∣ y.2.2.1/\y.2.2.2.1=y.2.2.1+20/\Sm d y.2.2.2.2.1/\Bl y.2.2.2.2.1 20 y.2.2.1) (λy=>(n+20-y.2.2.2.1).toNat)
  ⟨rfl,rfl,by simp,by simp;omega,⟨0,by simp⟩,rfl,Sm.refl _,λp r R=>by dsimp only at R;omega⟩ ?_
 rintro⟨(j:Int),(s:Int),(a:Int),(b:Int),(e:List au),⟨⟩⟩ hI;dsimp only at hI ⊢;obtain⟨rfl,rfl,r,R,X,rfl,B,O⟩:=hI;have P:=B.1;have u:=B.sh hd;simp (disch:=omega) only [RR];have T:∀a c (e F:List au),0<=a->(20:Int) ∣ a->c<=a+20->Bl e 20 a->Out e F a c->pY F a c->Bl F 20 c:=by
  intro a c e F c0 G H N J c5 q g i h;by_cases K:q+1<a
  .rw [J q g ah,J (q+1) ah ah];exact N q g K h
  .exact c5.at1 ah i
 refine⟨λh7=> ?_,λh7=> ?_⟩
 .obtain⟨D,w,z⟩:=(U a (a+20) e u r ah ah).2;exact⟨(U a (a+20) e u r ah ah).1,⟨ah,ah,ah,B.trans D,T a (a+20) _ _ r X ah O w z⟩,ah⟩
 obtain⟨D,w,z⟩:=(U a j e u r ah ah).2;refine⟨(U a j e u r ah ah).1,?_⟩;have t4:=T a j _ _ r X ah O w z;generalize (f (a,j,e,())).1=e2 at D w z t4 ⊢;have u1:=B.trans D
 clear D w z B O
 refine ay (λ(y:l7)=>y.1=j/\0<y.2.1/\(y.2.1<=20\/y.2.1<=2*j)/\Sm d y.2.2.1/\Bl y.2.2.1 y.2.1 j) (λy=>(j-y.2.1).toNat)
  ⟨rfl,by simp,Or.inl (by simp),u1,t4⟩ ?_
 rintro⟨(n:Int),(s:Int),(e3:List au),⟨⟩⟩ hI;dsimp only at hI ⊢;obtain⟨rfl,g1,g2,g3,W⟩:=hI;simp (disch:=omega) only [RR];refine⟨λg5=> ?_,λg5=>⟨g3,pY.adj λq g i=>W q g i (Az (a:=0) ⟨0,by simp⟩ ah ah)⟩⟩
 refine ay (λ(y:Int×aAL)=>y.1=n/\y.2.1=s/\0<=y.2.2.1/\y.2.2.1<=n/\(2*s) ∣ y.2.2.1/\y.2.2.2.1=y.2.2.1+2*s/\Sm d y.2.2.2.2.1
   /\∀p,0<=p->p+1<n->¬(2*s) ∣ p+1->(p+1<y.2.2.1\/¬s ∣ p+1)->le ((y.2.2.2.2.1).getD (p).toNat default) ((y.2.2.2.2.1).getD (p+1).toNat default)) (λy=>(n+2*s-y.2.2.2.1).toNat)
  ⟨rfl,rfl,by simp,by simp;omega,⟨0,by simp⟩,by simp,g3,λq g i h o=>W q g i (by dsimp only at o;rcases o with o | o;(· omega);(· exact o))⟩ ?_
 rintro⟨(j:Int),(l:Int),(a:Int),(b:Int),(Z:List au),⟨⟩⟩ hI;dsimp only at hI ⊢;obtain⟨rfl,rfl,K,k2,k3,rfl,C,t⟩:=hI;have P:=C.1;have u:=C.sh hd;have L:l ∣ a:=Int.dvd_trans ⟨2,ah⟩ k3;simp (disch:=omega) only [RR];have A:∀x,x<=j->a+l<x->x<=a+2*l->JW a (a+l) x Z:=λx x1 v x3=>
  ⟨u,K,ah,v,ah,pY.adj λq g i=>by
   refine t q ah ah (Az k3 ah ah) (Or.inr (Az L ah ah)),
   pY.adj λq g i=>by
   refine t q ah ah (Az k3 ah ah) (Or.inr (Az (Int.dvd_add L (Int.dvd_refl l)) ah ah))⟩
 have stp:∀x E,x<=j->(x=a+2*l\/x=j)->x<=a+2*l->Mrg Z E a x->∀p,0<=p->p+1<j->¬(2*l) ∣ p+1->(p+1<x\/¬l ∣ p+1)->le ((E).getD (p).toNat default) ((E).getD (p+1).toNat default):=by
  intro x E x1 v x3 k q g i h o;by_cases G:q+1<a
  .rw [k.out q g ah,k.out (q+1) ah ah];exact t q g i h (Or.inl G)
  .by_cases H:q+1=a
   .rw [H]at h;exact absurd k3 h
   .by_cases N:q+1<x
    .exact k.srt.at1 ah N
    .by_cases J:q+1=x
     .exfalso;rcases v with v | v
      .rw [J,v]at h;exact h (Int.dvd_add k3 (Int.dvd_refl _))
      .omega
     .rw [k.out q g ah,k.out (q+1) ah ah];refine t q g i h (Or.inr ?_);rcases o with o | o
      .omega
      .exact o
 refine⟨λM=> ?_,λM=>⟨λS=> ?_,λS=> ?_⟩⟩
 .have pre:=A (a+2*l) M ah ah;have k:=(I _ _ _ _ pre).2;exact⟨(I _ _ _ _ pre).1,⟨ah,ah,Int.dvd_add k3 (Int.dvd_refl _),C.trans k.sm,stp _ _ M (Or.inl rfl) ah k⟩,ah⟩
 .have pre:=A j ah S ah;have k:=(I _ _ _ _ pre).2;refine⟨(I _ _ _ _ pre).1,⟨ah,Or.inr ah,C.trans k.sm,λq g i h=> ?_⟩,ah⟩;exact stp _ _ ah (Or.inr rfl) ah k q g i (by rw [Int.mul_comm];exact h) (Or.inl i)
 .refine⟨⟨ah,Or.inr ah,C,λq g i h=> ?_⟩,ah⟩;rw [Int.mul_comm]at h;by_cases G:q+1<a
  .exact t q g i h (Or.inl G)
  .by_cases H:q+1=a
   .rw [H]at h;exact absurd k3 h
   .exact t q g i h (Or.inr (Az L ah ah))
def aqR{p:Int×eu->Bool}{f:Int×eu->eu}(U:∀(n:Int) (d:List au),Sh d->n=d.length->p (n,d,())=true/\Sm d (f (n,d,())).1/\pY (f (n,d,())).1 0 n)(d:List au)(hd:Sh d):
  Xu.F (p,f,()) (d,()) (λy=>Sm d y.1/\pY y.1 0 d.length):=by
 have:=(U _ d hd rfl).2;dsimp only [Xu,gm];exact⟨(U _ d hd rfl).1,this⟩
end Go.TX.F
namespace Go.TX.F
open Go Go.AE Go.TX List
def cf(l:List au)(k:List Int):Int:=(l.map λm=>if m.atoms=k then m.bN else 0).sum
theorem jy(k:List Int):cf [] k=0:=rfl
def cu(m:au)(l:List au)(k:List Int):cf (m::l) k=(if m.atoms=k then m.bN else 0)+cf l k:=by simp [cf]
def cB(a b:List au)(k:List Int):cf (a++b) k=cf a k+cf b k:=by simp [cf]
def jX{k:List Int}:∀ {l:List au},(∀m∈l,m.atoms≠k)->cf l k=0
 | [],_=>rfl
 | m::l,h=>by rw [cu,if_neg (h m (by simp)),jX (λm hm=>h m (by simp [hm]))];rfl
def Sm.cf{a b:List au}(h:Sm a b)(k:List Int):cf b k=cf a k:=h.sum _
def lt(a b:au):Prop:=fM a.atoms b.atoms<0
def lt.ne{a b:au}(h:lt a b):a.atoms≠b.atoms:=λe=>by unfold lt at h;rw [e,nu.2 rfl]at h;omega
structure Nf(o:List au):Prop where
 ss:o.Pairwise lt
 co:∀m∈o,1<=m.bN/\m.bN<=65535
def acE:∀ {i g:List au},Nf i->Nf g->(∀k,cf i k=cf g k)->i=g
 | [],[],_,_,_=>rfl
 | [],m::o,_,h2,h=>by
  have:=h m.atoms;rw [cu,if_pos rfl,jX (λl d=>((rel_of_pairwise_cons h2.ss d).ne).symm),jy]at this;have:=(h2.co m (by simp));omega
 | m::o,[],h1,_,h=>by
  have:=h m.atoms;rw [cu,if_pos rfl,jX (λl d=>((rel_of_pairwise_cons h1.ss d).ne).symm),jy]at this;have:=(h1.co m (by simp));omega
 | m1::i,m2::g,h1,h2,h=>by
  have r:=h1.co m1 (by simp);have s:=h2.co m2 (by simp);have z1:cf i m1.atoms=0:=jX λl d=>((rel_of_pairwise_cons h1.ss d).ne).symm
  have z2:cf g m2.atoms=0:=jX λl d=>((rel_of_pairwise_cons h2.ss d).ne).symm
  have n:∀ {a b c:au},lt a b->lt b c->lt a c:=λj f=>eF (le_of_lt j) f
  have e:m1.atoms=m2.atoms:=by
   by_cases j:lt m1 m2
   .have:=h m1.atoms;rw [cu,if_pos rfl,z1,cu,if_neg (λe=>j.ne e.symm),jX (λl d=>((n j (rel_of_pairwise_cons h2.ss d)).ne).symm)]at this;omega
   .by_cases f:lt m2 m1
    .have:=h m2.atoms;rw [cu,if_neg (λe=>f.ne e.symm),jX (λl d=>((n f (rel_of_pairwise_cons h1.ss d)).ne).symm),cu,if_pos rfl,z2]at this;omega
    .unfold lt at j f;rw [vw]at f;exact nu.1 ah
  have q:m1.bN=m2.bN:=by
   have:=h m1.atoms;rw [cu,if_pos rfl,z1,cu,if_pos e.symm,e,z2]at this;omega
  have p:m1=m2:=by cases m1;cases m2;simp_all
  subst p;refine congrArg _ (acE ⟨h1.ss.tail,λm hm=>h1.co m (by simp [hm])⟩ ⟨h2.ss.tail,λm hm=>h2.co m (by simp [hm])⟩ (λk=>by
   have:=h k;rw [cu,cu]at this;omega))
noncomputable def nf (l:List au):List au:= @dite _ (∃o,Nf o/\∀k,cf o k=cf l k%65536) (Classical.propDecidable _) (λh=>Classical.choose h) (λ_=> [])
def acF{l o:List au}(h:Nf o)(b:∀k,cf o k=cf l k%65536):nf l=o:=by
 have a:∃o,Nf o/\∀k,cf o k=cf l k%65536:=⟨o,h,b⟩;unfold nf;rw [dif_pos a];have:=Classical.choose_spec a;exact acE this.1 h (λk=>(this.2 k).trans (b k).symm)
noncomputable def wB (l:List au):Bool×List au:=(bp (aX (nf l)),if bp (aX (nf l))then nf l else [])
def Cb(l:List au):Prop:=∀m∈l,0<=m.bN/\m.bN<=65535
def aqS{p1 f1 p2 f2 p3 f3 p4 f4}{G:eu->Bool}{s:eu->eu}(X:Y7 p1 f1)(T:Y11 p2 f2)(S:Y10 p3 f3)(V:Y12 p4 f4)(I:∀d,Sh d->G (d,())=true/\Sm d (s (d,())).1/\pY (s (d,())).1 0 d.length)(l:List au)(C:Sh l)(hc:Cb l):Xv.F (p1,f1,p2,f2,p3,f3,p4,f4,G,s,()) (l,()) (λy=>y.1=(wB l).1/\y.2.2.1=(wB l).2):=by
 obtain⟨q,H⟩:=(I l C).2;dsimp only [Xv,gm];simp (disch:=omega) only [RR,(I l C).1];generalize (s (l,())).1=d at q H ⊢;have Y:=q.1;have u:=q.sh C;have J:=u.1;have F:Cb d:=λm hm=>hc m (q.mem hm)
 refine ay (λ(y:aBf)=>0<=y.1/\y.1<=d.length/\y.2.1=d/\Nf y.2.2.1/\y.2.2.1.length<=y.1/\(∀k,cf y.2.2.1 k=cf (d.take y.1.toNat) k%65536)/\(∀m∈y.2.2.1,m∈y.2.2.1->m.atoms.length<1000000000)
   /\(y.1<d.length->(∀m∈y.2.2.1,lt m ((d).getD (y.1).toNat default))/\(∀m∈d.take y.1.toNat,lt m ((d).getD (y.1).toNat default)))) (λy=>(d.length-y.1).toNat)
  ⟨by simp,by simp,rfl,⟨Pairwise.nil,λm hm=>absurd hm (by simp)⟩,by simp,λk=>by simp [cf],λm hm=>absurd hm (by simp),λ_=>⟨λm hm=>absurd hm (by simp),λm hm=>absurd hm (by simp)⟩⟩ ?_
 rintro⟨(i:Int),(g:List au),(o:List au),⟨⟩⟩ hI;dsimp only at hI ⊢;obtain⟨P,Z,rfl,r,h5,D,B,R⟩:=hI;have Q:Sh o:=⟨ah,λm hm=>B m hm hm⟩;simp (disch:=omega) only [RR,T o Q];refine⟨λL=>⟨ah,ah,ah,ah,?_⟩,λL=> ?_⟩
 .obtain⟨g1,g2⟩:=R L;have z:cf (g.take i.toNat) ((g).getD (i).toNat default).atoms=0:=jX λm hm=>(g2 m hm).ne
  refine ay (λ(y:Int×Int×List au×au×eu)=>i<=y.1/\y.1<=g.length/\y.2.2.1=g/\y.2.2.2.1=((g).getD (i).toNat default)/\y.2.2.2.2.1=o/\y.2.1=cf (g.take y.1.toNat) ((g).getD (i).toNat default).atoms%65536
    /\(∀k,k≠((g).getD (i).toNat default).atoms->cf (g.take y.1.toNat) k=cf (g.take i.toNat) k)/\(∀m∈g.take y.1.toNat,lt m ((g).getD (i).toNat default)\/m.atoms=((g).getD (i).toNat default).atoms)) (λy=>(g.length-y.1).toNat)
   ⟨by simp,by simp;omega,rfl,rfl,rfl,by rw [z];rfl,λk _=>rfl,λm hm=>Or.inl (g2 m hm)⟩ ?_
  rintro⟨(j:Int),(c:Int),(f:List au),(fi:au),(U:List au),⟨⟩⟩ hI;dsimp only at hI ⊢;obtain⟨M,k2,rfl,rfl,rfl,K,x,w⟩:=hI;have N:0<=c/\c<65536:=by omega
  have A:j<f.length->0<=((f).getD (j).toNat default).bN/\((f).getD (j).toNat default).bN<=65535:=λh=>F _ (bV ah h)
  simp (disch:=omega) only [RR,X _ _ (u.at _),S,V _ (Nat.le_trans (Nat.le_of_lt (u.at _)) ah)];refine⟨ah,ah,ah,ah,λ⟨t,v⟩=> ?_,λt=>⟨λv=>⟨?_,?_,?_⟩,λv=>⟨?_,?_⟩⟩⟩
  .have e:=nu.1 v;have:=A t;rw [w64 ah ah];have E:f.take (j+1).toNat=f.take j.toNat++ [((f).getD (j).toNat default)]:=(bg ah t rfl).symm;refine⟨ah,ah,ah,ah,⟨ah,ah,?_,λk hk=> ?_,λm hm=> ?_⟩,ah⟩
   .rw [E,cB,cu,if_pos e.symm,jy,K];omega
   .rw [E,cB,cu,if_neg (λh=>hk (by rw [e,h])),jy,x k hk];omega
   .rw [E,mem_append,mem_singleton]at hm;rcases hm with hm | hm
    .exact w m hm
    .right;rw [hm,e]
  all_goals
   have p:j<f.length->lt ((f).getD (i).toNat default) ((f).getD (j).toNat default):=λn=>by
    rw [decide_eq_true n,Bool.true_and,decide_eq_false_iff_not]at t;have:=H i j P M ah;unfold le at this;unfold lt;omega
   have O:i<j:=by
    by_cases n:j<f.length
    .by_cases e:i=j
     .have:=(p n).ne;rw [e]at this;exact absurd rfl this
     .omega
    .omega
  .simp only [length_append,length_cons,length_nil];omega
  .have co:∀k,cf (U++ [⟨c,((f).getD (i).toNat default).atoms⟩]) k=cf (f.take j.toNat) k%65536:=λk=>by
    rw [cB,cu,jy];dsimp only;by_cases hk:((f).getD (i).toNat default).atoms=k
    .subst hk;rw [if_pos rfl,jX (λm hm=>(g1 m hm).ne),K];omega
    .rw [if_neg hk,x k (λe=>hk e.symm),D k];omega
   refine⟨ah,ah,⟨?_,?_⟩,?_,co,?_,λn=>⟨?_,?_⟩⟩
   .rw [pairwise_append];exact⟨r.ss,pairwise_singleton _ _,λa W b p=>by rw [mem_singleton]at p;subst p;exact g1 a W⟩
   .intro m hm;rw [mem_append,mem_singleton]at hm;rcases hm with hm | rfl
    .exact r.co m hm
    .dsimp only;omega
   .simp only [length_append,length_cons,length_nil];omega
   .intro m hm _;rw [mem_append,mem_singleton]at hm;rcases hm with hm | rfl
    .exact B m hm hm
    .exact u.at _
   .intro m hm;rw [mem_append,mem_singleton]at hm;rcases hm with hm | rfl
    .exact eF (le_of_lt (g1 m hm)) (p n)
    .exact p n
   .intro m hm;rcases w m hm with k | k
    .exact eF (le_of_lt k) (p n)
    .have:=p n;unfold lt at this ⊢;rw [k];exact this
  .omega
  .refine⟨ah,ah,r,ah,λk=> ?_,B,λn=>⟨?_,?_⟩⟩
   .by_cases hk:((f).getD (i).toNat default).atoms=k
    .subst hk;rw [jX (λm hm=>(g1 m hm).ne)];omega
    .rw [x k (λe=>hk e.symm),D k]
   .intro m hm;exact eF (le_of_lt (g1 m hm)) (p n)
   .intro m hm;rcases w m hm with k | k
    .exact eF (le_of_lt k) (p n)
    .have:=p n;unfold lt at this ⊢;rw [k];exact this
  .omega
 .have e:nf l=o:=acF r (λk=>by rw [D k,take_of_length_le ah,q.cf k]);unfold wB;rw [e];refine⟨λh=> ?_,λh=> ?_⟩
  .rw [h];exact⟨rfl,by simp⟩
  .rw [h];exact⟨rfl,by simp⟩
variable{p:dY->Bool}
def aqT(n:Int)(b:0<=n)(a:n<=1073741824):Xw.F () (n,()) (λy=>y=([],())):=by
 dsimp only [Xw,gm];simp (disch:=omega) only [RR];refine⟨λh=>by omega,λ_ h=> ?_⟩
 repeat' (refine And.intro ?_ ?_)
 all_goals first | omega | (rw [length_replicate];omega) | rfl
theorem aqU{f:dY->eu}(U:∀n:Int,0<=n->n<=1073741824->p (n,())=true/\f (n,())=([],()))(a b:List au)(r:a.length<=100000000)(q:b.length<=100000000):Xx.F (p,f,()) ([a,b],()) (λy=>y=(a++b,())):=by
 dsimp only [Xx,gm]
 refine ay (λ(y:List (List au)×Int×List (List au)×ni)=>y.1=[a,b]/\y.2.2.1=[a,b]/\y.2.2.2.1=2/\((y.2.2.2.2.1=0/\y.2.1=0)\/(y.2.2.2.2.1=1/\y.2.1=a.length)\/(y.2.2.2.2.1=2/\y.2.1=a.length+b.length))) (λy=>(2-y.2.2.2.2.1).toNat)
  ⟨rfl,rfl,rfl,Or.inl ⟨rfl,rfl⟩⟩ ?_
 rintro⟨(l:List (List au)),(s:Int),(t:List (List au)),(n:Int),(i:Int),⟨⟩⟩ hI;dsimp only at hI ⊢;obtain⟨rfl,rfl,rfl,h⟩:=hI;simp (disch:=omega) only [RR];have c: [a,b].getD (Int.toNat 0) default=a:=rfl;have d: [a,b].getD (Int.toNat 1) default=b:=rfl;have m:([a,b].length:Int)=2:=rfl;refine⟨λg=> ?_,λg=> ?_⟩
 .rcases h with⟨rfl,rfl⟩ | ⟨rfl,rfl⟩ | ⟨rfl,rfl⟩
  .rw [c,w64 ah ah];exact⟨ah,ah,λh=>by omega,λh=>⟨Or.inr (Or.inl ⟨ah,ah⟩),ah⟩⟩
  .rw [d,w64 ah ah];exact⟨ah,ah,λh=>by omega,λh=>⟨Or.inr (Or.inr ⟨ah,ah⟩),ah⟩⟩
  .omega
 .have hs:0<=s/\s<=200000000:=by omega
  refine⟨(U s ah ah).1,?_⟩;rw [(U s ah ah).2]
  refine ay (λ(y:List (List au)×l7)=>y.1=[a,b]/\y.2.1=2/\((y.2.2.1=0/\y.2.2.2.1=[])\/(y.2.2.1=1/\y.2.2.2.1=a)\/(y.2.2.1=2/\y.2.2.2.1=a++b))) (λy=>(2-y.2.2.1).toNat)
   ⟨rfl,rfl,Or.inl ⟨rfl,rfl⟩⟩ ?_
  rintro⟨(l:List (List au)),(n:Int),(j:Int),(o:List au),⟨⟩⟩ hI;dsimp only at hI ⊢;obtain⟨rfl,rfl,e⟩:=hI;simp (disch:=omega) only [RR];refine⟨λk=> ?_,λk=> ?_⟩
  .rcases e with⟨rfl,rfl⟩ | ⟨rfl,rfl⟩ | ⟨rfl,rfl⟩
   .rw [c];exact⟨ah,ah,by simp only [length_nil];omega,Or.inr (Or.inl ⟨ah,rfl⟩),ah⟩
   .rw [d];exact⟨ah,ah,ah,Or.inr (Or.inr ⟨ah,rfl⟩),ah⟩
   .omega
  .rcases e with⟨rfl,rfl⟩ | ⟨rfl,rfl⟩ | ⟨rfl,rfl⟩
   .omega
   .omega
   .rfl
def aqV(n:Int)(b:0<=n)(a:n<=1073741824):Xy.F () (n,()) (λy=>y=([],())):=by
 dsimp only [Xy,gm];simp (disch:=omega) only [RR];refine⟨λh=>by omega,λ_ h=> ?_⟩
 repeat' (refine And.intro ?_ ?_)
 all_goals first | omega | (rw [length_replicate];omega) | rfl
theorem aqW{f:dY->bn}(U:∀n:Int,0<=n->n<=1073741824->p (n,())=true/\f (n,())=([],()))(a b:List Int)(r:a.length<=100000000)(q:b.length<=100000000):Xz.F (p,f,()) ([a,b],()) (λy=>y=(a++b,())):=by
 dsimp only [Xz,gm]
 refine ay (λ(y:List (List Int)×Int×List (List Int)×ni)=>y.1=[a,b]/\y.2.2.1=[a,b]/\y.2.2.2.1=2/\((y.2.2.2.2.1=0/\y.2.1=0)\/(y.2.2.2.2.1=1/\y.2.1=a.length)\/(y.2.2.2.2.1=2/\y.2.1=a.length+b.length))) (λy=>(2-y.2.2.2.2.1).toNat)
  ⟨rfl,rfl,rfl,Or.inl ⟨rfl,rfl⟩⟩ ?_
 rintro⟨(l:List (List Int)),(s:Int),(t:List (List Int)),(n:Int),(i:Int),⟨⟩⟩ hI;dsimp only at hI ⊢;obtain⟨rfl,rfl,rfl,h⟩:=hI;simp (disch:=omega) only [RR];have c: [a,b].getD (Int.toNat 0) default=a:=rfl;have d: [a,b].getD (Int.toNat 1) default=b:=rfl;have m:([a,b].length:Int)=2:=rfl;refine⟨λg=> ?_,λg=> ?_⟩
 .rcases h with⟨rfl,rfl⟩ | ⟨rfl,rfl⟩ | ⟨rfl,rfl⟩
  .rw [c,w64 ah ah];exact⟨ah,ah,λh=>by omega,λh=>⟨Or.inr (Or.inl ⟨ah,ah⟩),ah⟩⟩
  .rw [d,w64 ah ah];exact⟨ah,ah,λh=>by omega,λh=>⟨Or.inr (Or.inr ⟨ah,ah⟩),ah⟩⟩
  .omega
 .have hs:0<=s/\s<=200000000:=by omega
  refine⟨(U s ah ah).1,?_⟩;rw [(U s ah ah).2]
  refine ay (λ(y:List (List Int)×P9)=>y.1=[a,b]/\y.2.1=2/\((y.2.2.1=0/\y.2.2.2.1=[])\/(y.2.2.1=1/\y.2.2.2.1=a)\/(y.2.2.1=2/\y.2.2.2.1=a++b))) (λy=>(2-y.2.2.1).toNat)
   ⟨rfl,rfl,Or.inl ⟨rfl,rfl⟩⟩ ?_
  rintro⟨(l:List (List Int)),(n:Int),(j:Int),(o:List Int),⟨⟩⟩ hI;dsimp only at hI ⊢;obtain⟨rfl,rfl,e⟩:=hI;simp (disch:=omega) only [RR];refine⟨λk=> ?_,λk=> ?_⟩
  .rcases e with⟨rfl,rfl⟩ | ⟨rfl,rfl⟩ | ⟨rfl,rfl⟩
   .rw [c];exact⟨ah,ah,by simp only [length_nil];omega,Or.inr (Or.inl ⟨ah,rfl⟩),ah⟩
   .rw [d];exact⟨ah,ah,ah,Or.inr (Or.inr ⟨ah,rfl⟩),ah⟩
   .omega
  .rcases e with⟨rfl,rfl⟩ | ⟨rfl,rfl⟩ | ⟨rfl,rfl⟩
   .omega
   .omega
   .rfl
def mOk.le{m:au}(h:mOk m):m.atoms.length<=4:=h.2.1
def aX.at{p:List au}(h:aX p){m:au}(hm:m∈p):mOk m:=by
 obtain⟨i,a,rfl⟩:=getElem_of_mem hm;have:=(h.1 i ah ah).1;rw [show(i:Int).toNat=i from rfl,getD_lt a]at this;exact this
def aX.len{p:List au}(h:aX p):p.length<=12:=h.2.1
noncomputable def rC (a b:List au):Bool×List au:=if bp (aX a)&&bp (aX b)then wB (a++b)else(false,[])
abbrev Y21(c:eu->Bool)(b:eu->Bool×ql):Prop:=∀a,Sh a->Cb a->c (a,())=true/\(b (a,())).1=(wB a).1/\(b (a,())).2.2.1=(wB a).2
def axw{p1 f1 p2 f2}{g:lX->Bool}{o:lX->eu}(n:Y11 p1 f1)(k:Y21 p2 f2)(j:∀a b:List au,a.length<=100000000->b.length<=100000000->g ([a,b],())=true/\o ([a,b],())=(a++b,()))(a b:List au)(p:Sh a)(i:Sh b):ahF.F (p1,f1,p2,f2,g,o,()) (a,b,()) (λy=>y=((rC a b).1,(rC a b).2,())):=by
 dsimp only [ahF,gm];simp (disch:=omega) only [RR,n a p,n b i,aF,gI];unfold rC;refine⟨λh=> ?_,λ⟨e,c⟩=> ?_⟩
 .rw [if_neg];rw [Bool.and_eq_true,aF,aF];rintro⟨f,d⟩;rcases h with h | h
  .exact h f
  .exact h d
 .have l1:=e.len;have q:=c.len;rw [(j a b ah ah).1,(j a b ah ah).2];have l:Sh (a++b):=⟨by rw [length_append];omega,λm hm=>by
   rw [mem_append]at hm;rcases hm with hm | hm
   .exact p.2 m hm
   .exact i.2 m hm⟩
  have hc:Cb (a++b):=λm hm=>by
   rw [mem_append]at hm;rcases hm with hm | hm
   .have:=(e.at hm).1;omega
   .have:=(c.at hm).1;omega
  obtain⟨f,d⟩:=(k _ l hc).2;refine⟨rfl,(k _ l hc).1,?_⟩;rw [if_pos (by rw [aI e,aI c];rfl),f,d]
def oI(l:List Int):List Int:=l.mergeSort λx y=>decide (x<=y)
def NI(l:List Int):(oI l).length=l.length:=length_mergeSort l
def mulM(m n:au):au:=⟨m.bN*n.bN%65536,oI (m.atoms++n.atoms)⟩
def prods(a b:List au):List au:=a.flatMap λm=>b.map (mulM m)
def JX(a b:List au)(m:au):prods (a++ [m]) b=prods a b++b.map (mulM m):=by simp [prods]
noncomputable def sJ (a b:List au):Bool×List au:=if bp (aX a)&&bp (aX b)then wB (prods a b)else(false,[])
def HV{a b:Int}(f:0<=a)(d:a<=65535)(c:0<=b)(e:b<=65535):0<=a*b/\a*b<=65535*65535:=⟨Int.mul_nonneg f c,Int.mul_le_mul d e c ah⟩
def axx{p1 f1 p0 f0 p2 f2}{x:List (List Int)×Unit->Bool}{F:List (List Int)×Unit->bn}{z:bn->Bool}{E:bn->bn}(G:Y11 p1 f1)(S:Y10 p0 f0)(C:Y21 p2 f2)(M:∀a b:List Int,a.length<=100000000->b.length<=100000000->x ([a,b],())=true/\F ([a,b],())=(a++b,()))(R:∀a:List Int,a.length<=8->z (a,())=true/\E (a,())=(oI a,()))(a b:List au)(T:Sh a)(L:Sh b):ahG.F (p1,f1,p0,f0,p2,f2,x,F,z,E,()) (a,b,()) (λy=>y=((sJ a b).1,(sJ a b).2,())):=by
 dsimp only [ahG,gm];simp (disch:=omega) only [RR,G a T,G b L,aF,gI];unfold sJ;refine⟨λh=> ?_,λ⟨r,l⟩=> ?_⟩
 .rw [if_neg];rw [Bool.and_eq_true,aF,aF];rintro⟨s,p⟩;rcases h with h | h
  .exact h s
  .exact h p
 have l1:=r.len;have l2:=l.len;rw [if_pos (by rw [aI r,aI l];rfl)];have P:∀i j:Int,0<=i->i<a.length->0<=j->j<b.length->mOk ((a).getD (i).toNat default)/\mOk ((b).getD (j).toNat default):=λi j Q K J U=>⟨r.at (bV Q K),l.at (bV J U)⟩
 refine ay (λ(y:List au×Int×aBf)=>y.1=a/\y.2.1=a.length/\0<=y.2.2.1/\y.2.2.1<=a.length/\y.2.2.2.1=b/\y.2.2.2.2.1=prods (a.take y.2.2.1.toNat) b/\y.2.2.2.2.1.length<=12*y.2.2.1/\Sh y.2.2.2.2.1/\Cb y.2.2.2.2.1) (λy=>(a.length-y.2.2.1).toNat)
  ⟨rfl,rfl,by simp,by simp,rfl,rfl,by simp,⟨by simp,λm hm=>absurd hm (by simp)⟩,λm hm=>absurd hm (by simp)⟩ ?_
 rintro⟨(k:List au),(n:Int),(i:Int),(e:List au),(o:List au),⟨⟩⟩ hI;dsimp only at hI ⊢;obtain⟨rfl,rfl,D,W,rfl,A,Y,q,t⟩:=hI;simp (disch:=omega) only [RR];refine⟨λu=>⟨ah,ah,?_⟩,λu=> ?_⟩
 .refine ay (λ(y:List au×Int×Int×List au×Int×Int×List au×List au×aBj)=>y.1=k/\y.2.1=k.length/\y.2.2.1=i/\y.2.2.2.1=e/\y.2.2.2.2.1=e.length/\0<=y.2.2.2.2.2.1/\y.2.2.2.2.2.1<=e.length/\y.2.2.2.2.2.2.1=e/\y.2.2.2.2.2.2.2.2.1=((k).getD (i).toNat default)
    /\y.2.2.2.2.2.2.2.1=o++(e.take y.2.2.2.2.2.1.toNat).map (mulM ((k).getD (i).toNat default))/\Sh y.2.2.2.2.2.2.2.1/\Cb y.2.2.2.2.2.2.2.1) (λy=>(e.length-y.2.2.2.2.2.1).toNat)
   ⟨rfl,rfl,rfl,rfl,rfl,by simp,by simp,rfl,rfl,by simp,q,t⟩ ?_
  rintro⟨(c:List au),(n:Int),(g:Int),(I:List au),(V:Int),(j:Int),(f:List au),(O:List au),(m:au),⟨⟩⟩ hI;dsimp only at hI ⊢;obtain⟨rfl,rfl,rfl,rfl,rfl,w,Z,rfl,rfl,k3,H,B⟩:=hI;have lo:(O.length:Int)<=12*g+j:=by
   rw [k3,length_append,length_map];have:=length_take_le j.toNat f;omega
  by_cases v:j<f.length
  .obtain⟨m1,m2⟩:=P g j D u w v;have e1:=m1.le;have X:=m2.le;have N:(((c).getD (g).toNat default).atoms++((f).getD (j).toNat default).atoms).length<=8:=by rw [length_append];omega
   have hm:=HV (show 0<=((c).getD (g).toNat default).bN by have:=m1.1;omega) (by have:=m1.1;omega) (show 0<=((f).getD (j).toNat default).bN by have:=m2.1;omega) (by have:=m2.1;omega);simp (disch:=omega) only [RR,M ((c).getD (g).toNat default).atoms ((f).getD (j).toNat default).atoms ah ah,R _ N,S];refine⟨λ_=>⟨ah,ah,by simp only [length_cons,length_nil];omega,⟨ah,ah,?_,⟨?_,?_⟩,?_⟩,ah⟩,λh=>by omega⟩
   .rw [<-bg (d:=default) w v rfl,map_append,k3,append_assoc];rfl
   .rw [length_append];simp only [length_cons,length_nil];omega
   .intro m hm;rw [mem_append,mem_singleton]at hm;rcases hm with hm | rfl
    .exact H.2 m hm
    .dsimp only;rw [NI];omega
   .intro m hm;rw [mem_append,mem_singleton]at hm;rcases hm with hm | rfl
    .exact B m hm
    .dsimp only;omega
  .simp (disch:=omega) only [RR];refine⟨λh=>absurd h v,λ_=>⟨⟨ah,ah,?_,ah,H,B⟩,ah⟩⟩;rw [<-bg (d:=default) D u rfl,JX,<-A,k3,take_of_length_le ah]
 .obtain⟨s,p⟩:=(C _ q t).2;refine⟨(C _ q t).1,?_⟩;rw [s,p,A,take_of_length_le ah]
noncomputable def lH (a:List au) (n:Int):List au:=if bp (aX a)&&inB n 0 65535 then(sJ a (aY n)).2 else []
def aea(n:Int):Sh (aY n):=by
 unfold aY;split
 .exact⟨by simp,λm hm=>by rw [mem_singleton]at hm;subst hm;simp⟩
 .exact⟨by simp,λm hm=>absurd hm (by simp)⟩
abbrev Y22(b:dY->Bool)(a:dY->eu):Prop:=∀n,b (n,())=true/\a (n,())=(aY n,())
abbrev Y23(d:ql->Bool)(c:ql->Bool×eu):Prop:=∀a b,Sh a->Sh b->d (a,b,())=true/\c (a,b,())=((sJ a b).1,(sJ a b).2,())
def axy{p1 f1 p2 f2 p3 f3 p4 f4}(g:Y11 p1 f1)(j:Y22 p2 f2)(f:Y9 p3 f3)(d:Y23 p4 f4)(a:List au)(n:Int)(b:Sh a):ahH.F (p1,f1,p2,f2,p3,f3,p4,f4,()) (a,n,()) (λy=>y=(lH a n,())):=by
 dsimp only [ahH,gm];simp (disch:=omega) only [RR,g a b,j,f,d a _ b (aea n)];unfold lH;refine⟨λh=> ?_,λ⟨k,i⟩=> ?_⟩
 .rw [if_neg];rw [Bool.and_eq_true];rintro⟨e,c⟩;rcases h with h | h
  .rw [e]at h;cases h
  .rw [c]at h;cases h
 .rw [k,i];rfl
end Go.TX.F
namespace Go.TX.F
open Go Go.AE Go.TX List
noncomputable def JY (a:Int) (x y:List au):List au×Bool:=
 if(dz x).2&& (dz y).2 then(aY (wdo a (dz x).1 (dz y).1),true)
 else if jR x y=0/\a=4 then(x,true)
 else if jR x y=0 then([],true)
 else if(dz x).2 then
  (if a=4/\(dz x).1=0 then([],true)else if(a=4/\(dz x).1=65535)\/(a=5/\(dz x).1=0)then(y,true)else([],false))
 else if(dz y).2 then
  (if a=4/\(dz y).1=0 then([],true)else if(a=4/\(dz y).1=65535)\/(a=5/\(dz y).1=0)then(x,true)else([],false))
 else([],false)
noncomputable def jK (a:Int) (x y:List au):List au×Bool:=
 if a=1 then((rC x y).2,(rC x y).1)else if a=2 then((rC x (lH y 65535)).2,(rC x (lH y 65535)).1)else if a=3 then((sJ x y).2,(sJ x y).1)else JY a x y
def aX.sh{l:List au}:aX l->Sh l:=λh=>⟨by have:=h.len;omega,λm hm=>by have:=(h.at hm).le;omega⟩
def amZ(l:List au):Sh (wB l).2:=by
 unfold wB;by_cases h:aX (nf l)
 .rw [aI h];exact h.sh
 .rw [aT h];exact⟨by simp,λm hm=>absurd hm (by simp)⟩
def rD:Sh []:=⟨by simp,λm hm=>absurd hm (by simp)⟩
def am0(a b:List au):Sh (sJ a b).2:=by unfold sJ;split;exact amZ _;exact rD
def NJ(a:List au)(n:Int):Sh (lH a n):=by unfold lH;split;exact am0 _ _;exact rD
abbrev Y24(e:aAV->Bool)(d:aAV->dY):Prop:=∀c a b,e (c,a,b,())=true/\d (c,a,b,())=(wdo c a b,())
abbrev Y25(d:ql->Bool)(c:ql->Bool×eu):Prop:=∀a b,Sh a->Sh b->d (a,b,())=true/\c (a,b,())=((rC a b).1,(rC a b).2,())
abbrev Y26(c:List au×dY->Bool)(b:List au×dY->eu):Prop:=∀a n,Sh a->c (a,n,())=true/\b (a,n,())=(lH a n,())
abbrev Y27(c:eu->Bool)(b:eu->Int×fA):Prop:=∀a,Sh a->c (a,())=true/\b (a,())=((dz a).1,(dz a).2,())
def aqX{p1 f1 p2 f2 p3 f3 p4 f4 p5 f5 p6 f6 p7 f7}(v:Y14 p1 f1)(t:Y22 p2 f2)(s:Y24 p3 f3)(k:Y25 p4 f4)(p:Y23 p5 f5)(q:Y26 p6 f6)(j:Y27 p7 f7)(b:Int)(x y:List au)(d:Sh x)(g:Sh y):XD.F (p1,f1,p2,f2,p3,f3,p4,f4,p5,f5,p6,f6,p7,f7,()) (b,x,y,()) (λz=>z=((jK b x y).1,(jK b x y).2,())):=by
 dsimp only [XD,gm];simp (disch:=omega) only [RR,v x y d,t,s,k x y d g,k x _ d (NJ y 65535),p x y d g,q y _ g,j x d,j y g];unfold jK;refine⟨λh=>by rw [if_pos h],λh=>⟨λf=>by rw [if_neg h,if_pos f],λf=>⟨λi=>by rw [if_neg h,if_neg f,if_pos i],λi=> ?_⟩⟩⟩;rw [if_neg h,if_neg f,if_neg i];unfold JY;generalize dz x=w;generalize dz y=o;obtain⟨n,l⟩:=w;obtain⟨m,r⟩:=o;dsimp only;by_cases e:jR x y=0<;>by_cases u:b=4<;>cases l<;>cases r<;>simp [e,u]
 .by_cases c:m=0<;>by_cases a:m=65535<;>simp [c,a]
 .by_cases c:n=0<;>by_cases a:n=65535<;>simp [c,a]
 .by_cases c:b=5<;>by_cases a:m=0<;>simp [c,a]
 .by_cases c:b=5<;>by_cases a:n=0<;>simp [c,a]
noncomputable def tDo (t:List Atom) (a:Int) (x y:List au):List Atom×List au:=
 if(jK a x y).2 then(t,(jK a x y).1)else
 if a≠2/\0<jR x y then(if(bE t ⟨4,a,y,x⟩).2<0 then([],[])else((bE t ⟨4,a,y,x⟩).1,iO (bE t ⟨4,a,y,x⟩).2))
 else(if(bE t ⟨4,a,x,y⟩).2<0 then([],[])else((bE t ⟨4,a,x,y⟩).1,iO (bE t ⟨4,a,x,y⟩).2))
noncomputable def tOk (t:List Atom) (a:Int) (x y:List au):Bool:=(jK a x y).2 || !decide ((if a≠2/\0<jR x y then(bE t ⟨4,a,y,x⟩).2 else(bE t ⟨4,a,x,y⟩).2)<0)
abbrev Y28(b:dY->Bool)(a:dY->eu):Prop:=∀n,b (n,())=true/\a (n,())=(iO n,())
def axz{p1 f1 p4 f4}{f:aBf->Bool}{j:aBf->List au×fA}{e:yt->Bool}{k:yt->List Atom×dY}(w:Y8 p1 f1)(q:∀b x y,Sh x->Sh y->f (b,x,y,())=true/\j (b,x,y,())=((jK b x y).1,(jK b x y).2,()))(i:∀t a,t.length<1000000000->ShA a->e (t,a,())=true/\k (t,a,())=((bE t a).1,(bE t a).2,()))(v:Y28 p4 f4)(t:List Atom)(b:Int)(x y:List au)(g:t.length<1000000000)(c:Sh x)(d:Sh y):ahI.F (p1,f1,f,j,e,k,p4,f4,()) (t,b,x,y,()) (λz=>z.1=(tDo t b x y).1/\z.2.1=(tDo t b x y).2/\z.2.2.1=tOk t b x y):=by
 have s:ShA ⟨4,b,x,y⟩:=⟨c,d⟩;have m:ShA ⟨4,b,y,x⟩:=⟨d,c⟩;dsimp only [ahI,gm];simp (disch:=omega) only [RR,w x y c,q b x y c d,i t _ g s,i t _ g m,v];unfold tDo tOk;refine⟨λh=>by rw [if_pos h,h];exact⟨rfl,rfl,rfl⟩,λh=> ?_⟩;rw [if_neg (by rw [h];simp),h,Bool.false_or];generalize bE t ⟨4,b,y,x⟩=l;generalize bE t ⟨4,b,x,y⟩=u;generalize jR x y=o;by_cases n:b=2<;>by_cases p:0<o<;>by_cases r:l.2<0<;>by_cases A:u.2<0<;>simp [n,p,r,A]
def am1:ShT []:=⟨by simp,λm hm=>absurd hm (by simp)⟩
abbrev Y29(c:mI->Bool)(b:mI->fA):Prop:=∀a,ShT a->c (a,())=true/\b (a,())=(bp (aM a),())
abbrev Y30(b:List Atom×aBf->Bool)(a:List Atom×aBf->List Atom×List au×fA):Prop:=∀(t:List Atom) op x y,t.length<1000000000->Sh x->Sh y->b (t,op,x,y,())=true/\(a (t,op,x,y,())).1=(tDo t op x y).1/\(a (t,op,x,y,())).2.1=(tDo t op x y).2/\(a (t,op,x,y,())).2.2.1=tOk t op x y
abbrev Y31(c:mI->Bool)(b:mI->mI):Prop:=∀a,ShT a->c (a,())=true/\b (a,())=(a,())
def aqY{p1 f1}(a:Y9 p1 f1):X3.F (p1,f1,()) () (λz=>z=(true,())):=by
 dsimp only [X3,gm];simp (disch:=omega) only [RR,a];rfl
def kV{α:Type}{d:α}{a b:List α}(h:a.length=b.length)(c:All a.length (λi=>a.getD i.toNat d=b.getD i.toNat d)):a=b:=by
 refine ext_getElem h λi f e=> ?_
 have:=c i ah ah;dsimp only at this;rw [show(i:Int).toNat=i from rfl,getD_lt f,getD_lt e]at this;exact this
def aqZ(a b:List Int)(m:a.length<1000000000):X4.F () (a,b,()) (λz=>z=(bp (a=b),())):=by
 dsimp only [X4,gm];simp (disch:=omega) only [RR];refine⟨λh=> ?_,λh=> ?_⟩
 .rw [aT (λe=>h (by rw [e]))]
 have f:a.length=b.length:=by omega
 refine ay (λ(y:aBk)=>y.1=a/\y.2.1=b/\0<=y.2.2.1/\y.2.2.1<=a.length/\All y.2.2.1 (λi=>a.getD i.toNat default=b.getD i.toNat default)) (λy=>(a.length-y.2.2.1).toNat) ⟨rfl,rfl,by simp,by simp,All.zero⟩ ?_;rintro⟨(k:List Int),(n:List Int),(i:Int),⟨⟩⟩ hI;dsimp only at hI ⊢;obtain⟨rfl,rfl,l,j,d⟩:=hI;simp (disch:=omega) only [RR];refine⟨λg=>⟨ah,ah,ah,ah,λc=> ?_,λc=>⟨⟨ah,ah,d.snoc c⟩,ah⟩⟩,λg=> ?_⟩
 .rw [aT (λe=>c (by rw [e]))]
 .rw [aI (kV f (d.le ah))]
abbrev Y32(d:wm->Bool)(c:wm->fA):Prop:=∀a b,a.length<1000000000->d (a,b,())=true/\c (a,b,())=(bp (a=b),())
variable{α:Type}{p:List au}{o:List au}
def aiC{a b:Int}:or2 a b=0↔a=0/\b=0:=by unfold or2;split<;>omega
def NK{a b:au}:Po a b=0↔a=b:=by
 unfold Po;rw [aiC,nu,kU];constructor
 .rintro⟨h1,h2⟩;cases a;cases b;simp_all
 .rintro rfl;exact⟨rfl,rfl⟩
def NP:∀ {a b:List au},a.length=b.length->Fq a b=0->a=b
 | [],[],_,_=>rfl | [],_::_,h,_=>by simp at h
 | _::_,[],h,_=>by simp at h
 | a::az,b::bs,hl,h=>by
  simp only [Fq]at h;split at h
  .exact absurd h (by assumption)
  .rename_i h1;rw [NK.1 (Classical.not_not.1 h1),NP (by simpa using hl) h]
def NQ:∀a:List au,Fq a a=0
 | []=>rfl
 | a::az=>by simp only [Fq,NK.2 rfl];simp [NQ az]
def jO{a b:List au}:jR a b=0↔a=b:=by
 unfold jR;constructor
 .intro h;split at h
  .exact absurd h (by assumption)
  .rename_i h1;have:=kU.1 (Classical.not_not.1 h1);exact NP ah h
 .rintro rfl;rw [if_neg (by rw [kU.2 rfl];simp),NQ]
def qO{a b:Atom}:xw a b=true↔a=b:=by
 unfold xw;rw [Bool.and_eq_true,Bool.and_eq_true,Bool.and_eq_true,decide_eq_true_eq,decide_eq_true_eq,decide_eq_true_eq,decide_eq_true_eq,jO,jO];constructor
 .rintro⟨⟨⟨h1,h2⟩,h3⟩,h4⟩;cases a;cases b;simp_all
 .rintro rfl;exact⟨⟨⟨rfl,rfl⟩,rfl⟩,rfl⟩
def qF{d:α}{l:List α}{G:α->Prop}:All l.length (λi=>G (l.getD i.toNat d))↔∀m∈l,G m:=by
 constructor
 .intro h m hm;obtain⟨i,a,rfl⟩:=getElem_of_mem hm;have:=h i ah ah;dsimp only at this;rw [show(i:Int).toNat=i from rfl,getD_lt a]at this;exact this
 .intro h i h1 h2;exact h _ (bV h1 h2)
def dB{n:Int}:bA p n↔∀m∈p,∀k∈m.atoms,k<n:=by
 unfold bA Pn;rw [qF (d:=default) (G:=λm:au=>All m.atoms.length (λi=>¬n<=m.atoms.getD i.toNat default))];refine forall_congr' λm=>forall_congr' λ_=> ?_
 rw [qF (d:=default) (G:=λk:Int=>¬n<=k)];exact forall_congr' λk=>forall_congr' λ_=>by omega
def dK{d:α}{R:α->α->Prop}(f:∀ {a b c},R a b->R b c->R a c){l:List α}:l.Pairwise R↔∀i:Int,0<i->i<l.length->R (l.getD (i-1).toNat d) (l.getD i.toNat d):=by
 rw [pairwise_iff_getElem];constructor
 .intro h i e h2;rw [getD_lt ah,getD_lt ah];exact h _ _ ah ah ah
 .intro h i j hi hj hij;obtain⟨n,rfl⟩:∃n,j=i+1+n:=⟨j-i-1,ah⟩
  clear hij
  induction n with
  | zero=>
   have:=h (i+1:Nat) ah ah;rw [show(((i+1:Nat):Int)-1).toNat=i by omega,show(((i+1:Nat):Int)).toNat=i+1 by omega,getD_lt hi,getD_lt ah]at this;exact this
  | succ n g=>
   have e:=g ah;have:=h (i+1+n+1:Nat) ah ah;rw [show(((i+1+n+1:Nat):Int)-1).toNat=i+1+n by omega,show(((i+1+n+1:Nat):Int)).toNat=i+1+n+1 by omega,getD_lt ah,getD_lt ah]at this;exact f e this
def Px{l:List Int}:Srt l↔l.Pairwise (· <= ·):=by
 rw [dK (d:=default) (R:=λa b:Int=>a<=b) (λe c=>Int.le_trans e c)];unfold Srt;constructor
 .intro h i e c;have:=h (i-1) ah ah;dsimp only at this;rw [show i-1+1=i by omega]at this;exact this
 .intro h i e c;have:=h (i+1) ah ah;rw [show i+1-1=i by omega]at this;exact this
def fT{a b c:au}(e:lt a b)(d:lt b c):lt a c:=eF (le_of_lt e) d
def aok(l:List Int):Prop:=l.Pairwise (· <= ·)/\∀k∈l,0<=k/\k<=199
def iU:aX p↔Nf p/\p.length<=12/\∀m∈p,m.atoms.length<=4/\aok m.atoms:=by
 constructor
 .rintro⟨h1,h2,h3,h4⟩;have c:∀m∈p,mOk m:=qF (d:=default) (G:=mOk).1 (λi e a=>(h1 i e a).1);have f:∀m∈p,¬(0<m.atoms.length/\m.atoms.getD 0 default<0):=qF (d:=default) (G:=λm:au=>¬(0<m.atoms.length/\m.atoms.getD 0 default<0)).1 h4;refine⟨⟨(dK (d:=default) (R:=lt) fT).2 λi e a=>(h1 i ah a).2 e,λm hm=>(c m hm).1⟩,h2,λm hm=>⟨(c m hm).2.1,Px.1 (c m hm).2.2,λk hk=>⟨?_,by have:=dB.1 h3 m hm k hk;omega⟩⟩⟩;have g:=Px.1 (c m hm).2.2;have hn:=f m hm;cases ha:m.atoms with
  | nil=>rw [ha]at hk;exact absurd hk (by simp)
  | cons b l=>
   rw [ha]at hk g hn;simp at hn;rcases mem_cons.1 hk with rfl | hk
   .exact hn
   .have:=rel_of_pairwise_cons g hk;omega
 .rintro⟨h1,h2,h3⟩;refine⟨λi e a=>⟨⟨h1.co _ (bV e a),(h3 _ (bV e a)).1,Px.2 (h3 _ (bV e a)).2.1⟩,λh=>(dK (d:=default) (R:=lt) fT).1 h1.ss i h a⟩,h2,dB.2 λm hm k hk=>by have:=((h3 m hm).2.2 k hk);omega,?_⟩;refine qF (d:=default) (G:=λm:au=>¬(0<m.atoms.length/\m.atoms.getD 0 default<0)).2 λm hm=> ?_
  rintro⟨e,a⟩;have:=(h3 m hm).2.2 _ (bV (i:=0) (d:=default) (xs:=m.atoms) ah ah);rw [show Int.toNat 0=0 from rfl]at this;omega
def aiD{l:List au}{k:List Int}(h:cf l k≠0):∃m∈l,m.atoms=k:=Classical.byContradiction λa=>h (jX λm hm e=>a ⟨m,hm,e⟩)
def Nf.cf(h:Nf o){m:au}(hm:m∈o):cf o m.atoms=m.bN:=by
 induction o with
 | nil=>exact absurd hm (by simp)
 | cons a o c=>
  rw [cu];rcases mem_cons.1 hm with rfl | hm
  .rw [if_pos rfl,jX (λd b=>((rel_of_pairwise_cons h.ss b).ne).symm)];omega
  .rw [if_neg (rel_of_pairwise_cons h.ss hm).ne,c ⟨h.ss.tail,λm hm=>h.co m (by simp [hm])⟩ hm];omega
def Nf.from{o l:List au}(h:Nf o)(h2:∀k,F.cf o k=F.cf l k%65536){m:au}(hm:m∈o):∃a∈l,a.atoms=m.atoms:=by
 refine aiD λe=> ?_
 have:=h2 m.atoms;rw [h.cf hm,e]at this;have:=h.co m hm;omega
def Nf.bnd(h:Nf o)(k:List Int):0<=F.cf o k/\F.cf o k<=65535:=by
 by_cases e:F.cf o k=0
 .omega
 .obtain⟨m,hm,rfl⟩:=aiD e;rw [h.cf hm];have:=h.co m hm;omega
def am2{l o:List au}(h:Nf o)(a:∀k,F.cf o k=F.cf l k%65536)(f:∀m∈l,aok m.atoms):
  wB l=(decide (o.length<=12/\∀m∈o,m.atoms.length<=4),if o.length<=12/\∀m∈o,m.atoms.length<=4 then o else []):=by
 unfold wB;rw [acF h a];by_cases c:o.length<=12/\∀m∈o,m.atoms.length<=4
 .have:aX o:=iU.2 ⟨h,c.1,λm hm=>⟨c.2 m hm,by obtain⟨e,d,b⟩:=h.from a hm;rw [<-b];exact f e d⟩⟩;rw [aI this,decide_eq_true c,if_pos rfl,if_pos c]
 .have:¬aX o:=λg=>c ⟨(iU.1 g).2.1,λm hm=>((iU.1 g).2.2 m hm).1⟩
  rw [aT this,decide_eq_false c,if_neg (by simp),if_neg c]
end Go.TX.F
namespace Go.TX.F
open Go Go.AE Go.TX List
def aq0(a b c:Int):VP.F () (a,b,c,()) (λy=>y=(inB a b c,())):=by
 dsimp only [VP,gm];simp (disch:=omega) only [RR];rfl
def aq1(a:Int):VI.F () (a,()) (λy=>y=(inB a 0 65535,())):=by
 dsimp only [VI,gm];simp (disch:=omega) only [RR];refine congrArg (λb=>(b,())) ?_;rw [Bool.eq_iff_iff,bB,Bool.and_eq_true,decide_eq_true_eq,decide_eq_true_eq];omega
def aq2{p1 f1}(b:Y1 p1 f1)(a:Int):
  Ze.F (p1,f1,()) (a,()) (λy=>y=(aY a,())):=by
 dsimp only [Ze,gm];simp (disch:=omega) only [RR,b,bB,jJ];unfold aY;exact⟨λh=>by rw [if_neg ah],λh=>by rw [if_pos ah]⟩
def aq3{p1 f1}(b:Y1 p1 f1)(a:Int):
  YN.F (p1,f1,()) (a,()) (λy=>y=(iO a,())):=by
 dsimp only [YN,gm];simp (disch:=omega) only [RR,b,bB,jJ];unfold iO;exact⟨λh=>by rw [if_neg ah],λh=>by rw [if_pos ah]⟩
def aiE(a:Int):a.tmod 65536=if 0<=a then a%65536 else- (-a%65536):=by
 split
 .rw [Int.tmod_eq_emod_of_nonneg ah]
 .have:=Int.neg_tmod (-a) 65536;rw [Int.neg_neg]at this;rw [this,Int.tmod_eq_emod_of_nonneg ah]
def aq4(a:Int):Wi.F () (a,()) (λy=>y=(a%65536,())):=by
 dsimp only [Wi,gm];simp only [aix];by_cases h:0<=a
 .rw [show a.tmod 65536=a%65536 by rw [aiE,if_pos h]];simp (disch:=omega) only [RR];refine⟨ah,λb=> ?_⟩;exfalso;omega
 .rw [show a.tmod 65536= - (-a%65536) by rw [aiE,if_neg h]];simp (disch:=omega) only [RR];refine⟨ah,λb=> ?_,λb=> ?_⟩
  .rw [show-(-a%65536)+65536=a%65536 by omega]
  .rw [show-(-a%65536)=a%65536 by omega]
def aq5(a b:List Int)(p:a.length<1000000000):YP.F () (a,b,()) (λy=>y=(fM a b,())):=by
 dsimp only [YP,gm];simp (disch:=omega) only [RR];refine⟨λh=>⟨λf=> ?_,λf=> ?_⟩,λh=> ?_⟩
 .rw [show fM a b= -1 by(have e:jd a.length b.length= -1:=by unfold jd;rw [if_pos f]);unfold fM or2;rw [e];rfl]
 .rw [show fM a b=1 by(have e:jd a.length b.length=1:=by unfold jd;rw [if_neg f,if_pos ah]);unfold fM or2;rw [e];rfl]
 have n:a.length=b.length:=by omega
 have l:fM a b=nS a b:=by unfold fM or2;rw [kU.2 ah,if_neg (by simp)]
 refine ay (λ(y:aBk)=>y.1=a/\y.2.1=b/\0<=y.2.2.1/\y.2.2.1<=a.length/\fM a b=nS (a.drop y.2.2.1.toNat) (b.drop y.2.2.1.toNat)) (λy=>(a.length-y.2.2.1).toNat) ⟨rfl,rfl,by simp,by simp,by simpa using l⟩ ?_;rintro⟨(c:List Int),(d:List Int),(i:Int),⟨⟩⟩ hI;dsimp only at hI ⊢;obtain⟨rfl,rfl,f,o,j⟩:=hI;simp (disch:=omega) only [RR];refine⟨λm=> ?_,λm=> ?_⟩
 .have e:=Fp c d i.toNat ah ah;rw [getD_lt ah,getD_lt ah];refine⟨ah,ah,ah,ah,λg=> ?_,λg=>⟨ah,ah,ah,ah,λk=> ?_,λk=>⟨⟨ah,ah,?_⟩,ah⟩⟩⟩
  .rw [j,e,show jd c[i.toNat] d[i.toNat]= -1 by unfold jd;rw [if_pos g]];rfl
  .rw [j,e,show jd c[i.toNat] d[i.toNat]=1 by unfold jd;rw [if_neg g,if_pos k]];rfl
  .rw [j,e,show jd c[i.toNat] d[i.toNat]=0 by unfold jd;rw [if_neg g,if_neg k],show(i+1).toNat=i.toNat+1 by omega];rfl
 .rw [j,drop_eq_nil_of_le ah,drop_eq_nil_of_le ah];rfl
def aq6{p1 f1}(r:Y1 p1 f1)(m:au)(hm:m.atoms.length<1000000000):
  YQ.F (p1,f1,()) (m,()) (λy=>y=(bp ((1<=m.bN/\m.bN<=65535)/\m.atoms.length<=4/\aok m.atoms),())):=by
 dsimp only [YQ,gm];simp (disch:=omega) only [RR,r,bB,jJ];refine⟨λh=> ?_,λ⟨g,f⟩=> ?_⟩
 .rw [aT];rintro⟨v,t,s⟩;omega
 refine ay (λ(y:Int×aBj)=>y.2.1=m/\0<=y.1/\y.1<=m.atoms.length/\All y.1 (λi=>(0<=m.atoms.getD i.toNat default/\m.atoms.getD i.toNat default<=199)/\(0<i->m.atoms.getD (i-1).toNat default<=m.atoms.getD i.toNat default))) (λy=>(m.atoms.length-y.1).toNat) ⟨rfl,by simp,by simp,All.zero⟩ ?_;rintro⟨(i:Int),(x:au),⟨⟩⟩ hI;dsimp only at hI ⊢;obtain⟨rfl,w,z,q⟩:=hI;simp (disch:=omega) only [RR,r,bB,jJ];refine⟨λo=>⟨ah,ah,by by_cases c:0<i;(· right;omega);(· left;simp [c]),by by_cases c:0<i;(· right;omega);(· left;simp [c]),ah,ah,λe=> ?_,λe=>⟨⟨ah,ah,q.snoc ⟨e.1,λc=> ?_⟩⟩,ah⟩⟩,λo=> ?_⟩
 .rw [aT];rintro⟨v,t,s,u⟩;rcases e with e | ⟨e,n⟩
  .exact e (u _ (bV w o))
  .have:=(dK (d:=default) (R:=λa b:Int=>a<=b) (λg f=>Int.le_trans g f)).1 s i e o;omega
 .have:=e.2;rw [decide_eq_true c,Bool.true_and,decide_eq_false_iff_not]at this;omega
 .have n:=q.le (by omega:(x.atoms.length:Int)<=i);rw [aI];refine⟨ah,ah,(dK (d:=default) (R:=λa b:Int=>a<=b) (λg f=>Int.le_trans g f)).2 λj l p=>(n j ah p).2 l,qF (d:=default) (G:=λk:Int=>0<=k/\k<=199).1 λj l p=>(n j l p).1⟩
def aq7{p4 f4}{q:aBj->Bool}{n:aBj->fA}(v:∀m:au,m.atoms.length<1000000000->q (m,())=true/\n (m,())=(bp ((1<=m.bN/\m.bN<=65535)/\m.atoms.length<=4/\aok m.atoms),()))(u:Y7 p4 f4)(a:List au)(g:Sh a):YR.F (q,n,p4,f4,()) (a,()) (λy=>y=(bp (aX a),())):=by
 have p:=g.1;dsimp only [YR,gm];simp (disch:=omega) only [RR];refine⟨λh=> ?_,λh=> ?_⟩
 .rw [aT (λl=>by have:=l.len;omega)]
 refine ay (λ(y:Int×eu)=>y.2.1=a/\0<=y.1/\y.1<=a.length/\All y.1 (λi=>((1<=((a).getD (i).toNat default).bN/\((a).getD (i).toNat default).bN<=65535)/\((a).getD (i).toNat default).atoms.length<=4/\aok ((a).getD (i).toNat default).atoms)/\(0<i->lt ((a).getD (i-1).toNat default) ((a).getD (i).toNat default)))) (λy=>(a.length-y.1).toNat) ⟨rfl,by simp,by simp,All.zero⟩ ?_;rintro⟨(i:Int),(w:List au),⟨⟩⟩ hI;dsimp only at hI ⊢;obtain⟨rfl,o,l,s⟩:=hI;simp (disch:=omega) only [RR,v _ (g.at _),u _ _ (g.at _),aF,gI];refine⟨λe=>⟨ah,ah,by by_cases c:0<i;(· right;omega);(· left;simp [c]),by by_cases c:0<i;(· right;omega);(· left;simp [c]),ah,ah,λb=> ?_,λb=>⟨⟨ah,ah,s.snoc ⟨b.1,λc=> ?_⟩⟩,ah⟩⟩,λe=> ?_⟩
 .rw [aT (λh=> ?_)];obtain⟨r,z,x⟩:=iU.1 h;rcases b with b | ⟨b,A⟩
  .exact b ⟨r.co _ (bV o e),x _ (bV o e)⟩
  .have:=(dK (d:=default) (R:=lt) fT).1 r.ss i b e;unfold lt at this;omega
 .have:=b.2;rw [decide_eq_true c,Bool.true_and,decide_eq_false_iff_not]at this;unfold lt;omega
 .have h8:=s.le (by omega:(w.length:Int)<=i);rw [aI];have t:=qF (d:=default) (G:=λm:au=>(1<=m.bN/\m.bN<=65535)/\m.atoms.length<=4/\aok m.atoms).1 λj f k=>(h8 j f k).1
  exact iU.2 ⟨⟨(dK (d:=default) (R:=lt) fT).2 λj f k=>(h8 j ah k).2 f,λm hm=>(t m hm).1⟩,ah,λm hm=>(t m hm).2⟩
def aq8(a:List au)(n:Int)(k:Sh a):YT.F () (a,n,()) (λy=>y=(bp (bA a n),())):=by
 have e:=k.1;dsimp only [YT,gm];simp (disch:=omega) only [RR];refine ay (λ(y:l7)=>y.1=n/\y.2.2.1=a/\0<=y.2.1/\y.2.1<=a.length/\All y.2.1 (λi=>Pn n ((a).getD (i).toNat default))) (λy=>(a.length-y.2.1).toNat) ⟨rfl,rfl,by simp,by simp,All.zero⟩ ?_;rintro⟨(b:Int),(i:Int),(l:List au),⟨⟩⟩ hI;dsimp only at hI ⊢;obtain⟨rfl,rfl,p,s,g⟩:=hI;simp (disch:=omega) only [RR];refine⟨λd=> ?_,λd=> ?_⟩
 .have h5:=k.at i.toNat;refine ay (λ(y:aAL)=>y.1=b/\y.2.1=i/\y.2.2.2.1=l/\0<=y.2.2.1/\y.2.2.1<=((l).getD (i).toNat default).atoms.length/\All y.2.2.1 (λj=>¬b<=((l).getD (i).toNat default).atoms.getD j.toNat default)) (λy=>(((l).getD (i).toNat default).atoms.length-y.2.2.1).toNat) ⟨rfl,rfl,rfl,by simp,by simp,All.zero⟩ ?_;rintro⟨(o:Int),(r:Int),(j:Int),(u:List au),⟨⟩⟩ hI;dsimp only at hI ⊢;obtain⟨rfl,rfl,rfl,q,t,m⟩:=hI;simp (disch:=omega) only [RR];refine⟨ah,ah,λf=>⟨ah,ah,ah,ah,λc=> ?_,λc=>⟨⟨ah,ah,m.snoc c⟩,ah⟩⟩,λf=>⟨⟨ah,ah,g.snoc (m.le ah)⟩,ah⟩⟩;rw [aT (λh=>h r p d j q f c)]
 .rw [aI (show bA l b from g.le ah)]
theorem aq9{p4 f4}(r:Y7 p4 f4)(a b:List au)(n:Sh a):YV.F (p4,f4,()) (a,b,()) (λy=>y=(jR a b,())):=by
 have k:=n.1;dsimp only [YV,gm];simp (disch:=omega) only [RR];refine⟨λh=>⟨λg=> ?_,λg=> ?_⟩,λh=> ?_⟩
 .rw [show jR a b= -1 by(have e:jd a.length b.length= -1:=by unfold jd;rw [if_pos g]);unfold jR;rw [e];rfl]
 .rw [show jR a b=1 by(have e:jd a.length b.length=1:=by unfold jd;rw [if_neg g,if_pos ah]);unfold jR;rw [e];rfl]
 have t:a.length=b.length:=by omega
 have p:jR a b=Fq a b:=by unfold jR;rw [kU.2 ah,if_neg (by simp)]
 refine ay (λ(y:aBf)=>y.2.1=a/\y.2.2.1=b/\0<=y.1/\y.1<=a.length/\jR a b=Fq (a.drop y.1.toNat) (b.drop y.1.toNat)) (λy=>(a.length-y.1).toNat) ⟨rfl,rfl,by simp,by simp,by simpa using p⟩ ?_;rintro⟨(i:Int),(l:List au),(o:List au),⟨⟩⟩ hI;dsimp only at hI ⊢;obtain⟨rfl,rfl,g,s,f⟩:=hI;simp (disch:=omega) only [RR,r _ _ (n.at _)];refine⟨λq=> ?_,λq=> ?_⟩
 .have e:=Fu l o i.toNat ah ah;rw [getD_lt ah,getD_lt ah];generalize w:l[i.toNat]=u at e ⊢;generalize x:o[i.toNat]=v at e ⊢;have c:Po u v=if fM u.atoms v.atoms≠0 then fM u.atoms v.atoms else jd u.bN v.bN:=rfl
  refine⟨ah,ah,ah,ah,λd=> ?_,λd=>⟨ah,ah,ah,ah,λm=>⟨ah,ah,ah,ah,λj=> ?_,λj=> ?_⟩,λm=>⟨⟨ah,ah,?_⟩,ah⟩⟩⟩
  .rw [if_pos d]at c;rw [f,e,c,if_pos d]
  .rw [if_neg (by simpa using d),show jd u.bN v.bN= -1 by unfold jd;rw [if_pos j]]at c;rw [f,e,c];rfl
  .rw [if_neg (by simpa using d),show jd u.bN v.bN=1 by unfold jd;rw [if_neg j,if_pos ah]]at c;rw [f,e,c];rfl
  .rw [if_neg (by simpa using d),kU.2 m]at c;rw [f,e,c,show(i+1).toNat=i.toNat+1 by omega];rfl
 .rw [f,drop_eq_nil_of_le ah];rfl
def ara(a:Atom):YS.F () (a,()) (λy=>y=(bp (a.x=[]/\a.y=[]),())):=by
 dsimp only [YS,gm];simp (disch:=omega) only [RR];refine congrArg (λb=>(b,())) ?_;rw [Bool.eq_iff_iff,aF,Bool.and_eq_true,decide_eq_true_eq,decide_eq_true_eq];constructor
 .rintro⟨h1,h2⟩;exact⟨eq_nil_of_length_eq_zero ah,eq_nil_of_length_eq_zero ah⟩
 .rintro⟨h1,h2⟩;rw [h1,h2];exact⟨rfl,rfl⟩
def arb{p1 f1 p4 f4 p3 f3}{e:aAQ->Bool}{k:aAQ->fA}(q:Y1 p1 f1)(m:Y11 p4 f4)(i:Y6 p3 f3)(p:∀a,e (a,())=true/\k (a,())=(bp (a.x=[]/\a.y=[]),()))(a:Atom)(n:Int)(r:ShA a):
  YU.F (p1,f1,p4,f4,p3,f3,e,k,()) (a,n,()) (λy=>y=(bp (kE a n),())):=by
 obtain⟨l,j⟩:=r;dsimp only [YU,gm];simp (disch:=omega) only [RR,q,p,i a.x n l,i a.y n j,m a.x l,m a.y j];unfold kE;have E:∀(b:Bool) (P:Prop),(b=true↔P)->(b,())=(bp P,()):=λb P h=>by
  rw [show b=bp P from Bool.eq_iff_iff.2 (h.trans aF.symm)]
 have T:∀ {P:Prop},¬P->(false,())=(bp P,()):=λh=>by rw [aT h]
 refine⟨λh=>E _ _ ?_,λh=>⟨λc=>⟨λ_=>E _ _ ?_,λo=>absurd c o⟩,λc=>⟨λf=>E _ _ ?_,λf=>⟨λd=>E _ _ ?_,λd=>T ?_⟩⟩⟩⟩
 .rw [if_neg ah,Bool.and_eq_true,bB,aF];constructor
  .rintro⟨g1,g2⟩;exact⟨g2,Or.inl ⟨h,g1⟩⟩
  .rintro⟨g2,⟨_,g1⟩ | ⟨g3,g1⟩⟩
   .exact⟨g1,g2⟩
   .omega
 .rw [if_neg ah,Bool.and_eq_true,bB,aF];constructor
  .rintro⟨g1,g2⟩;exact⟨g2,Or.inr ⟨Or.inl c,g1⟩⟩
  .rintro⟨g2,⟨_,g1⟩ | ⟨g3,g1⟩⟩
   .omega
   .exact⟨g1,g2⟩
 .rw [if_neg ah,Bool.and_eq_true,bB,aF];constructor
  .rintro⟨g1,g2⟩;exact⟨g2,Or.inr ⟨Or.inr f,g1⟩⟩
  .rintro⟨g2,⟨_,g1⟩ | ⟨g3,g1⟩⟩
   .omega
   .exact⟨g1,g2⟩
 .rw [if_pos d];simp only [Bool.and_eq_true,bB,aF,and_assoc]
 .rw [if_neg d];rintro⟨_,⟨g,_⟩ | ⟨g,_⟩⟩<;>omega
def ard{p1 f1}(c:Y8 p1 f1)(a b:Atom)(d:ShA a):
  YW.F (p1,f1,()) (a,b,()) (λy=>y=(xw a b,())):=by
 dsimp only [YW,gm];simp (disch:=omega) only [RR,c a.x b.x d.1,c a.y b.y d.2];rfl
def aiF(G:Int->Prop):∀n:Nat,∃r,Idx n G r
 | 0=>⟨-1,Or.inl ⟨rfl,All.zero⟩⟩
 | n+1=>by
  obtain⟨r,h⟩:=aiF G n;rcases h with⟨b,a⟩ | ⟨b,a,d,c⟩
  .by_cases g:G n
   .exact⟨n,Or.inr ⟨ah,ah,g,a⟩⟩
   .exact⟨-1,Or.inl ⟨rfl,by have:=a.snoc g;exact this.le ah⟩⟩
  .exact⟨r,Or.inr ⟨b,ah,d,c⟩⟩
def aau(G:Int->Prop)(n:Nat):Idx n G (idxOf n G):=by
 obtain⟨r,h⟩:=aiF G n;rw [<-h.eq];exact h
def mg(t:List Atom)(a:Atom):Idx t.length (λi=>a=t.getD i.toNat default) (xA t a):=by
 have:=aau (λi=>xw a (t.getD i.toNat default)=true) t.length;simp only [qO]at this;unfold xA;simp only [qO];exact this
def qP{t:List Atom}:aM t↔All t.length (λi=>kE (t.getD i.toNat default) i/\All i (λj=>¬t.getD i.toNat default=t.getD j.toNat default))/\t.length<=200:=by
 unfold aM;refine and_congr ⟨λh i b a=>⟨(h i b a).1,?_⟩,λh i b a=>⟨(h i b a).1,?_⟩⟩ Iff.rfl
 .have:=mg t (t.getD i.toNat default);rw [(h i b a).2]at this;rcases this with⟨c,_⟩ | ⟨_,_,_,g⟩
  .omega
  .exact g
 .exact((mg t (t.getD i.toNat default)).uniq (Or.inr ⟨b,a,rfl,(h i b a).2⟩))
def arf{p1 f1 p2 f2}(s:Y18 p1 f1)(r:Y15 p2 f2)(a:List Atom)(f:ShT a):
  YX.F (p1,f1,p2,f2,()) (a,()) (λy=>y=(bp (aM a),())):=by
 have m:=f.1;dsimp only [YX,gm];simp (disch:=omega) only [RR];refine⟨λh=> ?_,λh=> ?_⟩
 .rw [aT (λg=>by have:=g.2;omega)]
 refine ay (λ(y:Int×mI)=>y.2.1=a/\0<=y.1/\y.1<=a.length/\All y.1 (λi=>kE ((a).getD (i).toNat default) i/\All i (λj=>¬((a).getD (i).toNat default)=((a).getD (j).toNat default)))) (λy=>(a.length-y.1).toNat) ⟨rfl,by simp,by simp,All.zero⟩ ?_;rintro⟨(i:Int),(l:List Atom),⟨⟩⟩ hI;dsimp only at hI ⊢;obtain⟨rfl,k,g,o⟩:=hI;simp (disch:=omega) only [RR,s _ _ (f.at _),aF,gI];refine⟨λc=>⟨ah,ah,λd=> ?_,λd=> ?_⟩,λc=> ?_⟩
 .rw [aT (λh=>d (h.1 i k c).1)]
 .refine ay (λ(y:Int×Int×mI)=>y.1=i/\y.2.2.1=l/\0<=y.2.1/\y.2.1<=i/\All y.2.1 (λj=>¬((l).getD (i).toNat default)=((l).getD (j).toNat default))) (λy=>(i-y.2.1).toNat) ⟨rfl,rfl,by simp,by simp;omega,All.zero⟩ ?_;rintro⟨(t:Int),(j:Int),(v:List Atom),⟨⟩⟩ hI;dsimp only at hI ⊢;obtain⟨rfl,rfl,q,u,p⟩:=hI;simp (disch:=omega) only [RR,r _ _ (f.at _)];refine⟨λn=>⟨ah,ah,ah,ah,λb=> ?_,λb=>⟨⟨ah,ah,p.snoc ?_⟩,ah⟩⟩,λn=>⟨⟨ah,ah,o.snoc ⟨d,p.le ah⟩⟩,ah⟩⟩
  .rw [aT (λh=>((qP.1 h).1 t k c).2 j q n (qO.1 b).symm)]
  .intro e;rw [qO.2 e.symm]at b;cases b
 .rw [aI (qP.2 ⟨o.le ah,ah⟩)]
def arh{p1 f1 p2 f2}(g:Y9 p1 f1)(i:Y10 p2 f2)(d a b:Int):
  Wj.F (p2,f2,p1,f1,()) (d,a,b,()) (λy=>y=(wdo d a b,())):=by
 dsimp only [Wj,gm];simp (disch:=omega) only [RR,g,i,Pp,aat,bB,jJ];by_cases c:(0<=a/\a<=65535)/\(0<=b/\b<=65535)
 .have hm:0<=a*b/\a*b<=65535*65535:=⟨Int.mul_nonneg c.1.1 c.2.1,Int.mul_le_mul c.1.2 c.2.2 c.2.1 ah⟩;rw [w64 (x:=a+b) ah ah,w64 (x:=a-b) ah ah,w64 (x:=a*b) ah ah];unfold wdo;rw [if_pos c];refine⟨λh=>absurd h ah,λ_=>⟨λh=> ?_,λh=>⟨λj=> ?_,λj=>⟨λe=> ?_,λe=>⟨λk=> ?_,λk=>⟨λf=> ?_,λf=> ?_⟩⟩⟩⟩⟩⟩<;>(subst_vars;first | rfl | simp only [if_true,if_false, *])
 .refine⟨λh=> ?_,λh=>absurd h ?_⟩
  .unfold wdo;rw [if_neg c]
  .exact c
theorem ari{p1 f1}(b:Y11 p1 f1)(a:List au)(d:Sh a):
  Zm.F (p1,f1,()) (a,()) (λy=>y=((dz a).1,(dz a).2,())):=by
 dsimp only [Zm,gm];simp (disch:=omega) only [RR,b a d];unfold dz;have z:Int.toNat 0=0:=rfl;rw [z];refine⟨λh=> ?_,λh=>⟨λe=> ?_,λe=>⟨ah,ah,λc=> ?_,λc=>⟨ah,ah,?_⟩⟩⟩⟩
 .rw [if_neg (by simpa using h)]
 .rw [if_pos h,if_pos ah]
 .rw [if_pos h,if_neg ah,if_neg ah]
 .rw [if_pos h,if_neg ah,if_pos ah]
def arj(a:List au)(c:Sh a):YZ.F () (a,()) (λy=>y=(a,())):=by
 have d:=c.1;dsimp only [YZ,gm];simp (disch:=omega) only [RR];refine ay (λ(y:List au×Int×eu)=>y.1=a/\y.2.2.1=a.take y.2.1.toNat/\0<=y.2.1/\y.2.1<=a.length) (λy=>(a.length-y.2.1).toNat) ⟨rfl,by simp,by simp,by simp⟩ ?_;rintro⟨(l:List au),(i:Int),(o:List au),⟨⟩⟩ hI;dsimp only at hI ⊢;obtain⟨rfl,rfl,e,f⟩:=hI;have g:=c.at i.toNat;have b:=length_take_le' i.toNat l;simp (disch:=omega) only [RR];simp only [length_nil,nil_append,length_cons];refine⟨λb=>⟨ah,ah,ah,ah,Or.inr ah,ah,ah,⟨bg e b rfl,ah,ah⟩,ah⟩,λb=>by rw [take_of_length_le ah]⟩
def Py(l:List au):Prop:=l.length<=12/\∀m∈l,m.atoms.length<=4
def ark{p1 f1}(j:Y13 p1 f1)(a:List au)(e:Sh a):
  Zg.F (p1,f1,()) (a,()) (λy=>y=(bp (Py a),if bp (Py a)then a else [],())):=by
 have g:=e.1;dsimp only [Zg,gm];simp (disch:=omega) only [RR];refine⟨λh=> ?_,λh=> ?_⟩
 .rw [aT (λb=>by have:=b.1;omega)];rfl
 refine ay (λ(y:List au×dY)=>y.1=a/\0<=y.2.1/\y.2.1<=a.length/\All y.2.1 (λi=>((a).getD (i).toNat default).atoms.length<=4)) (λy=>(a.length-y.2.1).toNat) ⟨rfl,by simp,by simp,All.zero⟩ ?_;rintro⟨(l:List au),(i:Int),⟨⟩⟩ hI;dsimp only at hI ⊢;obtain⟨rfl,k,b,f⟩:=hI;simp (disch:=omega) only [RR,j l e];refine⟨λc=>⟨ah,ah,λn=> ?_,λn=>⟨⟨ah,ah,f.snoc ah⟩,ah⟩⟩,λc=> ?_⟩
 .rw [aT (λh=>by have:=h.2 _ (bV (d:=default) k c);omega)];rfl
 .rw [aI (show Py l from⟨ah,qF (d:=default) (G:=λm:au=>m.atoms.length<=4).1 (f.le ah)⟩)];rfl
def arl{p1 f1}(b:Y13 p1 f1)(a:Atom)(c:ShA a):
  Za.F (p1,f1,()) (a,()) (λy=>y=(a.kind,a.k,a.x,a.y,())):=by
 dsimp only [Za,gm];simp (disch:=omega) only [RR,b a.x c.1,b a.y c.2]
abbrev Y34(c:aAQ->Bool)(b:aAQ->Int×aBf):Prop:=∀a,ShA a->c (a,())=true/\b (a,())=(a.kind,a.k,a.x,a.y,())
def arn{p1 f1}(e:Y34 p1 f1)(a:List Atom)(b:ShT a):
  Zb.F (p1,f1,()) (a,()) (λy=>y=(a,())):=by
 have d:=b.1;dsimp only [Zb,gm];simp (disch:=omega) only [RR];refine ay (λ(y:Int×List Atom×mI)=>y.2.1=a/\y.2.2.1=a.take y.1.toNat/\0<=y.1/\y.1<=a.length) (λy=>(a.length-y.1).toNat) ⟨rfl,by simp,by simp,by simp⟩ ?_;rintro⟨(i:Int),(l:List Atom),(o:List Atom),⟨⟩⟩ hI;dsimp only at hI ⊢;obtain⟨rfl,rfl,f,g⟩:=hI;simp (disch:=omega) only [RR,e _ (b.at _)];have h:=length_take_le' i.toNat l;refine⟨λc=>⟨ah,ah,?_,⟨bg f c rfl,ah,ah⟩,ah⟩,λc=>by rw [take_of_length_le ah]⟩;simp only [length_cons,length_nil];omega
def AA{p:List au}{n m:Int}(h:bA p n)(c:n<=m):bA p m:=dB.2 λa b k hk=>by have:=dB.1 h a b k hk;omega
def aiG{a:Atom}{n m:Int}(h:kE a n)(b:n<=m):kE a m:=by
 unfold kE at h ⊢;split
 .rename_i h3;rw [if_pos h3]at h;exact⟨h.1,h.2.1,h.2.2.1,AA h.2.2.2.1 b,AA h.2.2.2.2 b⟩
 .rename_i h3;rw [if_neg h3]at h;exact h
def aro{p1 f1 p2 f2 p3 f3}(v:Y18 p1 f1)(u:Y15 p2 f2)(s:Y34 p3 f3)(a:Atom)(t:List Atom)(p:ShA a)(j:ShT t)(f:aM t):Zc.F (p1,f1,p2,f2,p3,f3,()) (a,t,()) (λy=>y=((bE t a).2,(bE t a).1,())):=by
 have o:=j.1;dsimp only [Zc,gm];simp (disch:=omega) only [RR,v _ _ p,aF,gI];have b:=mg t a;refine⟨λh=> ?_,λh=> ?_⟩
 .have:xA t a= -1:=by
   rcases b with⟨g,_⟩ | ⟨r,q,w,_⟩
   .exact g
   .exfalso;apply h;have:=(f.1 _ r q).1;rw [<-w]at this;exact aiG this ah
  unfold bE;rw [this,if_neg ah,if_pos (Or.inl h)]
 refine ay (λ(y:Int×yt)=>y.2.1=t/\y.2.2.1=a/\0<=y.1/\y.1<=t.length/\All y.1 (λi=>¬a=t.getD i.toNat default)) (λy=>(t.length-y.1).toNat) ⟨rfl,rfl,by simp,by simp,All.zero⟩ ?_;rintro⟨(i:Int),(l:List Atom),(m:Atom),⟨⟩⟩ hI;dsimp only at hI ⊢;obtain⟨rfl,rfl,n,x,d⟩:=hI;simp (disch:=omega) only [RR,u _ _ (j.at _),s _ p];refine⟨λk=>⟨ah,ah,ah,ah,λc=> ?_,λc=>⟨⟨ah,ah,d.snoc ?_⟩,ah⟩⟩,λk=> ?_⟩
 .have e:=(qO.1 c).symm;have:xA l m=i:=b.uniq (Or.inr ⟨n,k,e,d⟩);unfold bE;rw [this,if_pos n]
 .intro e;rw [qO.2 e.symm]at c;cases c
 .have:xA l m= -1:=b.uniq (Or.inl ⟨rfl,d.le ah⟩);unfold bE;rw [this,if_neg ah];refine⟨λc=> ?_,λc=>⟨?_,?_⟩⟩
  .rw [if_pos (Or.inr ah)]
  .simp only [length_cons,length_nil];omega
  .rw [if_neg (by rintro(g | g);exact g h;omega),length_append];rw [w64 (by simp only [length_cons,length_nil];omega) (by simp only [length_cons,length_nil];omega)];simp only [length_cons,length_nil];rw [show(((l.length+(0+1):Nat):Int)-1)=l.length by omega]
def Gp(a n:Int)(y:List au):List au×Bool:=if a=4/\n=0 then([],true)else if(a=4/\n=65535)\/(a=5/\n=0)then(y,true)else([],false)
def arp{p1 f1}(c:Y13 p1 f1)(a n:Int)(y:List au)(d:Sh y):
  Zn.F (p1,f1,()) (a,n,y,()) (λz=>z=((Gp a n y).2,(Gp a n y).1,())):=by
 dsimp only [Zn,gm];simp (disch:=omega) only [RR,c y d];unfold Gp;by_cases g:a=4<;>by_cases b:n=0<;>by_cases e:n=65535<;>by_cases f:a=5<;>simp [g,b,e,f]<;>omega
def acG(a:Int)(x y:List au):JY a x y=if(dz x).2&& (dz y).2 then(aY (wdo a (dz x).1 (dz y).1),true)
  else if jR x y=0 then(if a=4 then(x,true)else([],true))else if(dz x).2 then Gp a (dz x).1 y else if(dz y).2 then Gp a (dz y).1 x else([],false):=by
 unfold JY Gp;by_cases c:jR x y=0<;>by_cases b:a=4<;>simp [c,b]
def arq{p1 f1 p2 f2 p3 f3 p4 f4 p7 f7}{f:l7->Bool}{c:l7->Bool×eu}(r:Y8 p1 f1)(o:Y13 p2 f2)(l:Y24 p3 f3)(q:Y22 p4 f4)(d:Y27 p7 f7)(g:∀a n y,Sh y->f (a,n,y,())=true/\c (a,n,y,())=((Gp a n y).2,(Gp a n y).1,()))(a:Int)(x y:List au)(b:Sh x)(h:Sh y):Zo.F (p1,f1,p2,f2,p3,f3,p4,f4,p7,f7,f,c,()) (a,x,y,()) (λz=>z=((JY a x y).2,(JY a x y).1,())):=by
 dsimp only [Zo,gm];simp (disch:=omega) only [RR,r x y b,o x b,l,q,d x b,d y h,g a _ y h,g a _ x b];rw [acG];generalize dz x=s;generalize dz y=j;obtain⟨n,i⟩:=s;obtain⟨m,k⟩:=j;dsimp only;by_cases e:jR x y=0<;>by_cases p:a=4<;>cases i<;>cases k<;>simp [e,p]
noncomputable def JZ (a:Int) (x y:List au):List au×Bool:=
 if a=1 then((rC x y).2,(rC x y).1)else if a=2 then((rC x (lH y 65535)).2,(rC x (lH y 65535)).1)else if a=3 then((sJ x y).2,(sJ x y).1)else([],false)
def ars{p5 f5 p4 f4 p6 f6}(g:Y23 p5 f5)(f:Y25 p4 f4)(i:Y26 p6 f6)(b:Int)(x y:List au)(e:Sh x)(d:Sh y):Zl.F (p5,f5,p4,f4,p6,f6,()) (b,x,y,()) (λz=>z=((JZ b x y).2,(JZ b x y).1,())):=by
 dsimp only [Zl,gm];simp (disch:=omega) only [RR,f x y e d,f x _ e (NJ y 65535),g x y e d,i y _ d];unfold JZ;refine⟨λh=>by rw [if_pos h],λh=>⟨λa=>by rw [if_neg h,if_pos a],λa=>⟨λc=>by rw [if_neg h,if_neg a,if_pos c],λc=>by rw [if_neg h,if_neg a,if_neg c]⟩⟩⟩
abbrev Y35(c:Atom×mI->Bool)(b:Atom×mI->Int×mI):Prop:=∀a t,ShA a->ShT t->aM t->c (a,t,())=true/\b (a,t,())=((bE t a).2,(bE t a).1,())
def aru{p1 f1 p2 f2 p5 f5}{n:aBf->Bool}{w:aBf->Bool×eu}{q:aBf->Bool}{v:aBf->Bool×eu}(L:Y28 p1 f1)(H:Y8 p2 f2)(G:∀a x y,Sh x->Sh y->n (a,x,y,())=true/\w (a,x,y,())=((JZ a x y).2,(JZ a x y).1,()))(J:∀a x y,Sh x->Sh y->q (a,x,y,())=true/\v (a,x,y,())=((JY a x y).2,(JY a x y).1,()))(u:Y35 p5 f5)(a:Int)(x y:List au)(t:List Atom)(C:1<=a/\a<=5)(f:Sh x)(i:Sh y)(r:ShT t)(g:aM t):Zp.F (p1,f1,p2,f2,n,w,q,v,p5,f5,()) (a,x,y,t,()) (λz=>z=((tDo t a x y).1,(tDo t a x y).2,())):=by
 have I:ShA ⟨4,a,x,y⟩:=⟨f,i⟩;have E:ShA ⟨4,a,y,x⟩:=⟨i,f⟩;dsimp only [Zp,gm];simp (disch:=omega) only [RR,L,H x y f,G a x y f i,J a x y f i,u _ _ I r g,u _ _ E r g];have K:(a=4\/a=5)->JY a x y=jK a x y:=λh=>by unfold jK;rw [if_neg ah,if_neg ah,if_neg ah]
 have F:¬(a=4\/a=5)->JZ a x y=jK a x y:=λh=>by
  unfold jK JZ;by_cases e:a=1
  .rw [if_pos e,if_pos e]
  .rw [if_neg e,if_neg e];by_cases d:a=2
   .rw [if_pos d,if_pos d]
   .rw [if_neg d,if_neg d,if_pos ah,if_pos ah]
 unfold tDo;by_cases c:a=4\/a=5
 .rw [K c];generalize bE t ⟨4,a,y,x⟩=j;generalize bE t ⟨4,a,x,y⟩=l;generalize jR x y=o;generalize jK a x y=s;obtain⟨p,b⟩:=s;have B:¬a=2:=by omega
  cases b<;>by_cases d:0<o<;>by_cases k:j.2<0<;>by_cases m:l.2<0<;>simp [c,B,d,k,m]<;>omega
 .rw [F c];generalize bE t ⟨4,a,y,x⟩=j;generalize bE t ⟨4,a,x,y⟩=l;generalize jR x y=o;generalize jK a x y=s;obtain⟨p,b⟩:=s;obtain⟨D,A⟩:=not_or.1 c;cases b<;>by_cases e:a=2<;>by_cases d:0<o<;>by_cases k:j.2<0<;>by_cases m:l.2<0<;>simp [D,A,e,d,k,m]
structure Plus(l:List au)(m:au)(o:List au):Prop where
 nf:Nf o
 cf:∀k,cf o k=F.cf (l++ [m]) k%65536
 len:o.length<=l.length+1
def arv{p1 f1 p2 f2}(U1:Y7 p1 f1)(U2:Y10 p2 f2)(l:List au)(m:au)(hl:l.length<1000000000)(hn:Nf l)(hm:1<=m.bN/\m.bN<=65535)(M:m.atoms.length<1000000000):Zf.F (p1,f1,p2,f2,()) (l,m,()) (λy=>Plus l m y.1):=by
  dsimp only [Zf,gm]
  refine ay (λ(y:List au×Bool×Int×au×eu)=>y.1=l/\y.2.2.2.1=m/\0<=y.2.2.1/\y.2.2.1<=l.length/\
      ((y.2.1=false/\y.2.2.2.2.1=l.take y.2.2.1.toNat/\∀x∈l.take y.2.2.1.toNat,lt x m)\/
       (y.2.1=true/\Nf y.2.2.2.2.1/\(∀k,cf y.2.2.2.2.1 k=cf (l.take y.2.2.1.toNat++ [m]) k%65536)/\(y.2.2.2.2.1.length:Int)<=y.2.2.1+1/\(y.2.2.1<l.length->lt m ((l).getD (y.2.2.1).toNat default)/\∀x∈y.2.2.2.2.1,lt x ((l).getD (y.2.2.1).toNat default))))) (λy=>(l.length-y.2.2.1).toNat)
    ⟨rfl,rfl,by simp,by simp,Or.inl ⟨rfl,by simp,by simp⟩⟩ ?_
  rintro⟨(b:List au),(dn:Bool),(i:Int),(f:au),(o:List au),⟨⟩⟩ hI;dsimp only at hI ⊢;obtain⟨rfl,rfl,U,h2,Q⟩:=hI;simp (disch:=omega) only [RR,U1 _ _ M,U2];have A:=hn.ss;have j:i+1<b.length->lt ((b).getD (i).toNat default) ((b).getD (i+1).toNat default):=λh=>by
    have:=(dK (d:=default) (R:=lt) fT).1 A (i+1) ah h;rw [show i+1-1=i by omega]at this;exact this
  have H:i<b.length->b.take (i+1).toNat=b.take i.toNat++ [((b).getD (i).toNat default)]:=λh=>(bg U h rfl).symm
  have t:i<b.length->∀x∈b.take i.toNat,lt x ((b).getD (i).toNat default):=λh x c=>by
    have:=A;rw [<-take_append_drop i.toNat b,pairwise_append]at this;refine this.2.2 x c _ ?_;rw [getD_lt ah,drop_eq_getElem_cons (show i.toNat<b.length by omega)];exact mem_cons_self
  have Z:=length_take_le' i.toNat b;have a0:=length_take_le i.toNat b;have co:i<b.length->1<=((b).getD (i).toNat default).bN/\((b).getD (i).toNat default).bN<=65535:=λh=>hn.co _ (bV U h)
  have p:Nf (b.take i.toNat):=⟨Pairwise.sublist (take_sublist _ _) A,λx c=>hn.co x (mem_of_mem_take c)⟩;have aiH:∀ {a:List au} {x:au},Nf a->(∀y∈a,lt y x)->1<=x.bN/\x.bN<=65535->Nf (a++ [x]):=λ{a x} I L Y=>⟨by
    rw [pairwise_append];exact⟨I.ss,pairwise_singleton _ _,λy D z W=>by rw [mem_singleton]at W;subst W;exact L y D⟩,λy D=>by
    rw [mem_append,mem_singleton]at D;rcases D with D | rfl
    · exact I.co y D
    · exact Y⟩
  have E:∀(x:List au) (y:au),(x++ [y]).length=x.length+1:=λx y=>by rw [length_append];rfl
  have fin:∀o,i=b.length->Nf o->(∀k,cf o k=cf (b.take i.toNat++ [f]) k%65536)->(o.length:Int)<=i+1->Plus b f o:=λo e I L Y=>⟨I,λk=>by rw [L k,take_of_length_le ah],ah⟩
  by_cases r:i<b.length
  · have j:=j;have H:=H r;have t:=t r;have co:=co r;rw [H];have hv:∀ {P:Prop},P->(∀x,x=((b).getD (i).toNat default)->P)->P:=λh _=>h
    generalize ((b).getD (i).toNat default)=v at j H t co Q ⊢;have q:∀k,cf (b.take i.toNat++ [v]++ [f]) k=cf (b.take i.toNat) k+(if v.atoms=k then v.bN else 0)+(if f.atoms=k then f.bN else 0):=λk=>by
      rw [cB,cB,cu,cu,jy];simp only [Int.add_zero]
    have G:∀k,cf (b.take i.toNat++ [f]) k=cf (b.take i.toNat) k+(if f.atoms=k then f.bN else 0):=λk=>by
      rw [cB,cu,jy,Int.add_zero]
    rcases Q with⟨rfl,rfl,s⟩ | ⟨rfl,s,O,X,N⟩
    ·
      simp (disch:=omega) only [RR,decide_true,Bool.not_false,Bool.true_and,decide_eq_true_eq,r];by_cases C:fM f.atoms v.atoms<0
      · have w:¬fM f.atoms v.atoms=0:=by omega
        simp (disch:=omega) only [RR,C,w];have K:=aiH p s hm;have F:∀x∈b.take i.toNat++ [f],lt x v:=λx c=>by
          rw [mem_append,mem_singleton]at c;rcases c with c | rfl
          · exact t x c
          · exact C
        have u:=aiH K F co;refine⟨ah,by rw [show([f]:List au).length=1 from rfl];omega,ah,by rw [E,show([v]:List au).length=1 from rfl];omega,⟨ah,ah,Or.inr ⟨u,λk=> ?_,by rw [E,E];omega,λh=>⟨fT C (j h),λx c=> ?_⟩⟩⟩,ah⟩
        · have B:=q k;have n:=u.bnd k;have S:cf (b.take i.toNat++ [f]++ [v]) k=cf (b.take i.toNat++ [v]++ [f]) k:=by rw [B,cB,G,cu,jy];omega
          rw [<-S];omega
        · rw [mem_append,mem_singleton]at c;rcases c with c | rfl
          · exact fT (F x c) (j h)
          · exact j h
      · by_cases w:fM f.atoms v.atoms=0
        · have ev:=nu.1 w;simp (disch:=omega) only [RR,C,w,append_nil];have T:cf (b.take i.toNat) v.atoms=0:=jX λx c=>(t x c).ne
          refine⟨ah,λh=>absurd h ah,λ_=>⟨ah,λJ=> ?_,λJ=> ?_⟩⟩
          · have u:=aiH (x:=⟨(v.bN+f.bN)%65536,v.atoms⟩) p t ⟨by dsimp only;omega,by dsimp only;omega⟩;refine⟨ah,by simp only [length_cons,length_nil];omega,⟨ah,ah,Or.inr ⟨u,λk=> ?_,by rw [E];omega,λh=>⟨?_,λx c=> ?_⟩⟩⟩,ah⟩
            · have B:=q k;have n:=u.bnd k;rw [B];rw [cB,cu,jy]at n ⊢;dsimp only at n ⊢;by_cases g:v.atoms=k
              · rw [if_pos g]at n ⊢;rw [if_pos g,if_pos (ev.trans g)];rw [<-g,T]at n ⊢;omega
              · rw [if_neg g]at n ⊢;rw [if_neg g,if_neg (λe=>g (ev.symm.trans e))];omega
            · have:=j h;unfold lt at this ⊢;rw [ev];exact this
            · rw [mem_append,mem_singleton]at c;rcases c with c | rfl
              · exact fT (t x c) (j h)
              · exact j h
          · refine⟨⟨ah,ah,Or.inr ⟨p,λk=> ?_,ah,λh=>⟨?_,λx c=>fT (t x c) (j h)⟩⟩⟩,ah⟩
            · have B:=q k;have n:=p.bnd k;rw [B];by_cases g:v.atoms=k
              · rw [if_pos g,if_pos (ev.trans g),<-g,T];omega
              · rw [if_neg g,if_neg (λe=>g (ev.symm.trans e))];omega
            · have:=j h;unfold lt at this ⊢;rw [ev];exact this
        · simp (disch:=omega) only [RR,C,w];refine⟨ah,ah,by simp only [length_cons,length_nil];omega,⟨ah,ah,Or.inl (λx c=> ?_)⟩,ah⟩;rw [mem_append,mem_singleton]at c;rcases c with c | rfl
          · exact s x c
          · unfold lt;rw [vw];omega
    · have J:=(N r).1;have F:=(N r).2;have C:fM f.atoms v.atoms<0:=J;have w:¬fM f.atoms v.atoms=0:=by omega
      simp (disch:=omega) only [RR,decide_true,Bool.not_true,Bool.false_and,decide_eq_true_eq,r,w];have u:=aiH s F co;refine⟨ah,λh=>h.1.elim,ah,by simp only [length_cons,length_nil];omega,⟨ah,ah,Or.inr ⟨u,λk=> ?_,by rw [E];omega,λh=>⟨fT J (j h),λx c=> ?_⟩⟩⟩,ah⟩
      · have B:=q k;have n:=u.bnd k;have S:=O k;rw [G]at S;rw [cB,cu,jy]at n ⊢;rw [B];by_cases g:v.atoms=k
        · rw [if_pos g]at n ⊢;omega
        · rw [if_neg g]at n ⊢;omega
      · rw [mem_append,mem_singleton]at c;rcases c with c | rfl
        · exact fT (F x c) (j h)
        · exact j h
  · have V:i=b.length:=by omega
    rcases Q with⟨rfl,rfl,s⟩ | ⟨rfl,s,O,X,N⟩
    · simp (disch:=omega) only [RR,decide_true,Bool.not_false,Bool.true_and,decide_eq_true_eq,r];have K:=aiH p s hm;refine⟨by simp only [length_cons,length_nil];omega,fin _ V K (λk=> ?_) (by rw [E];omega)⟩;have n:=K.bnd k;omega
    · simp (disch:=omega) only [RR,decide_true,Bool.not_true,Bool.false_and,decide_eq_true_eq,r];exact fin _ V s O X
def CJ{a o:List Int}(h:o.Pairwise (· <= ·))(f:o.Perm a):o=oI a:=by
 refine Perm.eq_of_pairwise (le:=λx y:Int=>x<=y) (λa b _ _ e d=>Int.le_antisymm e d) h ?_ (f.trans (mergeSort_perm a _).symm);have:=pairwise_mergeSort (le:=λx y:Int=>decide (x<=y)) (λa b c e d=>by simp at*;omega) (λa b=>by simp;omega) a;exact this.imp (λh=>by simpa using h)
def arw(a b:List Int)(ha:a.length<100000000)(V:b.length<100000000)(H:a.Pairwise (· <= ·))(Q:b.Pairwise (· <= ·)):
  Zj.F () (a,b,()) (λy=>y=(oI (a++b),())):=by
 dsimp only [Zj,gm];have D:=(dK (d:=default) (R:=λa b:Int=>a<=b) (λj l=>Int.le_trans j l)).1 H;have F:=(dK (d:=default) (R:=λa b:Int=>a<=b) (λj l=>Int.le_trans j l)).1 Q
 let I:List Int->Int->Int->Prop:=λo i k=>0<=i/\i<=a.length/\0<=k/\k<=b.length/\o.Pairwise (· <= ·)/\o.Perm (a.take i.toNat++b.take k.toNat)/\(i<a.length->∀x∈o,x<=((a).getD (i).toNat default))/\(k<b.length->∀x∈o,x<=((b).getD (k).toNat default))
 have L:∀ {o:List Int} {y:Int},o.Pairwise (· <= ·)->(∀x∈o,x<=y)->(o++ [y]).Pairwise (· <= ·):=λ{o y} q E=>by
  rw [pairwise_append];exact⟨q,pairwise_singleton _ _,λx c z K=>by rw [mem_singleton]at K;subst K;exact E x c⟩
 have J:∀o i k,I o i k->(o.length:Int)=i+k:=λo i k ⟨j,l,u,v,_,m,_⟩=>by
  have:=m.length_eq;rw [length_append,length_take,length_take]at this;omega
 have B:∀o i k,I o i k->i<a.length->(k<b.length->((a).getD (i).toNat default)<=((b).getD (k).toNat default))->I (o++ [((a).getD (i).toNat default)]) (i+1) k:=by
  rintro o i k ⟨j,l,u,v,m,s,p,t⟩ n hk;refine⟨ah,ah,u,v,L m (p n),?_,λg x c=> ?_,λg x c=> ?_⟩
  .rw [<-bg (d:=default) j n rfl];refine(s.append_right _).trans ?_;rw [append_assoc,append_assoc];exact(perm_append_comm).append_left _
  .have:=D (i+1) ah g;rw [show i+1-1=i by omega]at this;rw [mem_append,mem_singleton]at c;rcases c with c | rfl
   .exact Int.le_trans (p n x c) this
   .exact this
  .rw [mem_append,mem_singleton]at c;rcases c with c | rfl
   .exact t g x c
   .exact hk g
 have C:∀o i k,I o i k->k<b.length->(i<a.length->((b).getD (k).toNat default)<=((a).getD (i).toNat default))->I (o++ [((b).getD (k).toNat default)]) i (k+1):=by
  rintro o i k ⟨j,l,u,v,m,s,p,t⟩ hk n;refine⟨j,l,ah,ah,L m (t hk),?_,λg x c=> ?_,λg x c=> ?_⟩
  .rw [<-bg (d:=default) u hk rfl,<-append_assoc];exact s.append_right _
  .rw [mem_append,mem_singleton]at c;rcases c with c | rfl
   .exact p g x c
   .exact n g
  .have:=F (k+1) ah g;rw [show k+1-1=k by omega]at this;rw [mem_append,mem_singleton]at c;rcases c with c | rfl
   .exact Int.le_trans (t hk x c) this
   .exact this
 refine ay (λ(y:List Int×List Int×P9)=>y.1=a/\y.2.1=b/\I y.2.2.2.2.1 y.2.2.1 y.2.2.2.1) (λy=>(b.length-y.2.2.2.1).toNat)
  ⟨rfl,rfl,by simp,by simp,by simp,by simp,Pairwise.nil,by simp,λ_ x c=>absurd c (by simp),λ_ x c=>absurd c (by simp)⟩ ?_
 rintro⟨(f:List Int),(A:List Int),(i:Int),(k:Int),(o:List Int),⟨⟩⟩ h;dsimp only at h ⊢;obtain⟨rfl,rfl,h⟩:=h;have P:=h.1;have N:=h.2.1;have S:=h.2.2.1;have O:=h.2.2.2.1;have w:=J _ _ _ h;simp (disch:=omega) only [RR];refine⟨λG=> ?_,λG=> ?_⟩
 .refine ay (λ(y:List Int×List Int×P9)=>y.1=f/\y.2.1=A/\y.2.2.2.1=k/\I y.2.2.2.2.1 y.2.2.1 k) (λy=>(f.length-y.2.2.1).toNat) ⟨rfl,rfl,rfl,h⟩ ?_;rintro⟨(Z:List Int),(X:List Int),(U:Int),(Y:Int),(W:List Int),⟨⟩⟩ e;dsimp only at e ⊢;obtain⟨rfl,rfl,rfl,e⟩:=e;have T:=e.1;have M:=e.2.1;have w:=J _ _ _ e;simp (disch:=omega) only [RR];refine⟨ah,ah,ah,ah,λ⟨q,E⟩=>⟨ah,q,by simp only [length_cons,length_nil];omega,B _ _ _ e q (λ_=>E),ah⟩,λg=>⟨ah,G,by simp only [length_cons,length_nil];omega,C _ _ _ e G (λq=> ?_),ah⟩⟩;rw [decide_eq_true q,Bool.true_and,decide_eq_false_iff_not]at g;omega
 .have e1:drop i.toNat (take ((f.length:Int)).toNat f)=f.drop i.toNat:=by rw [take_of_length_le ah]
  rw [e1];refine⟨ah,ah,ah,by rw [length_drop];omega,?_⟩;obtain⟨j,l,u,v,m,s,p,t⟩:=h;rw [CJ (a:=f++A) (o:=o++f.drop i.toNat)]
  .rw [pairwise_append];refine⟨m,Pairwise.sublist (drop_sublist _ _) H,λx c y r=> ?_⟩;by_cases n:i<f.length
   .refine Int.le_trans (p n x c) ?_;rw [drop_eq_getElem_cons (show i.toNat<f.length by omega)]at r;have hd:=Pairwise.sublist (drop_sublist i.toNat _) H;rw [drop_eq_getElem_cons (show i.toNat<f.length by omega)]at hd;rw [getD_lt (show i.toNat<f.length by omega)];rcases mem_cons.1 r with rfl | r
    .exact Int.le_refl _
    .exact rel_of_pairwise_cons hd r
   .rw [drop_eq_nil_of_le ah]at r;exact absurd r (by simp)
  .rw [take_of_length_le (show A.length<=k.toNat by omega)]at s;refine(s.append_right _).trans ?_;rw [append_assoc];refine((perm_append_comm).append_left _).trans ?_;rw [<-append_assoc,take_append_drop]
variable{p:List au}
def aX.nf(h:aX p):Nf p:=(iU.1 h).1
def aX.aok(h:aX p){m:au}(hm:m∈p):m.atoms.length<=4/\F.aok m.atoms:=(iU.1 h).2.2 m hm
def Pz{l o:List au}(h:Nf o)(a:∀k,cf o k=cf l k%65536)(b:∀m∈l,aok m.atoms):(bp (Py o),if bp (Py o)then o else [])=((wB l).1,(wB l).2):=by
 rw [am2 h a b];by_cases c:Py o
 .rw [aI c,if_pos rfl];dsimp only;rw [decide_eq_true (show o.length<=12/\∀m∈o,m.atoms.length<=4 from c),if_pos (show o.length<=12/\∀m∈o,m.atoms.length<=4 from c)]
 .rw [aT c,if_neg (by simp)];dsimp only;rw [decide_eq_false (show¬(o.length<=12/\∀m∈o,m.atoms.length<=4)from c),if_neg (show¬(o.length<=12/\∀m∈o,m.atoms.length<=4)from c)]
def aiI{o l:List au}(h:Nf o)(c:∀k,cf o k=cf l k%65536)(e:∀m∈l,m.atoms.length<1000000000)(d:o.length<1000000000):Sh o:=⟨d,λm hm=>by
 obtain⟨f,b,a⟩:=h.from c hm;rw [<-a];exact e f b⟩
abbrev Y36(b:List au×aBj->Bool)(a:List au×aBj->eu):Prop:=∀(l:List au) m,l.length<1000000000->Nf l->1<=m.bN/\m.bN<=65535->m.atoms.length<1000000000->b (l,m,())=true/\Plus l m (a (l,m,())).1
abbrev Y37(c:eu->Bool)(b:eu->Bool×eu):Prop:=∀a,Sh a->c (a,())=true/\b (a,())=(bp (Py a),if bp (Py a)then a else [],())
def arx{p1 f1 p2 f2 p3 f3}(u:Y11 p1 f1)(s:Y36 p2 f2)(A:Y37 p3 f3)(a b:List au)(v:Sh a)(f:Sh b):Zh.F (p1,f1,p2,f2,p3,f3,()) (a,b,()) (λy=>y=((rC a b).1,(rC a b).2,())):=by
 dsimp only [Zh,gm];simp (disch:=omega) only [RR,u a v,u b f,aF,gI];unfold rC;refine⟨λh=> ?_,λ⟨c,e⟩=> ?_⟩
 .rw [if_neg];rw [Bool.and_eq_true,aF,aF];rintro⟨x,w⟩;rcases h with h | h
  .exact h x
  .exact h w
 rw [if_pos (by rw [aI c,aI e];rfl)];have D:=c.len;have E:=e.len;have r:∀m∈a++b,F.aok m.atoms/\m.atoms.length<1000000000:=λm hm=>by
  rw [mem_append]at hm;rcases hm with hm | hm
  .exact⟨(c.aok hm).2,v.2 m hm⟩
  .exact⟨(e.aok hm).2,f.2 m hm⟩
 refine ay (λ(y:List au×Int×eu)=>y.2.2.1=b/\0<=y.2.1/\y.2.1<=b.length/\Nf y.1/\(∀k,cf y.1 k=cf (a++b.take y.2.1.toNat) k%65536)/\(y.1.length:Int)<=12+y.2.1) (λy=>(b.length-y.2.1).toNat)
  ⟨rfl,by simp,by simp,c.nf,λk=>by have:=c.nf.bnd k;simp only [Int.toNat_zero,take_zero,append_nil];omega,by simp only;omega⟩ ?_
 rintro⟨(o:List au),(i:Int),(q:List au),⟨⟩⟩ hI;dsimp only at hI ⊢;obtain⟨rfl,t,B,g,n,C⟩:=hI;have j:Sh o:=aiI g n (λm hm=>(r m (by rw [mem_append]at hm ⊢;exact hm.imp id mem_of_mem_take)).2) ah;simp (disch:=omega) only [RR,A o j];refine⟨λp=> ?_,λp=> ?_⟩
 .have hm:=e.nf.co _ (bV (d:=default) t p);have l:=(s o ((q).getD (i).toNat default) j.1 g hm (f.at _)).2;refine⟨ah,ah,(s o ((q).getD (i).toNat default) j.1 g hm (f.at _)).1,⟨ah,ah,l.nf,λk=> ?_,by have:=l.len;omega⟩,ah⟩;rw [l.cf k,cB,n k,<-bg (d:=default) t p rfl,<-append_assoc,cB (a++_)];omega
 .have:=Pz g (λk=>by rw [n k,take_of_length_le ah]) (λm hm=>(r m hm).1);exact congrArg (λz:Bool×List au=>(z.1,z.2,())) this
def arz{p1 f1 p0 f0 p2 f2 p3 f3}{Z:wm->Bool}{Y:wm->bn}(U1:Y11 p1 f1)(U0:Y10 p0 f0)(U2:Y36 p2 f2)(U4:∀a b:List Int,a.length<100000000->b.length<100000000->a.Pairwise (· <= ·)->b.Pairwise (· <= ·)->Z (a,b,())=true/\Y (a,b,())=(oI (a++b),()))(U3:Y37 p3 f3)(a b:List au)(ha:Sh a)(V:Sh b):Zk.F (p1,f1,p0,f0,p2,f2,Z,Y,p3,f3,()) (a,b,()) (λy=>y=((sJ a b).1,(sJ a b).2,())):=by
 have w:=λz1 z2=>(U1 z1 z2).1
 have B:=λz1 z2=>(U1 z1 z2).2
 have R:=λz1=>(U0 z1).1
 have Q:=λz1=>(U0 z1).2
 have O:=λz1 z2 z3 z4 j p=>(U2 z1 z2 z3 z4 j p).1
 have M:=λz1 z2 z3 z4 j p=>(U2 z1 z2 z3 z4 j p).2
 have G:=λz1 z2 z3 z4 j p=>(U4 z1 z2 z3 z4 j p).1
 have L:=λz1 z2 z3 z4 j p=>(U4 z1 z2 z3 z4 j p).2
 have E:=λz1 z2=>(U3 z1 z2).1
 have I:=λz1 z2=>(U3 z1 z2).2
 dsimp only [Zk,gm];simp (disch:=omega) only [RR,w a ha,B a ha,w b V,B b V,aF,gI];unfold sJ;refine⟨λh=> ?_,λ⟨u,s⟩=> ?_⟩
 .rw [if_neg];rw [Bool.and_eq_true,aF,aF];rintro⟨A,D⟩;rcases h with h | h
  .exact h A
  .exact h D
 rw [if_pos (by rw [aI u,aI s];rfl)];have l1:=u.len;have l2:=s.len;have T:∀m∈a,∀n∈b,aok (mulM m n).atoms/\(mulM m n).atoms.length<=8:=λm hm n hn=>by
  obtain⟨A,D⟩:=u.aok hm;obtain⟨C,P⟩:=s.aok hn;refine⟨⟨?_,λk hk=> ?_⟩,?_⟩
  .have:=pairwise_mergeSort (le:=λx y:Int=>decide (x<=y)) (λa b c u s=>by simp at*;omega) (λa b=>by simp;omega) (m.atoms++n.atoms);exact this.imp (λh=>by simpa using h)
  .have:k∈m.atoms++n.atoms:=List.mem_mergeSort.1 hk;rw [mem_append]at this;rcases this with hk | hk
   .exact D.2 k hk
   .exact P.2 k hk
  .show(oI _).length<=8;rw [NI,length_append];omega
 have pm:∀m∈prods a b,aok m.atoms/\m.atoms.length<=8:=λm hm=>by
  unfold prods at hm;rw [mem_flatMap]at hm;obtain⟨x,H,hm⟩:=hm;rw [mem_map]at hm;obtain⟨y,hy,rfl⟩:=hm;exact T x H y hy
 let J:List au->Int->Int->Prop:=λo i k=>Nf o/\(∀t,cf o t=cf (prods (a.take i.toNat) b++(b.take k.toNat).map (mulM ((a).getD (i).toNat default))) t%65536)/\(o.length:Int)<=12*i+k
 refine ay (λ(y:Int×List au×ql)=>y.2.1=a/\y.2.2.1=b/\0<=y.1/\y.1<=a.length/\J y.2.2.2.1 y.1 0) (λy=>(a.length-y.1).toNat)
  ⟨rfl,rfl,by simp,by simp,⟨⟨Pairwise.nil,λm hm=>absurd hm (by simp)⟩,λk=>by simp [cf,prods],by simp⟩⟩ ?_
 rintro⟨(i:Int),(v:List au),(r:List au),(o:List au),⟨⟩⟩ hI;dsimp only at hI ⊢;obtain⟨rfl,rfl,X,h4,q⟩:=hI;have a1:=q.2.2;have U:Sh o:=aiI (l:=prods (v.take i.toNat) r) q.1 (λt=>by rw [q.2.1 t];simp) (λm hm=>by
  have:m∈prods v r:=by
   unfold prods at hm ⊢;rw [mem_flatMap]at hm ⊢;obtain⟨x,H,hm⟩:=hm;exact⟨x,mem_of_mem_take H,hm⟩
  have:=(pm m this).2;omega) ah
 simp (disch:=omega) only [RR,E o U,I o U];refine⟨λS=> ?_,λS=> ?_⟩
 .refine ay (λ(y:Int×Int×List au×ql)=>y.1=i/\y.2.2.1=v/\y.2.2.2.1=r/\0<=y.2.1/\y.2.1<=r.length/\J y.2.2.2.2.1 i y.2.1) (λy=>(r.length-y.2.1).toNat) ⟨rfl,rfl,rfl,by simp,by simp,q⟩ ?_;rintro⟨(g:Int),(k:Int),(f:List au),(e:List au),(o2:List au),⟨⟩⟩ hI;dsimp only at hI ⊢;obtain⟨rfl,rfl,rfl,A,D,hK⟩:=hI;have a0:=hK.2.2;by_cases C:k<e.length
  .have ma:((f).getD (g).toNat default)∈f:=bV X S;have N:((e).getD (k).toNat default)∈e:=bV A C;have ca:=u.nf.co _ ma;have cb:=s.nf.co _ N;obtain⟨q1,q2⟩:=u.aok ma;obtain⟨q3,q4⟩:=s.aok N;have hm:=HV (show 0<=((f).getD (g).toNat default).bN by omega) ah (show 0<=((e).getD (k).toNat default).bN by omega) ah;have K:=(T _ ma _ N).2;simp (disch:=omega) only [RR,R,Q,G _ _ (show((f).getD (g).toNat default).atoms.length<100000000 by omega) (show((e).getD (k).toNat default).atoms.length<100000000 by omega) q2.1 q4.1,L _ _ (show((f).getD (g).toNat default).atoms.length<100000000 by omega) (show((e).getD (k).toNat default).atoms.length<100000000 by omega) q2.1 q4.1];have W:prods (f.take g.toNat) e++(e.take (k+1).toNat).map (mulM ((f).getD (g).toNat default))=prods (f.take g.toNat) e++(e.take k.toNat).map (mulM ((f).getD (g).toNat default))++ [mulM ((f).getD (g).toNat default) ((e).getD (k).toNat default)]:=by
    rw [<-bg (d:=default) A C rfl,map_append,append_assoc];rfl
   refine⟨λ_=>⟨ah,ah,ah,ah,λP=> ?_,λP=>⟨⟨ah,ah,hK.1,λt=> ?_,ah⟩,ah⟩⟩,λh=>absurd C h⟩
   .have axA:(⟨((f).getD (g).toNat default).bN*((e).getD (k).toNat default).bN%65536,oI (((f).getD (g).toNat default).atoms++((e).getD (k).toNat default).atoms)⟩:au).atoms.length<1000000000:=by have:(oI (((f).getD (g).toNat default).atoms++((e).getD (k).toNat default).atoms)).length<=8:=K;dsimp only;omega
    have cc:1<=(⟨((f).getD (g).toNat default).bN*((e).getD (k).toNat default).bN%65536,oI (((f).getD (g).toNat default).atoms++((e).getD (k).toNat default).atoms)⟩:au).bN/\(⟨((f).getD (g).toNat default).bN*((e).getD (k).toNat default).bN%65536,oI (((f).getD (g).toNat default).atoms++((e).getD (k).toNat default).atoms)⟩:au).bN<=65535:=by dsimp only;omega
    have F:=M o2 _ ah hK.1 cc axA;refine⟨ah,ah,ah,ah,O o2 _ ah hK.1 cc axA,⟨ah,ah,F.nf,λt=> ?_,by have:=F.len;omega⟩,ah⟩;rw [F.cf t,cB,hK.2.1 t,W,cB (prods _ _++_)];show(_+cf [mulM ((f).getD (g).toNat default) ((e).getD (k).toNat default)] t)%65536=_;omega
   .rw [W,cB,hK.2.1 t];have:cf [mulM ((f).getD (g).toNat default) ((e).getD (k).toNat default)] t=0:=by
     rw [cu,jy];have:(mulM ((f).getD (g).toNat default) ((e).getD (k).toNat default)).bN=0:=by show((f).getD (g).toNat default).bN*((e).getD (k).toNat default).bN%65536=0;omega
     rw [this];split<;>rfl
    rw [this];omega
  .simp (disch:=omega) only [RR];refine⟨λh=>absurd h C,λ_=>⟨⟨ah,ah,hK.1,λt=> ?_,ah⟩,ah⟩⟩;rw [hK.2.1 t,take_of_length_le (show e.length<=k.toNat by omega),<-JX,bg (d:=default) X S rfl];simp
 .have:=Pz q.1 (l:=prods v r) (λt=>by rw [q.2.1 t,take_of_length_le (show v.length<=i.toNat by omega)];simp) (λm hm=>(pm m hm).1);exact congrArg (λz:Bool×List au=>(z.1,z.2,())) this
end Go.TX.F
namespace Go.TX.F
open Go Go.AE Go.TX List
variable{t:List Atom}{l:List au}{n:Int}
def DU{m:au}(n:Int)(h:aok m.atoms):mulM m ⟨n,[]⟩=⟨m.bN*n%65536,m.atoms⟩:=by
 unfold mulM;rw [<-CJ (a:=m.atoms++ []) (o:=m.atoms) h.1 (by simp)]
def AB(a:List au)(n:au):prods a [n]=a.map (λm=>mulM m n):=by
 induction a with
 | nil=>rfl
 | cons x a b=>simp only [prods,flatMap_cons,map_cons,map_nil]at b ⊢;rw [b];rfl
def SK{t:List Int}:∀ {l:List au},(∀m∈l,m.bN=0)->cf l t=0
 | [],_=>rfl
 | m::l,h=>by rw [cu,SK (λm hm=>h m (by simp [hm])),h m (by simp)];split<;>rfl
def dx:aX []:=iU.2 ⟨⟨Pairwise.nil,λm hm=>absurd hm (by simp)⟩,by simp,λm hm=>absurd hm (by simp)⟩
def dF(n:Int):aX (aY n):=by
 unfold aY;split
 .refine iU.2 ⟨⟨pairwise_singleton _ _,λm hm=> ?_⟩,by simp,λm hm=> ?_⟩
  .rw [mem_singleton]at hm;subst hm;assumption
  .rw [mem_singleton]at hm;subst hm;exact⟨by simp,Pairwise.nil,λk hk=>absurd hk (by simp)⟩
 .exact dx
def rE(n:Int):aX (iO n):=by
 unfold iO;split
 .refine iU.2 ⟨⟨pairwise_singleton _ _,λm hm=> ?_⟩,by simp,λm hm=> ?_⟩
  .rw [mem_singleton]at hm;subst hm;dsimp only;omega
  .rw [mem_singleton]at hm;subst hm;exact⟨by simp,pairwise_singleton _ _,λk hk=>by rw [mem_singleton]at hk;omega⟩
 .exact dx
def arA{p1 f1 p0 f0 p4 f4 p3 f3}(J:Y11 p1 f1)(K:Y10 p0 f0)(I:Y13 p4 f4)(G:Y9 p3 f3)(a:List au)(n:Int)(M:Sh a):Zi.F (p1,f1,p0,f0,p4,f4,p3,f3,()) (a,n,()) (λy=>y=(lH a n,())):=by
 dsimp only [Zi,gm];simp (disch:=omega) only [RR,J a M,G,aF,gI,bB,jJ];unfold lH;refine⟨λh=> ?_,λ⟨j,u⟩=> ?_⟩
 .rw [if_neg];rw [Bool.and_eq_true,aF,bB];rintro⟨F,p⟩;rcases h with h | h
  .exact h F
  .exact h p
 rw [if_pos (by rw [aI j,Bool.true_and,bB];exact u)];have Q:=j.len;have A:=j.nf.ss
 refine ay (λ(y:Int×aBf)=>y.1=n/\y.2.2.1=a/\0<=y.2.1/\y.2.1<=a.length/\Nf y.2.2.2.1/\(y.2.2.2.1.length:Int)<=y.2.1/\(∀t,cf y.2.2.2.1 t=cf ((a.take y.2.1.toNat).map (λm=>⟨m.bN*n%65536,m.atoms⟩)) t%65536)
   /\(∀x∈y.2.2.2.1,x.atoms.length<=4/\(y.2.1<a.length->lt x ((a).getD (y.2.1).toNat default)))) (λy=>(a.length-y.2.1).toNat)
  ⟨rfl,rfl,by simp,by simp,⟨Pairwise.nil,λm hm=>absurd hm (by simp)⟩,by simp,λt=>by simp [cf],λx b=>absurd b (by simp)⟩ ?_
 rintro⟨(f:Int),(i:Int),(c:List au),(o:List au),⟨⟩⟩ hI;dsimp only at hI ⊢;obtain⟨rfl,rfl,D,N,r,P,q,k⟩:=hI;have E:Sh o:=⟨ah,λm hm=>by have:=(k m hm).1;omega⟩;by_cases l:i<c.length
 .have ma:((c).getD (i).toNat default)∈c:=bV D l;have O:=j.nf.co _ ma;have L:=j.aok ma;have hm:=HV (show 0<=((c).getD (i).toNat default).bN by omega) ah u.1 u.2;have B:i+1<c.length->lt ((c).getD (i).toNat default) ((c).getD (i+1).toNat default):=λh=>by
   have:=(dK (d:=default) (R:=lt) fT).1 A (i+1) ah h;rw [show i+1-1=i by omega]at this;exact this
  have C:(c.take (i+1).toNat).map (λm:au=>(⟨m.bN*f%65536,m.atoms⟩:au))=(c.take i.toNat).map (λm:au=>(⟨m.bN*f%65536,m.atoms⟩:au))++ [⟨((c).getD (i).toNat default).bN*f%65536,((c).getD (i).toNat default).atoms⟩]:=by
   rw [<-bg (d:=default) D l rfl,map_append];rfl
  simp (disch:=omega) only [RR,K];refine⟨λ_=>⟨ah,ah,λg=>⟨ah,ah,by simp only [length_cons,length_nil];omega,⟨ah,ah,?_,?_,λt=> ?_,λx b=> ?_⟩,ah⟩,λg=>⟨⟨ah,ah,r,ah,λt=> ?_,λx b=>⟨(k x b).1,λp=>fT ((k x b).2 l) (B p)⟩⟩,ah⟩⟩,λh=>absurd l h⟩
  .refine⟨?_,λx b=> ?_⟩
   .rw [pairwise_append];exact⟨r.ss,pairwise_singleton _ _,λx b z s=>by rw [mem_singleton]at s;subst s;exact(k x b).2 l⟩
   .rw [mem_append,mem_singleton]at b;rcases b with b | rfl
    .exact r.co x b
    .dsimp only;omega
  .rw [length_append];simp only [length_cons,length_nil];omega
  .rw [C,cB,cB,q t,cu,jy];dsimp only;by_cases v:((c).getD (i).toNat default).atoms=t
   .rw [if_pos v];have z:cf o t=0:=jX λx b e=>((k x b).2 l).ne (e.trans v.symm)
    rw [q t]at z;omega
   .rw [if_neg v];omega
  .rw [mem_append,mem_singleton]at b;rcases b with b | rfl
   .exact⟨(k x b).1,λp=>fT ((k x b).2 l) (B p)⟩
   .exact⟨L.1,λp=>B p⟩
  .rw [C,cB,q t,cu,jy];dsimp only;have:((c).getD (i).toNat default).bN*f%65536=0:=by omega
   rw [this];split<;>omega
 .simp (disch:=omega) only [RR,I o E];refine⟨λh=>absurd h l,λ_=> ?_⟩;have eq:∀t,cf o t=cf (prods c (aY f)) t%65536:=λt=>by
   rw [q t,take_of_length_le ah];unfold aY;by_cases hn:1<=f/\f<=65535
   .rw [if_pos hn,AB]
    congr 2
    exact map_congr_left λm hm=>(DU f (j.aok hm).2).symm
   .rw [if_neg hn];have s:f=0:=by omega
    have w:cf (c.map (λm=>(⟨m.bN*f%65536,m.atoms⟩:au))) t=0:=SK λm hm=>by
     rw [mem_map]at hm;obtain⟨x,_,rfl⟩:=hm;dsimp only;rw [s];simp
    rw [w,show prods c []=[] by simp [prods]];rfl
  have H:Py o:=⟨ah,λm hm=>(k m hm).1⟩;have:=Pz r eq (λm hm=>by
   unfold aY at hm;split at hm
   .rw [AB,mem_map]at hm;obtain⟨x,b,rfl⟩:=hm;rw [DU f (j.aok b).2];exact(j.aok b).2
   .rw [show prods c []=[] by simp [prods]]at hm;exact absurd hm (by simp))
  unfold sJ;rw [if_pos (by rw [aI j,aI (dF f)];rfl),<-congrArg Prod.snd this];dsimp only;rw [aI H];rfl
def aiJ(l:List au):(Nf (nf l)/\∀k,cf (nf l) k=cf l k%65536)\/nf l=[]:=by
 by_cases a:∃o,Nf o/\∀k,cf o k=cf l k%65536
 .obtain⟨o,h1,h2⟩:=a;rw [acF h1 h2];exact Or.inl ⟨h1,h2⟩
 .right;unfold nf;rw [dif_neg a]
def aiK(h:bA l n):bA (nf l) n:=by
 rcases aiJ l with⟨a,d⟩ | a
 .refine dB.2 λm hm k hk=> ?_
  obtain⟨e,c,b⟩:=a.from d hm;exact dB.1 h e c k (b▸hk)
 .rw [a];exact dB.2 λm hm=>absurd hm (by simp)
def kW(n:Int):bA [] n:=dB.2 λm hm=>absurd hm (by simp)
def acH(l:List au):aX (wB l).2:=by
 unfold wB;by_cases h:aX (nf l)
 .rw [aI h];exact h
 .rw [aT h];exact dx
def J2(h:bA l n):bA (wB l).2 n:=by
 unfold wB;dsimp only;split
 .exact aiK h
 .exact kW n
def aeb{a b:List au}(d:bA a n)(c:bA b n):bA (a++b) n:=dB.2 λm hm k hk=>by
 rw [mem_append]at hm;rcases hm with hm | hm
 .exact dB.1 d m hm k hk
 .exact dB.1 c m hm k hk
def SL{a b:List au}(e:bA a n)(d:bA b n):bA (prods a b) n:=dB.2 λm hm k hk=>by
 unfold prods at hm;rw [mem_flatMap]at hm;obtain⟨x,f,hm⟩:=hm;rw [mem_map]at hm;obtain⟨y,c,rfl⟩:=hm;have:k∈x.atoms++y.atoms:=List.mem_mergeSort.1 hk;rw [mem_append]at this;rcases this with hk | hk
 .exact dB.1 e x f k hk
 .exact dB.1 d y c k hk
def acI(a b:List au):aX (rC a b).2:=by unfold rC;split;exact acH _;exact dx
def am3(a b:List au):aX (sJ a b).2:=by unfold sJ;split;exact acH _;exact dx
def J3{a b:List au}(d:bA a n)(c:bA b n):bA (rC a b).2 n:=by unfold rC;split;exact J2 (aeb d c);exact kW n
def J4{a b:List au}(d:bA a n)(c:bA b n):bA (sJ a b).2 n:=by unfold sJ;split;exact J2 (SL d c);exact kW n
def zn(c n:Int):bA (aY c) n:=dB.2 λm hm k hk=>by
 unfold aY at hm;split at hm
 .rw [mem_singleton]at hm;subst hm;exact absurd hk (by simp)
 .exact absurd hm (by simp)
def wC{k n:Int}(h:k<n):bA (iO k) n:=dB.2 λm hm j a=>by
 unfold iO at hm;split at hm
 .rw [mem_singleton]at hm;subst hm;rw [mem_singleton]at a;omega
 .exact absurd hm (by simp)
def aM.sh(h:aM t):ShT t:=⟨by have:=h.2;omega,λa b=>by
 obtain⟨i,c,rfl⟩:=getElem_of_mem b;have:=(h.1 i ah ah).1;rw [show(i:Int).toNat=i from rfl,getD_lt c]at this;unfold kE at this;split at this
 .exact⟨this.2.1.sh,this.2.2.1.sh⟩
 .rw [ShA,this.1.1,this.1.2];exact⟨rD,rD⟩⟩
def HZ{a:Atom}(h:aM t)(q:t.length<200):aM (bE t a).1/\t.length<=(bE t a).1.length/\(bE t a).1.length<=t.length+1/\(kE a t.length->0<=(bE t a).2):=by
 have l:=mg t a;unfold bE;split
 .rename_i h3;exact⟨h,Nat.le_refl _,Nat.le_succ _,λ_=>h3⟩
 .rename_i h3;split
  .rename_i b;exact⟨h,Nat.le_refl _,Nat.le_succ _,λd=>by rcases b with b | b;exact absurd d b;omega⟩
  .rename_i b;have d:kE a t.length:=Classical.byContradiction λd=>b (Or.inl d)
   refine⟨qP.2 ⟨?_,by rw [length_append];simp only [length_cons,length_nil];omega⟩,by rw [length_append];exact Nat.le_add_right _ _,by rw [length_append];exact Nat.le_refl _,λ_=>by dsimp only;omega⟩;have p:((t++ [a]).length:Int)=t.length+1:=by rw [length_append];rfl
   have f:∀i:Int,0<=i->i<t.length->(t++ [a]).getD i.toNat default=t.getD i.toNat default:=λi k n=>by
    rw [getD_lt (show i.toNat< (t++ [a]).length by omega),getD_lt (show i.toNat<t.length by omega),getElem_append_left]
   have o:(t++ [a]).getD ((t.length:Int)).toNat default=a:=by
    rw [getD_lt (show((t.length:Int)).toNat< (t++ [a]).length by omega)];simp
   rw [p];intro i k n;dsimp only;by_cases m:i<t.length
   .rw [f i k m];have:=(qP.1 h).1 i k m;exact⟨this.1,λj c e=>by dsimp only;rw [f j c ah];exact this.2 j c e⟩
   .have:i=t.length:=by omega
    subst this;rw [o];refine⟨d,λj c e=> ?_⟩;dsimp only;rw [f j c e];rcases l with⟨_,g⟩ | ⟨g,_⟩
    .exact g j c e
    .exact absurd g h3
end Go.TX.F
namespace Go.TX.F
open Go Go.AE Go.TX List
def By(b:List Int):Prop:=∀z∈b,0<=z/\z<=255
structure Bt(b:List Int):Prop where
 len:b.length<=2000
 rng:By b
def By.at{b:List Int}(h:By b)(n:Nat):0<=b.getD n default/\b.getD n default<=255:=by
 by_cases a:n<b.length
 .rw [getD_lt a];exact h _ (getElem_mem _)
 .simp only [getD,getElem?_eq_none (by omega:b.length<=n)];decide
def arB(b:List Int)(a:By b)(c:b.length<1000000000):VE.F () (b,()) (λy=>Bt y.1/\y.2.1=0):=by
 dsimp only [VE,gm];simp (disch:=omega) only [RR];refine⟨λh=>⟨ah,ah,ah,⟨?_,?_⟩⟩,λh=>⟨ah,a⟩⟩
 .rw [length_drop,length_take];omega
 .intro z hz;exact a z (mem_of_mem_take (mem_of_mem_drop hz))
def arC{a b:Int}(g:0<=a)(d:a<4611686018427387904)(h:0<=b)(f:b<4611686018427387904):0<=kr .xor .i64 a b/\kr .xor .i64 a b<4611686018427387904:=by
 have e:((2^IntKind.i64.bits:Nat):Int)=18446744073709551616:=by decide
 have c:kr .xor .i64 a b=((a.toNat^^^b.toNat:Nat):Int):=by
  unfold kr;dsimp only;rw [BitVec.toNat_xor,BitVec.toNat_ofInt,BitVec.toNat_ofInt,e,show a%18446744073709551616=a by omega,show b%18446744073709551616=b by omega];have:=Nat.xor_lt_two_pow (show a.toNat<2^62 by omega) (show b.toNat<2^62 by omega);rw [w64 ah ah]
 rw [c];have:=Nat.xor_lt_two_pow (show a.toNat<2^62 by omega) (show b.toNat<2^62 by omega);omega
def H9{a b:Int}(h:0<=a):a.tmod b=a%b:=Int.tmod_eq_emod_of_nonneg h
def acJ{a b:Int}(h:0<=a):a.tdiv b=a/b:=Int.tdiv_eq_ediv_of_nonneg h
def Pk(n:Int)(b:List Int)(p:Int)(y:Bp):Prop:=y.2.1=b/\y.2.2.1=p+1/\0<=y.1/\(y.1<n\/y.1=0)
def arD(n:Int)(b:List Int)(p:Int)(c:Bt b)(f:0<=p)(x:p<1000000000):VF.F () (n,b,p,()) (λy=>Pk n b p y):=by
 have z:=c.1;have d:∀k:Nat,IntKind.i64.wrap (b.getD k default)=b.getD k default:=λk=>by have:=c.2.at k;exact w64 ah ah
 dsimp only [VF,gm];simp (disch:=omega) only [RR,d];refine⟨λh=>⟨rfl,rfl,ah,Or.inr rfl⟩,λ⟨A,e⟩=> ?_⟩;have r:p+1-1=p:=by omega
 rw [r];refine⟨λh=>⟨ah,ah,ah,?_⟩,λh=> ?_⟩
 .have:=c.2.at p.toNat;rw [H9 this.1];exact⟨rfl,rfl,Int.emod_nonneg _ ah,Or.inl (Int.emod_lt_of_pos _ ah)⟩
 .have hb0:(0:Int)<b.length:=by omega
  have i:=Int.emod_nonneg p (show(b.length:Int)≠0 by omega);have o:=Int.emod_lt_of_pos p hb0;have k3:=Int.emod_nonneg (p*7+3) (show(b.length:Int)≠0 by omega);have s:=Int.emod_lt_of_pos (p*7+3) hb0;have l:0<=p/b.length:=Int.ediv_nonneg f ah;have m:p/b.length<=p:=Int.ediv_le_self _ f;simp (disch:=omega) only [w64,H9,acJ];have j:=c.2.at (p%b.length).toNat;have t:=c.2.at ((p*7+3)%b.length).toNat;generalize (b.getD (p%b.length).toNat default)=u at j ⊢;generalize (b.getD ((p*7+3)%b.length).toNat default)=v at t ⊢;generalize p/b.length=w at l m ⊢;simp (disch:=omega) only [w64,H9,acJ];have q:=arC (a:=u*131+v*1117+p*29+w*53) (b:=(u*131+v*1117+p*29+w*53)/64) ah ah ah ah;rw [aat];generalize kr .xor .i64 (u*131+v*1117+p*29+w*53) ((u*131+v*1117+p*29+w*53)/64)=g at q ⊢;rw [H9 q.1];exact⟨e,i,o,e,k3,s,e,ah,ah,rfl,rfl,Int.emod_nonneg _ ah,Or.inl (Int.emod_lt_of_pos _ ah)⟩
abbrev Y38(c:Bp->Bool)(a:Bp->Bp):Prop:=∀n b p,Bt b->0<=p->p<1000000000->c (n,b,p,())=true/\Pk n b p (a (n,b,p,()))
def arE{p1 f1}(a:Y38 p1 f1)(n:Int)(b:List Int)(p:Int)(e:Bt b)(d:0<=p)(c:p<1000000000):VG.F (p1,f1,()) (n,b,p,()) (λy=>y.2.1=b/\y.2.2.1=p+1):=by
 obtain⟨f,g,_⟩:=(a n b p e d c).2;dsimp only [VG,gm];simp (disch:=omega) only [RR,(a n b p e d c).1,f,g]
def Wd(b:List Int)(p:Int)(y:Bp):Prop:=y.2.1=b/\p<=y.2.2.1/\y.2.2.1<=p+3/\(0<=y.1/\y.1<=65535)
def arF{p1 f1}(c:Y38 p1 f1)(b:List Int)(p:Int)(a:Bt b)(e:0<=p)(v:p<900000000):VL.F (p1,f1,()) (b,p,()) (λy=>Wd b p y):=by
 obtain⟨r,j,D,E⟩:=(c 4 b p a e ah).2;have m:∀n,p1 (n,b,p+1,())=true:=λn=>(c n b (p+1) a ah ah).1
 have o:∀n,p1 (n,b,p+1+1,())=true:=λn=>(c n b (p+1+1) a ah ah).1
 obtain⟨s,t,i,x⟩:=(c 9 b (p+1) a ah ah).2;obtain⟨g,q,w,B⟩:=(c 70 b (p+1) a ah ah).2;obtain⟨k,l,A,F⟩:=(c 256 b (p+1) a ah ah).2;obtain⟨h,f,u,C⟩:=(c 256 b (p+1+1) a ah ah).2;dsimp only [VL,gm];simp (disch:=omega) only [RR,(c 4 b p a e ah).1,m,o,r,j,s,t,g,q,k,l,h,f,length_cons,length_nil];refine⟨λ_=>⟨ah,ah,ah,ah,rfl,by dsimp only;omega,by dsimp only;omega,?_⟩,λ_=>⟨λ_=>⟨rfl,by dsimp only;omega,by dsimp only;omega,by dsimp only;omega⟩,λ_=>⟨rfl,by dsimp only;omega,by dsimp only;omega,?_⟩⟩⟩
 .dsimp only;have:=bV (d:=default) (xs:=[(0:Int),1,2,3,65535,32768,255,256,65534]) i (by simp only [length_cons,length_nil];omega);generalize getD [(0:Int),1,2,3,65535,32768,255,256,65534] _ default=z at this ⊢;simp at this;omega
 .dsimp only;omega
abbrev Y39(c:Bp->Bool)(a:Bp->Bool×eG):Prop:=∀n b p,Bt b->0<=p->p<1000000000->c (n,b,p,())=true/\(a (n,b,p,())).2.1=b/\(a (n,b,p,())).2.2.1=p+1
abbrev Y40(c:eG->Bool)(a:eG->Bp):Prop:=∀b p,Bt b->0<=p->p<900000000->c (b,p,())=true/\Wd b p (a (b,p,()))
abbrev Y41(c:bn->Bool)(a:bn->eG):Prop:=∀b,By b->b.length<1000000000->c (b,())=true/\Bt (a (b,())).1/\(a (b,())).2.1=0
def aav(n:Int)(t:List Atom):Prop:=(t.length:Int)=n/\All n (λi=>((t).getD (i).toNat default)=⟨1,i,[],[]⟩)
def arG{p2 f2}(e:Y28 p2 f2):YO.F (p2,f2,()) () (λy=>aav 4 y.1/\y.2.1.length=4/\∀p∈y.2.1,Sh p):=by
 dsimp only [YO,gm];simp (disch:=omega) only [RR,e];refine ay (λ(y:Int×List (List au)×mI)=>0<=y.1/\y.1<=4/\(y.2.1.length:Int)=y.1/\(∀p∈y.2.1,Sh p)/\aav y.1 y.2.2.1) (λy=>(4-y.1).toNat) ⟨by simp,by simp,by simp,by simp,by simp,All.zero⟩ ?_;rintro⟨(i:Int),(q:List (List au)),(t:List Atom),⟨⟩⟩ hI;dsimp only at hI ⊢;obtain⟨m,l,o,b,d,a⟩:=hI;simp (disch:=omega) only [RR,e,length_cons,length_nil];refine⟨λk=>⟨ah,ah,⟨ah,ah,by rw [length_append];simp only [length_cons,length_nil];omega,λp h=>(mem_append.1 h).elim (b p) (λg=>by rw [mem_singleton.1 g];exact(rE _).sh),by rw [length_append];simp only [length_cons,length_nil];omega,λj f r=> ?_⟩,ah⟩,λk=> ?_⟩
 .dsimp only;have n:((t++ [(⟨1,i,[],[]⟩:Atom)]).length:Int)=t.length+1:=by rw [length_append];rfl
  by_cases c:j<i
  .have:=a j f c;dsimp only at this;rw [getD_lt (show j.toNat<t.length by omega)]at this;rw [getD_lt (show j.toNat< (t++ [(⟨1,i,[],[]⟩:Atom)]).length by omega),getElem_append_left (show j.toNat<t.length by omega)];exact this
  .have:j=i:=by omega
   subst this;rw [getD_lt (show j.toNat< (t++ [(⟨1,j,[],[]⟩:Atom)]).length by omega),getElem_append_right ah];simp
 .rw [show i=4 by omega]at d a;exact⟨⟨d,a⟩,ah,b⟩
abbrev Y44(b:Unit->Bool)(a:Unit->List Atom×lX):Prop:=b ()=true/\(aav 4 (a ()).1/\(a ()).2.1.length=4/\∀p∈(a ()).2.1,Sh p)
variable{x:List au}
def DV{l o:List au}(h:aX o)(a:∀k,cf o k=cf l k%65536):wB l=(true,o):=by
 unfold wB;rw [acF h.nf a,aI h,if_pos rfl]
def J5(h:aX x):aX (lH x 65535)/\∀k,cf (lH x 65535) k=(65535*cf x k)%65536:=by
 have hc:∀(l:List au) k,cf (l.map λm=>(⟨m.bN*65535%65536,m.atoms⟩:au)) k%65536=(65535*cf l k)%65536:=λl k=>by
  induction l with
  | nil=>rfl
  | cons m l b=>rw [map_cons,cu,cu];dsimp only;split<;>omega
 have no:Nf (x.map λm=>(⟨m.bN*65535%65536,m.atoms⟩:au)):=⟨by
  rw [pairwise_map];exact h.nf.ss,λm hm=>by
  rw [mem_map]at hm;obtain⟨n,hn,rfl⟩:=hm;have:=h.nf.co n hn;dsimp only;omega⟩
 have ok:aX (x.map λm=>(⟨m.bN*65535%65536,m.atoms⟩:au)):=iU.2 ⟨no,by rw [length_map];exact h.len,λm hm=>by
  rw [mem_map]at hm;obtain⟨n,hn,rfl⟩:=hm;exact show n.atoms.length<=4/\aok n.atoms from h.aok hn⟩
 have a:prods x (aY 65535)=x.map λm=>(⟨m.bN*65535%65536,m.atoms⟩:au):=by
  unfold aY;rw [if_pos ah,AB];exact map_congr_left λm hm=>DU 65535 (h.aok hm).2
 have e:lH x 65535=x.map λm=>(⟨m.bN*65535%65536,m.atoms⟩:au):=by
  unfold lH sJ;rw [if_pos (by rw [aI h];rfl),if_pos (by rw [aI h,aI (dF _)];rfl),a,DV ok (λk=>by have:=no.bnd k;omega)]
 rw [e];exact⟨ok,λk=>by rw [<-hc];have:=no.bnd k;omega⟩
def sub_self(h:aX x):jK 2 x x=([],true):=by
 obtain⟨b,a⟩:=J5 h;unfold jK rC;rw [if_neg ah,if_pos rfl,if_pos (by rw [aI h,aI b];rfl),DV dx (λk=>by rw [cB,a,jy];omega)]
def wD(h:(dz x).2=true):aX x/\x=aY (dz x).1/\0<=(dz x).1/\(dz x).1<=65535:=by
 unfold dz at h ⊢;by_cases c:aX x
 .rw [aI c,if_pos rfl]at h ⊢;refine⟨c,?_⟩;by_cases b:x.length=0
  .rw [if_pos b];exact⟨by rw [eq_nil_of_length_eq_zero b];rfl,ah,ah⟩
  .rw [if_neg b]at h ⊢;by_cases a:x.length=1/\(x.getD 0 default).atoms.length=0
   .rw [if_pos a]
    match x,c,a with
    | [m],c,a=>
     have hc:=c.nf.co m (by simp);have d:m.atoms=[]:=eq_nil_of_length_eq_zero a.2;refine⟨?_,by show 0<=m.bN;omega,by show m.bN<=65535;omega⟩;show [m]=aY m.bN;unfold aY;rw [if_pos hc,<-d]
   .rw [if_neg a]at h;exact absurd h (by simp)
 .rw [aT c]at h;exact absurd h (by simp)
def rF{a:Int}(h:0<=a/\a<=65535)(k:List Int):cf (aY a) k=if []=k then a else 0:=by
 unfold aY;by_cases c:1<=a/\a<=65535
 .rw [if_pos c,cu,jy,Int.add_zero]
 .rw [if_neg c,jy];split<;>omega
def jf{a:Int}(h:0<=a/\a<=65535):dz (aY a)=(a,true):=by
 unfold dz;rw [aI (dF a),if_pos rfl];unfold aY;by_cases c:1<=a/\a<=65535
 .rw [if_pos c];rfl
 .rw [if_neg c,show a=0 by omega];rfl
def aaw{e a b:Int}(n:1<=e/\e<=5)(c:0<=a/\a<=65535)(d:0<=b/\b<=65535):jK e (aY a) (aY b)=(aY (wdo e a b),true):=by
 have hm:=HV c.1 c.2 d.1 d.2;unfold jK;by_cases h:e=1
 .subst h;have w:wdo 1 a b=(a+b)%65536:=by unfold wdo;rw [if_pos ⟨c,d⟩];rfl
  rw [if_pos rfl,w];unfold rC;rw [if_pos (by rw [aI (dF _),aI (dF _)];rfl),DV (dF ((a+b)%65536)) (λk=>by rw [cB,rF c,rF d,rF ah];split<;>omega)]
 .rw [if_neg h];by_cases f:e=2
  .subst f;have w:wdo 2 a b=(a-b)%65536:=by unfold wdo;rw [if_pos ⟨c,d⟩];rfl
   obtain⟨l,j⟩:=J5 (dF b);rw [if_pos rfl,w];unfold rC;rw [if_pos (by rw [aI (dF _),aI l];rfl),DV (dF ((a-b)%65536)) (λk=>by rw [cB,rF c,j,rF d,rF ah];split<;>omega)]
  .rw [if_neg f];by_cases g:e=3
   .subst g;have w:wdo 3 a b=(a*b)%65536:=by unfold wdo;rw [if_pos ⟨c,d⟩];rfl
    rw [if_pos rfl,w];unfold sJ;rw [if_pos (by rw [aI (dF _),aI (dF _)];rfl),DV (dF ((a*b)%65536)) (λk=> ?_)];rw [rF ah];by_cases i:1<=a
    .by_cases p2:1<=b
     .have e1:aY a=[⟨a,[]⟩]:=by unfold aY;rw [if_pos ⟨i,c.2⟩]
      have m:aY b=[⟨b,[]⟩]:=by unfold aY;rw [if_pos ⟨p2,d.2⟩]
      rw [e1,m,AB,map_cons,map_nil,DU b ⟨Pairwise.nil,λk hk=>absurd hk (by simp)⟩,cu,jy];dsimp only;split<;>omega
     .have e0:b=0:=by omega
      subst e0;rw [show prods (aY a) (aY 0)=[] by simp [prods,aY],jy];split<;>simp
    .have e0:a=0:=by omega
     subst e0;rw [show prods (aY 0) (aY b)=[] by simp [prods,aY],jy];split<;>simp
   .rw [if_neg g,acG,jf c,jf d];rfl
end Go.TX.F
namespace Go.TX.F
open Go Go.AE Go.TX List
abbrev Y47(b:Unit->Bool)(a:Unit->fA):Prop:=b ()=true/\a ()=(true,())
end Go.TX.F
