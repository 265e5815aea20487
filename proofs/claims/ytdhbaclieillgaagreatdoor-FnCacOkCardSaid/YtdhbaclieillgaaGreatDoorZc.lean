/- Part 3 of a proof: what the last part needs. No condition. -/
import Derived.Test.YtdhbaclieillgaaGreatDoorZb
import Derived.Test.YtdhbaclieillgaaGreatDoorProg
import Derived.KernelRfl
set_option maxHeartbeats 1000000
set_option linter.all false
set_option linter.unusedSectionVars false
set_option linter.unusedVariables false
set_option linter.unusedSimpArgs false
namespace Go.TX
open Go Go.AE List
structure FM{ρ:Type}(m:(ρ->Prop)->Prop):Prop where
 mono:∀Q Q':ρ->Prop,(∀y,Q y->Q' y)->m Q->m Q'
 one:∀Q:ρ->Prop,m Q->∃y,Q y/\m (λz=>z=y)
 two:∀Q Q':ρ->Prop,m Q->m Q'->∃y,Q y/\Q' y
section
variable {n:Nat} {ρ:Type}
theorem FM.fail:FM (λ_:ρ->Prop=>False):=⟨λ_ _ _ h=>h,λ_ h=>h.elim,λ_ _ h=>h.elim⟩
theorem FM.ret(t:ρ):FM (λQ:ρ->Prop=>Q t):=⟨λ_ _ h a=>h _ a,λ_ a=>⟨t,a,rfl⟩,λ_ _ h g=>⟨t,h,g⟩⟩
theorem FM.bind{α:Type}{m:(α->Prop)->Prop}{k:α->(ρ->Prop)->Prop}(hm:FM m)(hk:∀t,FM (k t)):FM (λQ=>m λt=>k t Q):=
 ⟨λQ d h c=>hm.mono _ _ (λt i=>(hk t).mono _ _ h i) c,λQ c=>by
  obtain⟨t,b,a⟩:=hm.one _ c;obtain⟨y,j,f⟩:=(hk t).one _ b;exact⟨y,j,hm.mono _ _ (λl e=>by subst e;exact f) a⟩,λQ d h g=>by
  obtain⟨t,b,a⟩:=hm.two _ _ h g;exact(hk t).two _ _ b a⟩
theorem FM.wD{α:Type}{m:(α ⊕ ρ->Prop)->Prop}{k:α->(ρ->Prop)->Prop}(hm:FM m)(hk:∀t,FM (k t)):FM (λQ=>m (Ed k Q)):=
 ⟨λQ i h c=>hm.mono _ _ (λt d=>by
  cases t with
  | inl x=>exact(hk x).mono _ _ h d
  | inr r=>exact h _ d) c,λQ c=>by
  obtain⟨t,b,a⟩:=hm.one _ c;cases t with
  | inl x=>
   obtain⟨y,f,j⟩:=(hk x).one _ b;exact⟨y,f,hm.mono _ _ (λl e=>by subst e;exact j) a⟩
  | inr r=>exact⟨r,b,hm.mono _ _ (λl e=>by subst e;rfl) a⟩,λQ i h g=>by
  obtain⟨t,b,a⟩:=hm.two _ _ h g;cases t with
  | inl x=>exact(hk x).two _ _ b a
  | inr r=>exact⟨r,b,a⟩⟩
theorem FM.itW{α:Type}{f:α->(α ⊕ ρ->Prop)->Prop}(a:∀x,FM (f x)):∀(N:Nat) (x:α),FM (TX.itW N f x)
 | 0,x=>by simp_all [TX.itW,fail]
 | N+1,x=>by
  have e:TX.itW (N+1) f x=λQ=>f x (Ed (TX.itW N f) Q):=by funext Q;rw [TX.itW]
  rw [e];exact .wD (a x) (FM.itW a N)
theorem CP{α:Type}{k b:α->(ρ->Prop)->Prop}{Q a:ρ->Prop}(hk:∀x,k x Q->b x a)(c:∀y,Q y->a y):∀s,Ed k Q s->Ed b a s
 | .inl x=>hk x
 | .inr r=>c r
theorem Rs{α:Type}{f:α->(α ⊕ ρ->Prop)->Prop}(a:∀x,FM (f x)){Q:ρ->Prop}:∀ {N M:Nat} {x:α},N<=M->TX.itW N f x Q->TX.itW M f x Q
 | 0,_,_,_,h=>by grind [TX.itW]
 | N+1,0,_,h,_=>absurd h ah
 | N+1,M+1,x,h,g=>by
  rw [TX.itW]at g ⊢;exact(a x).mono _ _ (CP (λy k=>Rs a ah k) (λ_ k=>k)) g
theorem Gy{α:Type}{f:α->(α ⊕ ρ->Prop)->Prop}(a:∀x,FM (f x)){x:α}{Q:ρ->Prop}(h:Zh f x Q):∃r,Q r/\∃N,TX.itW N f x (λz=>z=r):=by
 obtain⟨I,μ,k,i⟩:=h;have c:∀(n:Nat) (y:α),μ y<n->I y->∃r,Q r/\∃N,TX.itW N f y (λz=>z=r):=by
  intro n
  induction n with
  | zero=>intro y h;omega
  | succ n l=>
   intro y o j;obtain⟨s,b,d⟩:=(a y).one _ (i y j);cases s with
   | inl z=>
    obtain⟨r,m,N,g⟩:=l z (by have:=b.2;omega) b.1;refine⟨r,m,N+1,?_⟩;rw [TX.itW];exact(a y).mono _ _ (λs e=>by subst e;exact g) d
   | inr r=>
    refine⟨r,b,1,?_⟩;rw [TX.itW];exact(a y).mono _ _ (λs e=>by subst e;rfl) d
 exact c _ x (Nat.lt_succ_self _) k
theorem FM.iter{α:Type}{f:α->(α ⊕ ρ->Prop)->Prop}(a:∀x,FM (f x))(x:α):FM (λQ=>Zh f x Q):=by
 refine⟨λQ o h ⟨I,μ,p,l⟩=>⟨I,μ,p,λy e=>(a y).mono _ _ (CP (λ_ h=>h) h) (l y e)⟩,λQ h=> ?_,λQ o h g=> ?_⟩
 rotate_left
 .obtain⟨r,i,N,d⟩:=Gy a h;obtain⟨t,q,M,n⟩:=Gy a g;obtain⟨z,rfl,rfl⟩:=(FM.itW a (max N M) x).two _ _ (Rs a (Nat.le_max_left ..) d) (Rs a (Nat.le_max_right ..) n);exact⟨_,i,q⟩
 obtain⟨r,i,N,d⟩:=Gy a h;refine⟨r,i,?_⟩;have b:∀y,(∃N,TX.itW N f y (λz=>z=r))->∃N,TX.itW N f y (λz=>z=r)/\∀M,M<N->¬TX.itW M f y (λz=>z=r):=by
  intro y ⟨N,m⟩
  induction N using Nat.strongRecOn with
  | ind N u=>grind
 have c:∀y,∃N,(∃N,TX.itW N f y (λz=>z=r))->TX.itW N f y (λz=>z=r)/\∀M,M<N->¬TX.itW M f y (λz=>z=r):=λy=>by
  by_cases h:∃N,TX.itW N f y (λz=>z=r)
  .obtain⟨N,m⟩:=b y h;grind
  simp_all
 obtain⟨ν,hν⟩:=Classical.axiomOfChoice c;refine⟨λy=>∃N,TX.itW N f y (λz=>z=r),ν,⟨N,d⟩,λy e=> ?_⟩;obtain⟨j,s⟩:=hν y e;cases hn:ν y with
 | zero=>grind [TX.itW]
 | succ k=>
  rw [hn]at j;rw [TX.itW]at j;refine(a y).mono _ _ (CP (λz v=> ?_) (λ_ h=>h)) j
  grind
theorem FM.chk{b:Bool}{m:(ρ->Prop)->Prop}(h:FM m):FM (λQ=>b=true/\m Q):=
 ⟨λ_ _ g ⟨a,c⟩=>⟨a,h.mono _ _ g c⟩,λ_ ⟨a,c⟩=>let⟨y,f,e⟩:=h.one _ c;⟨y,f,a,e⟩,λ_ _ ⟨_,c⟩ ⟨_,d⟩=>h.two _ _ c d⟩
theorem FM.ig{m:(ρ->Prop)->Prop}(h:FM m):∀(ps:List Bool),FM (TX.ig (std n) ps m)
 | []=>h
 | _::ps=> .chk (FM.ig h ps)
theorem FM.cond{b:Bool}{x y:(ρ->Prop)->Prop}(d:FM x)(e:FM y):FM (λQ=>(b=true->x Q)/\(b=false->y Q)):=
 ⟨λ_ _ f ⟨a,c⟩=>⟨λh=>d.mono _ _ f (a h),λh=>e.mono _ _ f (c h)⟩,λ_ ⟨a,c⟩=>by
  cases b with
  | true=>obtain⟨y,k,j⟩:=d.one _ (a rfl);grind
  | false=>obtain⟨y,k,j⟩:=e.one _ (c rfl);grind,λ_ _ ⟨a,c⟩ ⟨g,i⟩=>by
  cases b with
  | true=>exact d.two _ _ (a rfl) (g rfl)
  | false=>exact e.two _ _ (c rfl) (i rfl)⟩
theorem FM.bind'{a:List LTy}{m:(iQ a->Prop)->Prop}{k:iQ a->(ρ->Prop)->Prop}(hm:FM m)(hk:∀t,FM (k t)):FM ((std n).bind a m k):=by simp_all [FM.bind]
theorem FM.alD{a:List LTy}{m:(iQ a ⊕ ρ->Prop)->Prop}{k:iQ a->(ρ->Prop)->Prop}(hm:FM m)(hk:∀t,FM (k t)):FM ((std n).wD a m k):=by simp_all [FM.wD]
theorem FM.inl'{a:List LTy}(t:iQ a):FM ((std n).inl (ρ:=ρ) a t):=FM.ret _
theorem FM.inr'{a:List LTy}{m:(ρ->Prop)->Prop}(h:FM m):FM ((std n).inr (ρ:=ρ) a m):=by simp_all [FM.bind,iQ,FM.ret]
theorem FM.iter'{a:List LTy}{f:iQ a->(iQ a ⊕ ρ->Prop)->Prop}(b:∀x,FM (f x))(x:iQ a):FM ((std n).iter a f x):=FM.iter b x
theorem FM.ret'{a:List LTy}(t:iQ a):FM ((std n).ret a t):=FM.ret t
theorem FM.use{c:CR (std n)}{K:SVal->List aN->(ρ->Prop)->Prop}(h:∀v k,FM (K v k)):FM (uK (std n) c K):=by
 obtain⟨f,d,y,k,e,p⟩:=c;unfold uK;cases d with
 | nil=>grind [fail]
 | cons a b=>grind [fail]
end
theorem wQ:∀(a:List LTy),Nonempty (iQ a)
 | []=>⟨()⟩
 | t::r=>by
  obtain⟨y⟩:=wQ r;have x:Nonempty (LT aF t):=by
   cases t with
   | i=>exact⟨(0:Int)⟩
   | b=>exact⟨false⟩
   | s=>exact⟨(default:ByteArray)⟩
   | l c=>exact⟨([]:List c.den)⟩
   | x c=>exact⟨(default:c.den)⟩
  obtain⟨x⟩:=x;exact⟨(x,y)⟩
noncomputable def cn {s:Sig} (F:iQ s.inp->(iQ s.out->Prop)->Prop):Ct aF s:=
 {pre:=λx=> @decide (∃y,F x λz=>z=y) (Classical.propDecidable _)
  fn:=λx=> @Classical.epsilon _ (wQ _) λy=>F x λz=>z=y}
structure Fn(E:Tab)(f:FuncId){s:Sig}(F:iQ s.inp->(iQ s.out->Prop)->Prop)(c:Ct aF s):Prop where
 e:c=cn F
 fm:∀x,FM (F x)
 ok:dP E f (dL c)
theorem Fn.cs{E:Tab}{f:FuncId}{s:Sig}{F:iQ s.inp->(iQ s.out->Prop)->Prop}{c:Ct aF s}(h:Fn E f F c){x:iQ s.inp}{Q:iQ s.out->Prop}(g:F x Q):c.pre x=true/\Q (c.fn x):=by
 rw [h.e];obtain⟨y,b,a⟩:=(h.fm x).one _ g;have e:∃y,F x λz=>z=y:=⟨y,a⟩
 refine⟨by grind [cn,decide_eq_true,Classical.propDecidable],?_⟩;obtain⟨z,i,d⟩:=(h.fm x).two _ _ g (@Classical.epsilon_spec _ (λy=>F x λz=>z=y) e)
 grind [cn]
variable [aB]
section
variable {n:Nat} {ρ:Type}
theorem FM.region{X:XT}{C:Calls aF}{ops:List Oper}{K:RSt (std n)->(ρ->Prop)->Prop}(hK:∀s,FM (K s)):∀(a:List Oper) (s:RSt (std n)),FM (fF (std n) X C ops a K s)
 | [],s=>by unfold fF;exact hK s
 | o::a,s=>by
  have b:=FM.region (X:=X) (C:=C) (ops:=ops) hK a;unfold fF;split
  .split
   .split
    .split
     .refine FM.ig ?_ _;rw [EH];exact b _
     .exact .fail
    .split
     .exact FM.ig (FM.use λv k=>b _) _
     .exact .fail
   .split
    .split
     .exact b _
     .split
      .split
       .exact FM.ig (b _) _
       .exact .fail
      .split
       .split
        .exact FM.ig (FM.use λv k=>b _) _
        .exact .cond (FM.ig (FM.use λv k=>b _) _) (b _)
       .exact .fail
     .exact .fail
    .exact .fail
  .exact .fail
theorem FM.draw{X:XT}{C:Calls aF}{ops:List Oper}{K:RSt (std n)->(ρ->Prop)->Prop}(hK:∀s,FM (K s)):∀(b:List fM) (c:List (Nat×List Nat)) (s:RSt (std n)),FM (jr (std n) X C ops b c K s)
 | [],c,s=>by unfold jr;exact hK s
 | (i,rs,cs)::b,c,s=>by
  have a:=FM.draw (X:=X) (C:=C) (ops:=ops) hK b;unfold jr;split
  .exact .fail
  .split
   .simp only;split
    .split
     .exact .fail
     .split
      .split
       .refine FM.ig ?_ _;rw [EH];exact a _ _
       .exact .fail
      .split
       .split
        .exact a _ _
        .split
         .exact FM.ig (a _ _) _
         .exact .fail
        .exact .fail
       .exact .fail
    .split
     .exact FM.ig (a _ _) _
     .exact a _ _
     .exact .fail
    .split
     .exact FM.ig (a _ _) _
     .exact .fail
    .split
     .split
      .split
       .exact FM.ig (FM.use λv k=>a _ _) _
       .exact .fail
      .exact .fail
     .split
      .split
       .exact a _ _
       .split
        .split
         .split
          .exact FM.ig (FM.use λv k=>a _ _) _
          .exact .cond (FM.ig (FM.use λv k=>a _ _) _) (a _ _)
         .exact .fail
        .exact .fail
       .exact .fail
      .exact .fail
   .exact .fail
theorem FM.cut{k:Nat}{c:eO}{d:Bool}{s:RSt (std n)}{K:Exit->RSt (std n)->(ρ->Prop)->Prop}(hK:∀e s,FM (K e s)){W: {σ:Type}->(Exit->RSt (std n)->(σ->Prop)->Prop)->(σ->Prop)->Prop}
  (a:∀ {σ:Type} {b:Exit->RSt (std n)->(σ->Prop)->Prop},(∀e s,FM (b e s))->FM (W b)):FM (Rc (std n) k c d s K W):=by
 unfold Rc;split
 .refine FM.bind' (a λe s=> ?_) (λt=>hK _ _);split
  .split
   .exact FM.ig (FM.ret' _) _
   .exact .fail
  .exact .fail
 .refine FM.alD (a λe s=> ?_) (λt=>hK _ _);split
  .split
   .exact FM.ig (FM.inl' _) _
   .exact .fail
  .exact FM.inr' (hK _ _)
theorem FM.reg{X:XT}{C:Calls aF}{b:Nat->List fM}{chk:Nat->Array Oper->Nat->Bool}{id:Nat}{a:Array Oper}{draw:Bool}{s:RSt (std n)}{K:Exit->RSt (std n)->(ρ->Prop)->Prop}(hK:∀e s,FM (K e s)):
 FM ((if draw then(if chk id a s.m then jr (std n) X C a.toList (b id) [] (λs=>K .normal s) s else(std n).fail)else fF (std n) X C a.toList a.toList (λs=>K .normal s) s:(std n).M ρ)):=by grind [FM.draw,fail,FM.region]
end
theorem FM.exec{n:Nat}{X:XT}{C:Calls aF}{m:Nat->List fM}{chk:Nat->Array Oper->Nat->Bool}{k:Nat}:∀(q:Code) {ρ:Type} (d:Ann) (s:RSt (std n)) (K:Exit->RSt (std n)->(ρ->Prop)->Prop),(∀e s,FM (K e s))->FM (bN (std n) X C m chk k d q s K)
  | .skip,ρ,d,s,K,hK=>by cases d<;>exact hK _ _
  | .region id ops draw,ρ,d,s,K,hK=>by
    simp only [bN];split
    · exact FM.cut hK λf=>FM.reg f
    · exact FM.reg hK
  | .seq x y,ρ,d,s,K,hK=>by
    have c:∀j r (l:Exit->RSt (std n)->(ρ->Prop)->Prop),(∀a,l .normal a=bN (std n) X C m chk k r y a K)->(∀e a,e≠ .normal->l e a=K e a)->FM (bN (std n) X C m chk k j x s l):=by
      intro j r l t v;refine FM.exec x j s l λe a=> ?_
      by_cases p:e= .normal
      · subst p;rw [t];exact FM.exec y r a K hK
      · rw [v e a p];exact hK _ _
    cases d with
    | seq j r=>rw [bN];exact c j r _ (λ_=>rfl) (λe a p=>by cases e<;>first | rfl | exact absurd rfl p)
    | u=>rw [bN];exact c .u .u _ (λ_=>rfl) (λe a p=>by cases e<;>first | rfl | exact absurd rfl p)
    | _=>simp only [bN];exact .fail
  | .cond cd x y,ρ,d,s,K,hK=>by
    simp only [bN];split
    · split
      · exact .cond (FM.exec x _ s K hK) (FM.exec y _ s K hK)
      · exact .cond (FM.exec x _ s K hK) (FM.exec y _ s K hK)
      · exact FM.cut hK λf=> .cond (FM.exec x _ s _ f) (FM.exec y _ s _ f)
      · exact .fail
    · exact .fail
  | .block id b,ρ,d,s,K,hK=>by
    have c:∀ {σ:Type} {g:Exit->RSt (std n)->(σ->Prop)->Prop},(∀e s,FM (g e s))->∀j (l:Exit->RSt (std n)->(σ->Prop)->Prop),(∀e a,l e a=g e a\/l e a=g .normal a)->FM (bN (std n) X C m chk k j b s l):=by
      intro σ g f j l t;refine FM.exec b j s l λe a=> ?_
      rcases t e a with h | h<;>rw [h]<;>exact f _ _
    have o:∀ {σ:Type} {g:Exit->RSt (std n)->(σ->Prop)->Prop} (e:Exit) (a:RSt (std n)),(match e with | .exit i=>if i==id then g .normal a else g (.exit i) a | e=>g e a:(std n).M σ)=g e a\/(match e with | .exit i=>if i==id then g .normal a else g (.exit i) a | e=>g e a:(std n).M σ)=g .normal a:=by
      intro σ g e a;cases e with
      | exit i => simp only; split
                  · exact .inr rfl
                  · exact .inl rfl
      | _=>exact .inl rfl
    simp only [bN];split
    · exact c hK _ _ o
    · exact c hK _ _ o
    · exact FM.cut hK λf=>c f _ _ o
    · exact .fail
  | .loop b,ρ,d,s,K,hK=>by
    cases d with
    | loop w j=>
      rw [bN];split
      · refine FM.ig (FM.iter' (λx=>FM.exec b j _ _ λe a=> ?_) _) _;split
        · split
          · exact FM.ig (FM.inl' _) _
          · exact .fail
        · exact FM.inr' (hK _ _)
      · exact .fail
    | _=>simp only [bN];exact .fail
  | .exit i,ρ,d,s,K,hK=>by cases d<;>exact hK _ _
  | .ret,ρ,d,s,K,hK=>by cases d<;>exact hK _ _
  | .rangeFunc ..,ρ,d,s,K,hK=>by grind [bN,fail]
  | .scope _,ρ,d,s,K,hK=>by grind [bN,fail]
  | .label _,ρ,d,s,K,hK=>by grind [bN,fail]
  | .goto _,ρ,d,s,K,hK=>by grind [bN,fail]
  | .refuse _,ρ,d,s,K,hK=>by grind [bN,fail]
theorem FM.run{n:Nat}{X:XT}{C:Calls aF}{ord:Nat->List fM}{chk:Nat->Array Oper->Nat->Bool}{an:Ann}{b:Sig}{c:Func}{a:Code}(x:iQ b.inp):FM (rZ (std n) X C ord chk an b c a x):=by
 unfold rZ;split
 .exact .fail
 .split
  .split
   .refine FM.exec a an _ _ λe s=> ?_
    have d:FM (aaQ (std n) X b c s):=by
     unfold aaQ;split
     .split
      .split
       .split
        .split
         .exact FM.ig (FM.ret' _) _
         .exact .fail
        .exact .fail
       .exact .fail
      .exact .fail
     .exact .fail
    grind [fail]
   .exact .fail
  .exact .fail
def ofL(C:Car)(l:List (FuncId×Sigma (Ct C))):Calls C:=λf=>(l.filter λp=>p.1==f).map (·.2)
def aa0(l:List (Nat×List fM))(i:Nat):List fM:=match l.find? λp=>p.1==i with | some p=>p.2 | none=> []
def aiJ(E:Tab)(l:List (Nat×List fM))(id:Nat)(a:Array Oper)(m:Nat):Bool:=Lr a.toList (aa0 l id)&&AU E m a.toList&&Lu E.P a.toList
theorem aiK{E:Tab}{l:List (Nat×List fM)}:∀id a m,aiJ E l id a m=true->Static E (aa0 l) id a m:=λ_ _ _ h=>h
theorem alE{E:Tab}{l:List (FuncId×Sigma (Ct aF))}(h:∀p∈l,dP E p.1 (dL p.2.2)):qY E (lZ (ofL aF l)):=by
 intro f R e;unfold lZ at e;split at e
 .cases e
 .cases e;rename_i g;have b:∀c∈ofL aF l f,dP E f (dL c.2):=λc a=>by
   obtain⟨p,i,rfl⟩:=mem_map.1 a
   grind
  obtain⟨c,a⟩:=exists_mem_of_ne_nil _ g;exact⟨(b c a).enters,λd h n K ⟨c,a,hk⟩=>(b c a).calls d h n K hk⟩
def Ru(X:XT)(E:Tab)(A:Alg)(ord:List (Nat×List fM))(an:Ann)(s:Sig)(a:Func)(l:List (FuncId×Sigma (Ct A.aA)))(F:Tup A.aA s.inp->A.M (Tup A.aA s.out)):Prop:=
 ∀x,rZ A X (ofL A.aA l) (aa0 ord) (aiJ E ord) an s a (a.body.getD .skip) x=F x
section
variable {X:XT} {E:Tab} (hE:aI E) (hX:XOK X E) (hm:E.P.follows .mixedOrders=true)
include hE hX hm
theorem auA{f:FuncId}{b:Func}(m:E.P.funcs[f]? =some b)(h:b.body.isSome=true)(e:∀c,b.body=some c->Enters E.P f){l:List (FuncId×Sigma (Ct aF))}(n:∀p∈l,dP E p.1 (dL p.2.2)){ord:List (Nat×List fM)}{g:Sig}{an:Ann}
  {F:iQ g.inp->(iQ g.out->Prop)->Prop} (d:Ru X E (std 0) ord an g b l F):Fn E f F (cn F):=by
 obtain⟨a,h⟩:=Option.isSome_iff_exists.1 h;have j:∀x,rZ (std 0) X (ofL aF l) (aa0 ord) (aiJ E ord) an g b a x=F x:=λx=>by have:=d x;simp_all
 have i:∀x,FM (F x):=λx=>by rw [<-j x];exact FM.run x
 refine⟨rfl,i,aq9 hE hX (alE n) hm (ord:=aa0 ord) (chk:=aiJ E ord) aiK m h (e _ h) (an:=an) (λx k=> ?_)⟩;rw [j x];simp only [cn]at k;exact @Classical.epsilon_spec _ (λy=>F x λz=>z=y) (@of_decide_eq_true _ (Classical.propDecidable _) k)
end
abbrev aB.z : aB := ⟨[], []⟩
abbrev Tup.q{C : Car}{a b c d : LTy}{ts : List LTy}(x : Tup C (a :: b :: c :: d :: ts)) : Tup C ts := x.2.2.2.2
abbrev Tup.o{C : Car}{a b c d e f g h : LTy}{i : List LTy}(x : Tup C (a :: b :: c :: d :: e :: f :: g :: h :: i)) : Tup C i := x.2.2.2.2.2.2.2.2
abbrev Pt(A : Alg)(s : Sig) : Type := Tup A.aA s.inp -> A.B
abbrev Ft(A : Alg)(s : Sig) : Type := Tup A.aA s.inp -> Tup A.aA s.out
abbrev Ot(A : Alg)(s : Sig) : Type := A.M (Tup A.aA s.out)
structure Al(A:Alg) where
 n:Int->A.I
 z:A.I
 u:A.I
 T:A.B
 F:A.B
 e:A.I->A.I->A.B
 d:A.I->A.I->A.B
 l:A.I->A.I->A.B
 m:A.I->A.I->A.B
 g:A.I->A.I->A.B
 h:A.I->A.I->A.B
 p:A.I->A.I->A.I
 q:A.I->A.I->A.I
 t:A.I->A.I->A.I
 i: {ρ:Type}->A.I->(Tup A.aA [.i]->A.M ρ)->A.M ρ
 b: {ρ:Type}->A.B->(Tup A.aA [.b]->A.M ρ)->A.M ρ
 s: {ρ:Type}->(t:LTy)->LT A.aA t->(Tup A.aA [t]->A.M ρ)->A.M ρ
 j: {ρ:Type}->{i o:List LTy}->(Tup A.aA i->A.B)->(Tup A.aA i->Tup A.aA o)->Tup A.aA i->(Tup A.aA o->A.M ρ)->A.M ρ
 k: {ρ:Type}->{i o:List LTy}->A.B->(Tup A.aA i->A.B)->(Tup A.aA i->Tup A.aA o)->Tup A.aA i->(Tup A.aA o->A.M ρ)->A.M ρ
 v:A.B->A.M (Tup A.aA [.b])
 w: {ρ:Type}->(c:Co)->A.L c->A.I->A.M ρ->A.M ρ
 c: {ρ:Type}->A.B->A.M ρ->A.M ρ->A.M ρ
 C: {ρ:Type}->A.B->A.M ρ->A.M ρ
 r: {ts:List LTy}->Tup A.aA ts->A.M (Tup A.aA ts)
 L: {ρ:Type}->{ts:List LTy}->Tup A.aA ts->A.M (Sum (Tup A.aA ts) ρ)
 R: {ρ:Type}->{ts:List LTy}->A.M ρ->A.M (Sum (Tup A.aA ts) ρ)
 I: {ρ:Type}->(ts:List LTy)->(Tup A.aA ts->A.M (Sum (Tup A.aA ts) ρ))->Tup A.aA ts->A.M ρ
 f:(c:Co)->Nat->A.X c->A.I
 D:(c:Co)->Nat->(c':Co)->A.X c->A.L c'
 x:(c:Co)->Tup A.aA c.rX->A.X c
 y:(c:Co)->A.L c->A.I
 o:(c:Co)->A.L c->A.I->A.X c
 a:A.B->A.B->A.B->A.B
 N:A.B->A.B
 O:A.B->A.B->A.B
abbrev Alg.al(A : Alg) : Al A where
 n:=A.lit
 z:=A.lit 0
 u:=A.lit 1
 T:=A.bl true
 F:=A.bl false
 e:=A.cmp .eql
 d:=A.cmp .neq
 l:=A.cmp .lss
 m:=A.cmp .leq
 g:=A.cmp .gtr
 h:=A.cmp .geq
 p:=A.arith .add .i64
 q:=A.arith .sub .i64
 t:=A.arith .mul .i64
 i:=λv k=>A.vE [.i] (v,()) k
 b:=λv k=>A.vE [.b] (v,()) k
 s:=λt v k=>A.vE [t] (v,()) k
 j:=λp f a k=>A.chk (p a) (A.vE _ (f a) k)
 k:=λb p f a k=>A.chk (A.orB (A.zS b) (p a)) (A.vE _ (f a) k)
 v:=λv=>A.vE [.b] (v,()) λx=>A.ret [.b] (x.1,())
 w:=λc l i m=>A.chk (A.cmp .leq (A.lit 0) i) (A.chk (A.cmp .lss i (A.len c l)) m)
 c:=A.cond
 C:=A.chk
 r:=A.ret _
 L:=A.inl _
 R:=A.inr _
 I:=A.iter
 f:=A.fI
 D:=A.fL
 x:=A.mkX
 y:=A.len
 o:=A.get
 a:=A.Lx
 N:=A.zS
 O:=A.orB
abbrev SkC.i : SkC := .int .i64
abbrev SkV.i : SkV := .c (.int .i64)
abbrev SkV.b : SkV := .c .bool
abbrev SkV.p(l s : Nat) : SkV := .c (.pb l s 0)
abbrev SkV.o(l : Nat) : SkV := .c (.own l)
abbrev SkV.r(f : Bool)(c : Co) : SkV := .c (.rows f c)
abbrev SkO.g(l : List SkC) : SkO := .box (.agg l)
abbrev SkO.s(f : Bool)(c : Co) : SkO := .box (.sv f c)
abbrev Ann.v(a : Ann) : Ann := .seq .u a
end Go.TX
namespace Go.TX
open Go Go.AE List
section
variable [aB]
def tmps(l:List Operand):List Nat:=l.filterMap λ| .tmp t=>some t | _=>none
def opT(d:List Oper)(o:Oper):List Nat:=
 (match o.op with
 | .build _ e | .buildSlice _ _ e=>tmps (e.toList.map (·.2))
 | .slice _ x a b c=>tmps (x::(a.toList++b.toList++c.toList))
 | .makeFunc _ a b=>tmps (a.toList++b.toList)
 | .call c=>tmps c.operands.toList
 | .lookup _ a v _=>tmps [a,v]++(nu d).map (·.2)
 | op=>tmps op.operands.toList)++(match o.guard with | some (j,_)=>(gslot d j).toList | none=> [])
def acp(b:List Oper)(m:List Nat)(e:Nat):Nat->Nat->List fM->List fM
 | 0,_,out=>out
 | k+1,dn,out=>
  let g (i:Nat):Nat:=match b[i]? with | some o=>abF [] o.after.toList | none=>0
  let c (i q:Nat):Bool:= !dn.testBit i&& (g i&&&q)==g i
  let f (i:Nat):List Nat:=match b[i]? with | some o=>opT b o | none=> []
  let n:=range b.length
  match n.find? λi=>Nat.ble (bB b i) 1&&c i (n.foldl (λd j=>if e.testBit j&& !(match gslot b j with | some x=>(f i).contains x | none=>false)then d ||| 2^j else d) dn)with
  | some i=>acp b m e k (dn ||| 2^i) (out++ [(i,f i,[])])
  | none=>match n.find? λi=>bB b i==3&&c i (dn ||| e)with
   | some i=>
    let a:=n.filter λj=>bB b j==2&& !dn.testBit j&& (m.getD i 0).testBit j
    acp b m e k (a.foldl (λd j=>d ||| 2^j) dn ||| 2^i) (out++a.map (λj=>(j,[],[]))++ [(i,f i,(out.filter λp=>loadAt b p.1&& !lN m i p.1).map (·.1))])
   | none=>out++(n.filter λj=> !dn.testBit j).map (λj=>(j,[],[]))
def arn(a:List Oper):List fM:=acp a (masks a) ((range a.length).foldl (λd i=>if bB a i==2 then d ||| 2^i else d) 0) (a.length+1) 0 []
def aiL:Code->List (Nat×List fM)
 | .region id c true=> [(id,arn c.toList)]
 | .seq a b | .cond _ a b=>aiL a++aiL b
 | .block _ b | .loop b=>aiL b
 | _=> []
def alF(f:Func):List (Nat×List fM):=aiL (f.body.getD .skip)
end
inductive Ex where
 | v (n j:Nat) | ln (n:Nat) | lz (n:Nat) | bl (b:Bool) | st (s:ByteArray)
 | ar (op:BinOp) (k:IntKind) (x y:Ex) | cm (op:BinOp) (x y:Ex) | addN (x y:Ex) | OB (x y:Ex) | neg (k:IntKind) (x:Ex) | conv (k:IntKind) (x:Ex) | QV (x y:Ex) | kC (x y:Ex)
 | zS (x:Ex) | OC (x y:Ex) | orB (x y:Ex) | eqB (x y:Ex) | eqS (x y:Ex) | QW (x:Ex)
 | QX (b x y:Ex) | Lx (b x y:Ex) | QY (b:Ex) (c:Co) (x y:Ex) | aaO (b:Ex) (c:Co) (x y:Ex)
 | len (c:Co) (x:Ex) | FX (c:Co) | get (c:Co) (x i:Ex) | set (c:Co) (x i y:Ex) | app (c:Co) (x y:Ex) | sub (c:Co) (x i j:Ex) | rep (c:Co) (n x:Ex) | lst (c:Co) (xs:List Ex) | glob (n:Nat) (c:Co)
 | fI (c:Co) (j:Nat) (x:Ex) | fB (c:Co) (j:Nat) (x:Ex) | fS (c:Co) (j:Nat) (x:Ex) | fL (c:Co) (j:Nat) (c':Co) (x:Ex) | mkX (c:Co) (ts:List LTy) (t:List Ex) | eqX (c:Co) (x y:Ex)
 | cp (i:Nat) (ts:List LTy) (t:List Ex) | cf (i:Nat) (ts:List LTy) (t:List Ex) (j:Nat)
inductive Pg where
 | ret (ts:List LTy) (t:List Ex) | vE (ts:List LTy) (t:List Ex) (k:Pg) | aro (i:Nat) (ts:List LTy) (t:List Ex) (k:Pg) | fail | chk (b:Ex) (m:Pg) | cond (b:Ex) (x y:Pg) | bind (ts:List LTy) (m k:Pg) | wD (ts:List LTy) (m k:Pg)
 | inl (ts:List LTy) (t:List Ex) | inr (ts:List LTy) (m:Pg) | iter (ts:List LTy) (b:Pg) (t:List Ex)
abbrev Mc:Car:={I:=Ex,B:=Ex,S:=Ex,L:=λ_=>Ex,X:=λ_=>Ex}
def lvE:LV Mc->Ex | .i x=>x | .b x=>x | .s x=>x | .l _ x=>x | .x _ x=>x
def tE(a:List LTy)(t:Tup Mc a):List Ex:=(unpack Mc a t).map lvE
def eT(f:Nat->Ex):(a:List LTy)->Nat->Tup Mc a
 | [],_=>()
 | t::r,j=>(match t with | .i=>f j | .b=>f j | .s=>f j | .l _=>f j | .x _=>f j,eT f r (j+1))
def vT(a:List LTy)(n:Nat):Tup Mc a:=eT (.v n) a 0
def arp(i:Nat):Nat->List Ex->Bool
 | _,[]=>true
 | j,.cf i' _ _ j'::r=>Nat.beq i i'&&Nat.beq j j'&&arp i (j+1) r
 | _,_=>false
structure MS where
 run:Nat->Pg
def auB:Alg:={
 aA:=Mc
 M:=λ_=>MS
 lit:=λn=>(match n with | .ofNat k=> .ln k | .negSucc k=> .lz (k+1)),bl:= .bl,st:= .st,arith:= .ar,cmp:= .cm,addN:= .addN,OB:= .OB,neg:= .neg,conv:= .conv,QV:= .QV,kC:= .kC
 zS:= .zS,OC:= .OC,orB:= .orB,eqB:= .eqB,eqS:= .eqS,QW:= .QW,QX:= .QX,Lx:= .Lx,QY:= .QY,aaO:= .aaO
 len:= .len,FX:= .FX,get:= .get,set:= .set,app:= .app,sub:= .sub,rep:= .rep,lst:= .lst,glob:= .glob
 fI:= .fI,fB:= .fB,fS:= .fS,fL:= .fL,mkX:=λc t=> .mkX c c.rX (tE c.rX t),eqX:= .eqX
 ret:=λa t=>⟨λ_=> .ret a (tE a t)⟩
 vE:=λa t k=>⟨λn=>match tE a t with | .cf i q e 0::r=>if arp i 1 r then .aro i q e ((k (vT a n)).run (n+1))else .vE a (.cf i q e 0::r) ((k (vT a n)).run (n+1)) | e=> .vE a e ((k (vT a n)).run (n+1))⟩
 fail:=⟨λ_=> .fail⟩
 chk:=λb m=>⟨λn=> .chk b (m.run n)⟩
 cond:=λb x y=>⟨λn=> .cond b (x.run n) (y.run n)⟩
 bind:=λa m k=>⟨λn=> .bind a (m.run n) ((k (vT a n)).run (n+1))⟩
 wD:=λa m k=>⟨λn=> .wD a (m.run n) ((k (vT a n)).run (n+1))⟩
 inl:=λa t=>⟨λ_=> .inl a (tE a t)⟩
 inr:=λa m=>⟨λn=> .inr a (m.run n)⟩
 iter:=λa b t=>⟨λn=> .iter a ((b (vT a n)).run (n+1)) (tE a t)⟩}
def sCt(i:Nat)(s:Sig):Ct Mc s:={pre:=λt=> .cp i s.inp (tE s.inp t),fn:=λt=>eT (.cf i s.inp (tE s.inp t)) s.out 0}
def scs:List (Nat×Sig)->Nat->List (FuncId×Sigma (Ct Mc))
 | [],_=> []
 | p::r,i=>(p.1,⟨p.2,sCt i p.2⟩)::scs r (i+1)
def auC(k:aB)(X:XT)(a:Ann)(s:Sig)(f:Func)(l:List (Nat×Sig)):Pg:=
 (rZ auB X (ofL Mc (scs l 0)) (aa0 (alF f)) (λ_ _ _=>true) a s f (f.body.getD .skip) (vT s.inp 0)).run 1
abbrev Cs(A:Alg):List (Nat×Sig)->Type
 | []=>Unit
 | p::r=>Pt A p.2×Ft A p.2×Cs A r
abbrev csl(A:Alg):(l:List (Nat×Sig))->Cs A l->List (FuncId×Sigma (Ct A.aA))
 | [],_=> []
 | p::r,c=>(p.1,⟨p.2,⟨c.1,c.2.1⟩⟩)::csl A r c.2.2
abbrev Vs(A:Alg):=List ((a:List LTy)×Tup A.aA a)
section
variable (A:Alg) (L Z:Nat->A.I) (W:ByteArray->A.S) (P:∀ {α β:Type},α×β->α) (Q:∀ {α β:Type},α×β->β) (U:Unit) (l:List (Nat×Sig)) (C:Cs A l) (N:Nat) (V:Vs A)
def dfl:(t:LTy)->LT A.aA t
 | .i=>L 0 | .b=>A.bl true | .s=>W default | .l c=>A.FX c | .x c=>A.get c (A.FX c) (L 0)
def alG:(a:List LTy)->Tup A.aA a | []=>() | t::r=>(dfl A L W t,alG r)
def cst(a t:LTy)(x:LT A.aA a):LT A.aA t:=if h:a=t then h▸x else dfl A L W t
def aa1(a b:List LTy)(x:Tup A.aA a):Tup A.aA b:=if h:a=b then h▸x else alG A L W b
def vrT:(a:List LTy)->Tup A.aA a->Nat->(t:LTy)->LT A.aA t
 | [],_,_,t=>dfl A L W t
 | t'::_,x,0,t=>cst A L W t' t (P x)
 | _::r,x,j+1,t=>vrT r (Q x) j t
def vr(n j:Nat)(t:LTy):LT A.aA t:=match V[N-1-n]? with | some p=>vrT A L W P Q p.1 p.2 j t | none=>dfl A L W t
def cP:(l:List (Nat×Sig))->Cs A l->Nat->((s:Sig)->Tup A.aA s.inp)->A.B
 | [],_,_,_=>A.bl true
 | p::_,c,0,g=>c.1 (g p.2)
 | _::r,c,i+1,g=>cP r c.2.2 i g
def cF{R:Type}(d:R):(l:List (Nat×Sig))->Cs A l->Nat->((s:Sig)->Ft A s->R)->R
 | [],_,_,_=>d
 | p::_,c,0,g=>g p.2 c.2.1
 | _::r,c,i+1,g=>cF d r c.2.2 i g
mutual
def ev:Ex->(t:LTy)->LT A.aA t
 | .v n j,t=>vr A L W P Q N V n j t
 | .ln n,.i=>L n
 | .lz n,.i=>Z n
 | .bl b,.b=>A.bl b
 | .st s,.s=>W s
 | .ar op k x y,.i=>A.arith op k (ev x .i) (ev y .i)
 | .cm op x y,.b=>A.cmp op (ev x .i) (ev y .i)
 | .addN x y,.i=>A.addN (ev x .i) (ev y .i)
 | .OB x y,.i=>A.OB (ev x .i) (ev y .i)
 | .neg k x,.i=>A.neg k (ev x .i)
 | .conv k x,.i=>A.conv k (ev x .i)
 | .QV x y,.i=>A.QV (ev x .i) (ev y .i)
 | .kC x y,.i=>A.kC (ev x .i) (ev y .i)
 | .zS x,.b=>A.zS (ev x .b)
 | .OC x y,.b=>A.OC (ev x .b) (ev y .b)
 | .orB x y,.b=>A.orB (ev x .b) (ev y .b)
 | .eqB x y,.b=>A.eqB (ev x .b) (ev y .b)
 | .eqS x y,.b=>A.eqS (ev x .s) (ev y .s)
 | .QW x,.s=>A.QW (ev x (.l .u8))
 | .QX b x y,.i=>A.QX (ev b .b) (ev x .i) (ev y .i)
 | .Lx b x y,.b=>A.Lx (ev b .b) (ev x .b) (ev y .b)
 | .QY b _ x y,.l c=>A.QY (ev b .b) c (ev x (.l c)) (ev y (.l c))
 | .aaO b _ x y,.x c=>A.aaO (ev b .b) c (ev x (.x c)) (ev y (.x c))
 | .len c x,.i=>A.len c (ev x (.l c))
 | .FX _,.l c=>A.FX c
 | .get _ x i,.x c=>A.get c (ev x (.l c)) (ev i .i)
 | .set _ x i y,.l c=>A.set c (ev x (.l c)) (ev i .i) (ev y (.x c))
 | .app _ x y,.l c=>A.app c (ev x (.l c)) (ev y (.l c))
 | .sub _ x i j,.l c=>A.sub c (ev x (.l c)) (ev i .i) (ev j .i)
 | .rep _ n x,.l c=>A.rep c (ev n .i) (ev x (.x c))
 | .lst _ xs,.l c=>A.lst c (evs c xs)
 | .glob n _,.l c=>A.glob n c
 | .fI c j x,.i=>A.fI c j (ev x (.x c))
 | .fB c j x,.b=>A.fB c j (ev x (.x c))
 | .fS c j x,.s=>A.fS c j (ev x (.x c))
 | .fL c j _ x,.l c'=>A.fL c j c' (ev x (.x c))
 | .mkX _ ts t,.x c=>A.mkX c (aa1 A L W ts c.rX (tp t ts))
 | .eqX c x y,.b=>A.eqX c (ev x (.x c)) (ev y (.x c))
 | .cp i ts t,.b=>cP A l C i λs=>aa1 A L W ts s.inp (tp t ts)
 | .cf i ts t j,ty=>cF A (dfl A L W ty) l C i λs f=>vrT A L W P Q s.out (f (aa1 A L W ts s.inp (tp t ts))) j ty
 | _,t=>dfl A L W t
termination_by structural e=>e
def tp:List Ex->(a:List LTy)->Tup A.aA a
 | _,[]=>U
 | e::r,t::a=>(ev e t,tp r a)
 | [],t::a=>alG A L W (t::a)
termination_by structural e=>e
def evs(c:Co):List Ex->List (A.X c)
 | []=> []
 | e::r=>ev e (.x c)::evs c r
termination_by structural e=>e
end
end
inductive RT where
 | t (ts:List LTy) | s (ts:List LTy) (r:RT)
abbrev RT.den(A:Alg):RT->Type
 | .t a=>Tup A.aA a
 | .s a r=>Sum (Tup A.aA a) (r.den A)
def den(A:Alg)(L Z:Nat->A.I)(W:ByteArray->A.S)(P:∀ {α β:Type},α×β->α)(Q:∀ {α β:Type},α×β->β)(U:Unit)(l:List (Nat×Sig))(C:Cs A l):Pg->(r:RT)->Nat->Vs A->A.M (r.den A)
 | .ret q t,.t ts,N,V=>A.ret ts (aa1 A L W q ts (tp A L Z W P Q U l C N V t q))
 | .vE ts t k,r,N,V=>A.vE ts (tp A L Z W P Q U l C N V t ts) λy=>den A L Z W P Q U l C k r (N+1) (⟨ts,y⟩::V)
 | .aro i q t k,r,N,V=>cF A A.fail l C i λs f=>A.vE s.out (f (aa1 A L W q s.inp (tp A L Z W P Q U l C N V t q))) λy=>den A L Z W P Q U l C k r (N+1) (⟨s.out,y⟩::V)
 | .chk b m,r,N,V=>A.chk (ev A L Z W P Q U l C N V b .b) (den A L Z W P Q U l C m r N V)
 | .cond b x y,r,N,V=>A.cond (ev A L Z W P Q U l C N V b .b) (den A L Z W P Q U l C x r N V) (den A L Z W P Q U l C y r N V)
 | .bind ts m k,r,N,V=>A.bind ts (den A L Z W P Q U l C m (.t ts) N V) λy=>den A L Z W P Q U l C k r (N+1) (⟨ts,y⟩::V)
 | .wD ts m k,r,N,V=>A.wD ts (den A L Z W P Q U l C m (.s ts r) N V) λy=>den A L Z W P Q U l C k r (N+1) (⟨ts,y⟩::V)
 | .inl q t,.s ts _,N,V=>A.inl ts (aa1 A L W q ts (tp A L Z W P Q U l C N V t q))
 | .inr _ m,.s ts r,N,V=>A.inr ts (den A L Z W P Q U l C m r N V)
 | .iter ts b t,r,N,V=>A.iter ts (λy=>den A L Z W P Q U l C b (.s ts r) (N+1) (⟨ts,y⟩::V)) (tp A L Z W P Q U l C N V t ts)
 | _,_,_,_=>A.fail
inductive Hx {α:Type}:α->α->Prop | r (a:α):Hx a a
theorem nz(n:Nat):(Nat.cast (no_index (@OfNat.ofNat Nat n (instOfNatNat n))):Int)=OfNat.ofNat n:=rfl
structure Gt(k:aB)(X:XT)(E:Tab)(a:Ann)(s:Sig)(f:Func)(l:List (Nat×Sig)) where
 F:Cs (std 0) l->iQ s.inp->(iQ s.out->Prop)->Prop
 h:∀C,Ru X E (std 0) (alF f) a s f (csl (std 0) l C) (F C)
def gm{k:aB}{X:XT}{E:Tab}{a:Ann}{s:Sig}{f:Func}{l:List (Nat×Sig)}{F:(A:Alg)->Cs A l->Tup A.aA s.inp->Ot A s}
 (i:∀A (P:∀ {α β:Type},α×β->α) (Q:∀ {α β:Type},α×β->β) (U:Unit), @P= @Prod.fst-> @Q= @Prod.snd->U=()->∀C x,Hx (den A (λn=>A.lit (Nat.cast n)) (λn=>A.lit (-(Nat.cast n))) A.st P Q U l C (auC k X a s f l) (.t s.out) 1 [⟨s.inp,x⟩]) (F A C x):=by
  intro A P Q U g e b C x;generalize c:(λn:Nat=>A.lit (Nat.cast n))=L;generalize d:(λn:Nat=>A.lit (-(Nat.cast n)))=Z
  conv=>arg 1;arg 10;reduce
  conv=>arg 1;reduce
  subst c d g e b
  try dsimp only [nz]
  exact .r _)
 (h:∀A C,Ru X E A (alF f) a s f (csl A l C) (F A C):=by intro _ _ _;kernel_rfl):Gt k X E a s f l:=⟨F (std 0),h (std 0)⟩
end Go.TX
namespace Go.TX.Seat
open Go Go.AE Go.TX Go.Proofs List
variable{P:Program}{t:TypeId}{y:TY}
set_option maxRecDepth 100000
def ty:TypeId->Option TY
 | 2=>some ⟨(.int .i64),1,8,[.d true (.int .i64 0)]⟩
 | 3=>some ⟨(.int .i64),1,8,[.d true (.int .i64 0)]⟩
 | 4=>some ⟨.bool,1,1,[.d true (.bool false)]⟩
 | 5=>some ⟨(.int .u8),1,1,[.d true (.int .u8 0)]⟩
 | 6=>some ⟨(.int .u8),1,1,[.d true (.int .u8 0)]⟩
 | 7=>some ⟨(.struct [(0,2),(1,3),(2,4),(3,6)]),4,24,[.d true (.int .i64 0),.d true (.int .i64 0),.d true (.bool false),.d true (.int .u8 0)]⟩
 | 8=>some ⟨(.struct [(0,2),(1,3),(2,4),(3,6)]),4,24,[.d true (.int .i64 0),.d true (.int .i64 0),.d true (.bool false),.d true (.int .u8 0)]⟩
 | 9=>some ⟨.str,1,16,[.d true (.str ⟨#[]⟩)]⟩
 | 10=>some ⟨.str,1,16,[.d true (.str ⟨#[]⟩)]⟩
 | 11=>some ⟨.str,1,16,[.d true (.str ⟨#[]⟩)]⟩
 | 12=>some ⟨(.int .u64),1,8,[.d true (.int .u64 0)]⟩
 | 13=>some ⟨(.struct [(0,9),(1,12)]),2,24,[.d true (.str ⟨#[]⟩),.d true (.int .u64 0)]⟩
 | 14=>some ⟨(.struct [(0,9),(1,12)]),2,24,[.d true (.str ⟨#[]⟩),.d true (.int .u64 0)]⟩
 | 15=>some ⟨.scalar,1,8,[.np]⟩
 | 16=>some ⟨.scalar,1,8,[.np]⟩
 | 17=>some ⟨.scalar,1,8,[.np]⟩
 | 18=>some ⟨(.struct [(0,17)]),1,8,[.np]⟩
 | 19=>some ⟨(.struct [(0,17)]),1,8,[.np]⟩
 | 21=>some ⟨(.int .i32),1,4,[.d true (.int .i32 0)]⟩
 | 22=>some ⟨(.slice 5),1,24,[.nil]⟩
 | 23=>some ⟨(.slice 3),1,24,[.nil]⟩
 | 24=>some ⟨(.struct [(0,23),(1,3),(2,23),(3,3),(4,4),(5,4),(6,3),(7,23),(8,23),(9,3)]),10,136,[.nil,.d true (.int .i64 0),.nil,.d true (.int .i64 0),.d true (.bool false),.d true (.bool false),.d true (.int .i64 0),.nil,.nil,.d true (.int .i64 0)]⟩
 | 25=>some ⟨(.struct [(0,23),(1,3),(2,23),(3,3),(4,4),(5,4),(6,3),(7,23),(8,23),(9,3)]),10,136,[.nil,.d true (.int .i64 0),.nil,.d true (.int .i64 0),.d true (.bool false),.d true (.bool false),.d true (.int .i64 0),.nil,.nil,.d true (.int .i64 0)]⟩
 | 28=>some ⟨(.slice 57),1,24,[.nil]⟩
 | 29=>some ⟨(.slice 150),1,24,[.nil]⟩
 | 30=>some ⟨(.struct [(0,25),(10,28),(11,29)]),12,184,[.nil,.d true (.int .i64 0),.nil,.d true (.int .i64 0),.d true (.bool false),.d true (.bool false),.d true (.int .i64 0),.nil,.nil,.d true (.int .i64 0),.nil,.nil]⟩
 | 31=>some ⟨(.struct [(0,25),(10,28),(11,29)]),12,184,[.nil,.d true (.int .i64 0),.nil,.d true (.int .i64 0),.d true (.bool false),.d true (.bool false),.d true (.int .i64 0),.nil,.nil,.d true (.int .i64 0),.nil,.nil]⟩
 | 34=>some ⟨(.slice 63),1,24,[.nil]⟩
 | 47=>some ⟨(.slice 97),1,24,[.nil]⟩
 | 49=>some ⟨(.slice 136),1,24,[.nil]⟩
 | 50=>some ⟨(.struct [(0,3),(1,3),(2,49),(3,3),(4,3),(5,3),(6,3)]),7,72,[.d true (.int .i64 0),.d true (.int .i64 0),.nil,.d true (.int .i64 0),.d true (.int .i64 0),.d true (.int .i64 0),.d true (.int .i64 0)]⟩
 | 51=>some ⟨(.struct [(0,3),(1,3),(2,49),(3,3),(4,3),(5,3),(6,3)]),7,72,[.d true (.int .i64 0),.d true (.int .i64 0),.nil,.d true (.int .i64 0),.d true (.int .i64 0),.d true (.int .i64 0),.d true (.int .i64 0)]⟩
 | 56=>some ⟨(.struct [(0,23),(1,51)]),8,96,[.nil,.d true (.int .i64 0),.d true (.int .i64 0),.nil,.d true (.int .i64 0),.d true (.int .i64 0),.d true (.int .i64 0),.d true (.int .i64 0)]⟩
 | 57=>some ⟨(.struct [(0,23),(1,51)]),8,96,[.nil,.d true (.int .i64 0),.d true (.int .i64 0),.nil,.d true (.int .i64 0),.d true (.int .i64 0),.d true (.int .i64 0),.d true (.int .i64 0)]⟩
 | 62=>some ⟨(.struct [(0,4),(1,22)]),2,32,[.d true (.bool false),.nil]⟩
 | 63=>some ⟨(.struct [(0,4),(1,22)]),2,32,[.d true (.bool false),.nil]⟩
 | 76=>some ⟨.scalar,1,8,[.np]⟩
 | 96=>some ⟨(.struct [(0,3),(1,3),(2,3),(3,3)]),4,32,[.d true (.int .i64 0),.d true (.int .i64 0),.d true (.int .i64 0),.d true (.int .i64 0)]⟩
 | 97=>some ⟨(.struct [(0,3),(1,3),(2,3),(3,3)]),4,32,[.d true (.int .i64 0),.d true (.int .i64 0),.d true (.int .i64 0),.d true (.int .i64 0)]⟩
 | 100=>some ⟨.scalar,1,8,[.np]⟩
 | 101=>some ⟨(.struct [(0,51),(7,3)]),8,80,[.d true (.int .i64 0),.d true (.int .i64 0),.nil,.d true (.int .i64 0),.d true (.int .i64 0),.d true (.int .i64 0),.d true (.int .i64 0),.d true (.int .i64 0)]⟩
 | 102=>some ⟨(.struct [(0,51),(7,3)]),8,80,[.d true (.int .i64 0),.d true (.int .i64 0),.nil,.d true (.int .i64 0),.d true (.int .i64 0),.d true (.int .i64 0),.d true (.int .i64 0),.d true (.int .i64 0)]⟩
 | 119=>some ⟨(.slice 226),1,24,[.nil]⟩
 | 120=>some ⟨(.struct [(0,119)]),1,24,[.nil]⟩
 | 121=>some ⟨(.struct [(0,119)]),1,24,[.nil]⟩
 | 122=>some ⟨(.slice 128),1,24,[.nil]⟩
 | 125=>some ⟨(.slice 185),1,24,[.nil]⟩
 | 126=>some ⟨(.slice 230),1,24,[.nil]⟩
 | 127=>some ⟨(.struct [(0,126)]),1,24,[.nil]⟩
 | 128=>some ⟨(.struct [(0,126)]),1,24,[.nil]⟩
 | 129=>some ⟨(.struct [(0,125),(1,122),(2,3),(3,128),(4,128),(5,3)]),6,112,[.nil,.nil,.d true (.int .i64 0),.nil,.nil,.d true (.int .i64 0)]⟩
 | 130=>some ⟨(.struct [(0,125),(1,122),(2,3),(3,128),(4,128),(5,3)]),6,112,[.nil,.nil,.d true (.int .i64 0),.nil,.nil,.d true (.int .i64 0)]⟩
 | 135=>some ⟨(.struct [(0,3),(1,3),(2,3),(3,3),(4,3)]),5,40,[.d true (.int .i64 0),.d true (.int .i64 0),.d true (.int .i64 0),.d true (.int .i64 0),.d true (.int .i64 0)]⟩
 | 136=>some ⟨(.struct [(0,3),(1,3),(2,3),(3,3),(4,3)]),5,40,[.d true (.int .i64 0),.d true (.int .i64 0),.d true (.int .i64 0),.d true (.int .i64 0),.d true (.int .i64 0)]⟩
 | 137=>some ⟨(.int .u64),1,8,[.d true (.int .u64 0)]⟩
 | 140=>some ⟨(.struct [(0,22),(1,3)]),2,32,[.nil,.d true (.int .i64 0)]⟩
 | 141=>some ⟨(.struct [(0,22),(1,3)]),2,32,[.nil,.d true (.int .i64 0)]⟩
 | 144=>some ⟨.scalar,1,8,[.np]⟩
 | 146=>some ⟨.scalar,1,8,[.np]⟩
 | 149=>some ⟨(.struct [(0,51),(7,51)]),14,144,[.d true (.int .i64 0),.d true (.int .i64 0),.nil,.d true (.int .i64 0),.d true (.int .i64 0),.d true (.int .i64 0),.d true (.int .i64 0),.d true (.int .i64 0),.d true (.int .i64 0),.nil,.d true (.int .i64 0),.d true (.int .i64 0),.d true (.int .i64 0),.d true (.int .i64 0)]⟩
 | 150=>some ⟨(.struct [(0,51),(7,51)]),14,144,[.d true (.int .i64 0),.d true (.int .i64 0),.nil,.d true (.int .i64 0),.d true (.int .i64 0),.d true (.int .i64 0),.d true (.int .i64 0),.d true (.int .i64 0),.d true (.int .i64 0),.nil,.d true (.int .i64 0),.d true (.int .i64 0),.d true (.int .i64 0),.d true (.int .i64 0)]⟩
 | 158=>some ⟨(.slice 4),1,24,[.nil]⟩
 | 176=>some ⟨.scalar,1,8,[.np]⟩
 | 177=>some ⟨(.struct [(0,121),(1,4)]),2,32,[.nil,.d true (.bool false)]⟩
 | 178=>some ⟨(.struct [(0,121),(1,4)]),2,32,[.nil,.d true (.bool false)]⟩
 | 184=>some ⟨(.struct [(0,3),(1,3),(2,128),(3,128),(4,122)]),5,88,[.d true (.int .i64 0),.d true (.int .i64 0),.nil,.nil,.nil]⟩
 | 185=>some ⟨(.struct [(0,3),(1,3),(2,128),(3,128),(4,122)]),5,88,[.d true (.int .i64 0),.d true (.int .i64 0),.nil,.nil,.nil]⟩
 | 204=>some ⟨.scalar,1,8,[.np]⟩
 | 209=>some ⟨(.slice 9),1,24,[.nil]⟩
 | 210=>some ⟨(.struct [(0,4),(1,4),(2,3),(3,209)]),4,40,[.d true (.bool false),.d true (.bool false),.d true (.int .i64 0),.nil]⟩
 | 211=>some ⟨(.struct [(0,4),(1,4),(2,3),(3,209)]),4,40,[.d true (.bool false),.d true (.bool false),.d true (.int .i64 0),.nil]⟩
 | 212=>some ⟨(.slice 211),1,24,[.nil]⟩
 | 213=>some ⟨.scalar,1,8,[.np]⟩
 | 225=>some ⟨(.struct [(0,3),(1,3),(2,128),(3,128)]),4,64,[.d true (.int .i64 0),.d true (.int .i64 0),.nil,.nil]⟩
 | 226=>some ⟨(.struct [(0,3),(1,3),(2,128),(3,128)]),4,64,[.d true (.int .i64 0),.d true (.int .i64 0),.nil,.nil]⟩
 | 229=>some ⟨(.struct [(0,3),(1,23)]),2,32,[.d true (.int .i64 0),.nil]⟩
 | 230=>some ⟨(.struct [(0,3),(1,23)]),2,32,[.d true (.int .i64 0),.nil]⟩
 | 291=>some ⟨(.slice 126),1,24,[.nil]⟩
 | 293=>some ⟨(.slice 23),1,24,[.nil]⟩
 | 301=>some ⟨(.int .i64),1,8,[.d true (.int .i64 0)]⟩
 | 308=>some ⟨(.int .u32),1,4,[.d true (.int .u32 0)]⟩
 | 310=>some ⟨(.int .u64),1,8,[.d true (.int .u64 0)]⟩
 | 313=>some ⟨(.int .u64),1,8,[.d true (.int .u64 0)]⟩
 | 318=>some ⟨.scalar,1,8,[.np]⟩
 | 322=>some ⟨(.struct [(0,17),(1,17),(2,17),(3,9)]),4,40,[.np,.np,.np,.d true (.str ⟨#[]⟩)]⟩
 | 323=>some ⟨(.struct [(0,17),(1,17),(2,17),(3,9)]),4,40,[.np,.np,.np,.d true (.str ⟨#[]⟩)]⟩
 | 327=>some ⟨(.int .u8),1,1,[.d true (.int .u8 0)]⟩
 | 328=>some ⟨(.int .u8),1,1,[.d true (.int .u8 0)]⟩
 | 330=>some ⟨.scalar,1,8,[.np]⟩
 | 331=>some ⟨(.int .i32),1,4,[.d true (.int .i32 0)]⟩
 | 332=>some ⟨(.int .i32),1,4,[.d true (.int .i32 0)]⟩
 | _=>none
def yA(i:TypeInfo)(d:Ld P t y.desc)(h:P.info? t=some i:=by kernel_rfl)(s:i.size=y.size:=by rfl)(b:i.bytes=y.bytes:=by rfl)
 (z:∃z,i.zero=some z/\zcs z.cells.toList=some y.zero:=by exact⟨_,rfl,rfl⟩) (l:y.zero.length=y.size:=by rfl):abm P t y:=⟨⟨i,h,s,b,z.elim λx h=>⟨x,h.1,λ_ _=>YR h.2⟩⟩,d,l⟩
def yS{F:Array Field}(i:TypeInfo)(u:P.underlying t=some (.struct F))(e:y.desc= .struct (F.toList.map λf=>(f.offset,f.type)):=by rfl)(h:P.info? t=some i:=by kernel_rfl)(s:i.size=y.size:=by rfl)(b:i.bytes=y.bytes:=by rfl)
 (z:∃z,i.zero=some z/\zcs z.cells.toList=some y.zero:=by exact⟨_,rfl,rfl⟩) (l:y.zero.length=y.size:=by rfl):abm P t y:=yA i (by rw [e];exact⟨F,u,rfl⟩) h s b z l
def yP{e:TypeId}(i:TypeInfo)(u:P.underlying t=some (.pointer e))(e:y.desc= .scalar:=by rfl)(h:P.info? t=some i:=by kernel_rfl)(s:i.size=y.size:=by rfl)(b:i.bytes=y.bytes:=by rfl)
 (z:∃z,i.zero=some z/\zcs z.cells.toList=some y.zero:=by exact⟨_,rfl,rfl⟩) (l:y.zero.length=y.size:=by rfl):abm P t y:=yA i (by rw [e];exact⟨_,u,(λ_ h=>by cases h),(λ_ _ h=>by cases h)⟩) h s b z l
def auD:∀t y,ty t=some y->abm Tryz.prog t y:=by
 intro t y h;unfold ty at h;split at h<;>first | (cases h;done) | skip
 .cases h;exact yA Tryz.t2 Tryz.underlying2
 .cases h;exact yA Tryz.t3 Tryz.underlying3
 .cases h;exact yA Tryz.t4 Tryz.underlying4
 .cases h;exact yA Tryz.t5 Tryz.underlying5
 .cases h;exact yA Tryz.t6 Tryz.underlying6
 .cases h;exact yS Tryz.t7 Tryz.underlying7
 .cases h;exact yS Tryz.t8 Tryz.underlying8
 .cases h;exact yA Tryz.t9 Tryz.underlying9
 .cases h;exact yA Tryz.t10 Tryz.underlying10
 .cases h;exact yA Tryz.t11 Tryz.underlying11
 .cases h;exact yA Tryz.t12 Tryz.underlying12
 .cases h;exact yS Tryz.t13 Tryz.underlying13
 .cases h;exact yS Tryz.t14 Tryz.underlying14
 .cases h;exact yP Tryz.t15 Tryz.underlying15
 .cases h;exact yP Tryz.t16 Tryz.underlying16
 .cases h;exact yP Tryz.t17 Tryz.underlying17
 .cases h;exact yS Tryz.t18 Tryz.underlying18
 .cases h;exact yS Tryz.t19 Tryz.underlying19
 .cases h;exact yA Tryz.t21 Tryz.underlying21
 .cases h;exact yA Tryz.t22 Tryz.underlying22
 .cases h;exact yA Tryz.t23 Tryz.underlying23
 .cases h;exact yS Tryz.t24 Tryz.underlying24
 .cases h;exact yS Tryz.t25 Tryz.underlying25
 .cases h;exact yA Tryz.t28 Tryz.underlying28
 .cases h;exact yA Tryz.t29 Tryz.underlying29
 .cases h;exact yS Tryz.t30 Tryz.underlying30
 .cases h;exact yS Tryz.t31 Tryz.underlying31
 .cases h;exact yA Tryz.t34 Tryz.underlying34
 .cases h;exact yA Tryz.t47 Tryz.underlying47
 .cases h;exact yA Tryz.t49 Tryz.underlying49
 .cases h;exact yS Tryz.t50 Tryz.underlying50
 .cases h;exact yS Tryz.t51 Tryz.underlying51
 .cases h;exact yS Tryz.t56 Tryz.underlying56
 .cases h;exact yS Tryz.t57 Tryz.underlying57
 .cases h;exact yS Tryz.t62 Tryz.underlying62
 .cases h;exact yS Tryz.t63 Tryz.underlying63
 .cases h;exact yP Tryz.t76 Tryz.underlying76
 .cases h;exact yS Tryz.t96 Tryz.underlying96
 .cases h;exact yS Tryz.t97 Tryz.underlying97
 .cases h;exact yP Tryz.t100 Tryz.underlying100
 .cases h;exact yS Tryz.t101 Tryz.underlying101
 .cases h;exact yS Tryz.t102 Tryz.underlying102
 .cases h;exact yA Tryz.t119 Tryz.underlying119
 .cases h;exact yS Tryz.t120 Tryz.underlying120
 .cases h;exact yS Tryz.t121 Tryz.underlying121
 .cases h;exact yA Tryz.t122 Tryz.underlying122
 .cases h;exact yA Tryz.t125 Tryz.underlying125
 .cases h;exact yA Tryz.t126 Tryz.underlying126
 .cases h;exact yS Tryz.t127 Tryz.underlying127
 .cases h;exact yS Tryz.t128 Tryz.underlying128
 .cases h;exact yS Tryz.t129 Tryz.underlying129
 .cases h;exact yS Tryz.t130 Tryz.underlying130
 .cases h;exact yS Tryz.t135 Tryz.underlying135
 .cases h;exact yS Tryz.t136 Tryz.underlying136
 .cases h;exact yA Tryz.t137 Tryz.underlying137
 .cases h;exact yS Tryz.t140 Tryz.underlying140
 .cases h;exact yS Tryz.t141 Tryz.underlying141
 .cases h;exact yP Tryz.t144 Tryz.underlying144
 .cases h;exact yP Tryz.t146 Tryz.underlying146
 .cases h;exact yS Tryz.t149 Tryz.underlying149
 .cases h;exact yS Tryz.t150 Tryz.underlying150
 .cases h;exact yA Tryz.t158 Tryz.underlying158
 .cases h;exact yP Tryz.t176 Tryz.underlying176
 .cases h;exact yS Tryz.t177 Tryz.underlying177
 .cases h;exact yS Tryz.t178 Tryz.underlying178
 .cases h;exact yS Tryz.t184 Tryz.underlying184
 .cases h;exact yS Tryz.t185 Tryz.underlying185
 .cases h;exact yP Tryz.t204 Tryz.underlying204
 .cases h;exact yA Tryz.t209 Tryz.underlying209
 .cases h;exact yS Tryz.t210 Tryz.underlying210
 .cases h;exact yS Tryz.t211 Tryz.underlying211
 .cases h;exact yA Tryz.t212 Tryz.underlying212
 .cases h;exact yP Tryz.t213 Tryz.underlying213
 .cases h;exact yS Tryz.t225 Tryz.underlying225
 .cases h;exact yS Tryz.t226 Tryz.underlying226
 .cases h;exact yS Tryz.t229 Tryz.underlying229
 .cases h;exact yS Tryz.t230 Tryz.underlying230
 .cases h;exact yA Tryz.t291 Tryz.underlying291
 .cases h;exact yA Tryz.t293 Tryz.underlying293
 .cases h;exact yA Tryz.t301 Tryz.underlying301
 .cases h;exact yA Tryz.t308 Tryz.underlying308
 .cases h;exact yA Tryz.t310 Tryz.underlying310
 .cases h;exact yA Tryz.t313 Tryz.underlying313
 .cases h;exact yP Tryz.t318 Tryz.underlying318
 .cases h;exact yS Tryz.t322 Tryz.underlying322
 .cases h;exact yS Tryz.t323 Tryz.underlying323
 .cases h;exact yA Tryz.t327 Tryz.underlying327
 .cases h;exact yA Tryz.t328 Tryz.underlying328
 .cases h;exact yP Tryz.t330 Tryz.underlying330
 .cases h;exact yA Tryz.t331 Tryz.underlying331
 .cases h;exact yA Tryz.t332 Tryz.underlying332
def co:TypeId->Option Co
 | 3=>some .i64
 | 4=>some .bool
 | 5=>some .u8
 | 9=>some .str
 | 23=>some .ints
 | 25=>some .ay
 | 31=>some .eng
 | 51=>some .blk
 | 57=>some .cac
 | 63=>some .ask
 | 97=>some .ins
 | 121=>some .tab
 | 126=>some .poly
 | 128=>some .poly
 | 130=>some .sym
 | 136=>some .iop
 | 150=>some .cer
 | 185=>some .ev
 | 211=>some .form
 | 226=>some .atom
 | 230=>some .mono
 | _=>none
def ieq:TypeId->Option Co
 | 97=>some .ins
 | 136=>some .iop
 | _=>none
def X:XT:={ty:=ty,co:=co,glob:=λg=>if g==0 then some .form else none,ieq:=ieq}
noncomputable def E:Tab:={P:=Tryz.prog,ty:=ty,glob:=λg=>if g==0 then some (.rows 4 (aO .form wK))else none,ieq:=λt=>(ieq t).map λc=>c.size}
end Go.TX.Seat
namespace Go.TX.F
open Go Go.AE Go.TX List
set_option maxRecDepth 100000
abbrev Rt : Sig := ⟨[.r true .u8], [], [.p 0 2], [.g [.rows true .u8, .i]]⟩
abbrev iT : Sig := ⟨[.p 0 2, .i], [.g [.rows true .u8, .i]], [.i], [.g [.rows true .u8, .i]]⟩
abbrev Gz : Sig := ⟨[.p 0 2, .i], [.g [.rows true .u8, .i]], [.b], [.g [.rows true .u8, .i]]⟩
abbrev CQ : Sig := ⟨[.p 0 2], [.g [.rows true .u8, .i]], [.o 1], [.g [.rows true .u8, .i], .rows true .i64]⟩
abbrev bS : Sig := ⟨[.i], [], [.b], []⟩
abbrev Aa : Sig := ⟨[.r false .i64], [], [.b], []⟩
abbrev Rv : Sig := ⟨[.r false .i64, .r false .i64], [], [.agg [.own 0, .i, .own 1, .i, .bool, .bool, .i, .own 2, .nil, .i]], [.rows true .i64, .rows true .i64, .rows true .i64]⟩
abbrev Md : Sig := ⟨[.p 0 2], [.g [.rows true .u8, .i]], [.i], [.g [.rows true .u8, .i]]⟩
abbrev bW : Sig := ⟨[.i, .i, .i], [], [.b], []⟩
abbrev l5 : Sig := ⟨[.sv false .ins], [], [.b], []⟩
abbrev GA : Sig := ⟨[.sv false .ins], [], [.i], []⟩
abbrev GD : Sig := ⟨[.r false .ins], [], [.o 0], [.rows true .i64]⟩
abbrev Ac : Sig := ⟨[.p 0 2], [.g [.rows true .u8, .i]], [.agg [.i, .i, .i, .i]], [.g [.rows true .u8, .i]]⟩
abbrev Me : Sig := ⟨[.p 0 2, .i], [.g [.rows true .u8, .i]], [.o 1], [.g [.rows true .u8, .i], .rows true .ins]⟩
abbrev Rw : Sig := ⟨[.p 0 2, .i], [.g [.rows true .u8, .i]], [.o 1], [.g [.rows true .u8, .i], .rows true .i64]⟩
abbrev tO : Sig := ⟨[.sv false .ay], [], [.b], []⟩
abbrev CS : Sig := ⟨[.sv false .ay], [], [.agg [.own 0, .i, .own 1, .i, .bool, .bool, .i, .own 2, .own 3, .i]], [.rows true .i64, .rows true .i64, .rows true .i64, .rows true .i64]⟩
abbrev GH : Sig := ⟨[.r false .i64, .i], [], [.b], []⟩
abbrev Ad : Sig := ⟨[.i], [], [.agg [.i, .i, .i, .i], .b], []⟩
abbrev acr : Sig := ⟨[.agg [.own 0, .i, .own 1, .i, .bool, .bool, .i, .rows true .i64, .own 2, .i], .b], [.rows true .i64, .rows true .i64, .rows true .i64], [.agg [.own 0, .i, .own 1, .i, .bool, .bool, .i, .rows true .i64, .own 2, .i]], [.rows true .i64, .rows true .i64, .rows true .i64]⟩
abbrev nW : Sig := ⟨[.agg [.own 0, .i, .own 1, .i, .bool, .bool, .i, .rows true .i64, .own 2, .i], .i], [.rows true .i64, .rows true .i64, .rows true .i64], [.agg [.own 0, .i, .own 1, .i, .bool, .bool, .i, .rows true .i64, .own 2, .i]], [.rows true .i64, .rows true .i64, .rows true .i64]⟩
abbrev kP : Sig := ⟨[.i], [], [.i], []⟩
abbrev wR : Sig := ⟨[.i, .i, .i], [], [.i], []⟩
abbrev Mf : Sig := ⟨[.agg [.own 0, .i, .own 1, .i, .bool, .bool, .i, .rows true .i64, .own 2, .i], .i, .i], [.rows true .i64, .rows true .i64, .rows true .i64], [.agg [.own 0, .i, .own 1, .i, .bool, .bool, .i, .rows true .i64, .own 2, .i]], [.rows true .i64, .rows true .i64, .rows true .i64]⟩
abbrev CU : Sig := ⟨[.i, .i], [], [.i], []⟩
abbrev acs : Sig := ⟨[.agg [.own 0, .i, .own 1, .i, .bool, .bool, .i, .rows true .i64, .own 2, .i], .sv false .ins], [.rows true .i64, .rows true .i64, .rows true .i64], [.agg [.own 0, .i, .own 1, .i, .bool, .bool, .i, .rows true .i64, .own 2, .i]], [.rows true .i64, .rows true .i64, .rows true .i64]⟩
abbrev Mg : Sig := ⟨[.agg [.own 0, .i, .own 1, .i, .bool, .bool, .i, .rows true .i64, .own 2, .i], .sv false .ins], [.rows true .i64, .rows true .i64, .rows true .i64], [.agg [.own 0, .i, .own 1, .i, .bool, .bool, .i, .rows true .i64, .own 3, .i]], [.rows true .i64, .rows true .i64, .gone, .rows true .i64]⟩
abbrev Rx : Sig := ⟨[.sv false .ay, .b], [], [.agg [.own 0, .i, .own 1, .i, .bool, .bool, .i, .rows true .i64, .own 2, .i]], [.rows true .i64, .rows true .i64, .rows true .i64]⟩
abbrev acu : Sig := ⟨[.sv false .ay, .r false .i64, .i], [], [.agg [.own 0, .i, .own 1, .i, .bool, .bool, .i, .rows true .i64, .own 2, .i]], [.rows true .i64, .rows true .i64, .rows true .i64]⟩
abbrev acv : Sig := ⟨[.p 0 2], [.g [.rows true .u8, .i]], [.agg [.own 1, .i, .own 2, .i, .bool, .bool, .i, .rows true .i64, .own 3, .i]], [.g [.rows true .u8, .i], .rows true .i64, .rows true .i64, .rows true .i64]⟩
abbrev acw : Sig := ⟨[.p 0 2, .i], [.g [.rows true .u8, .i]], [.agg [.own 1, .i, .rows true .i64, .i, .bool, .bool, .i, .rows true .i64, .own 2, .i]], [.g [.rows true .u8, .i], .rows true .i64, .rows true .i64]⟩
abbrev aa2 : Sig := ⟨[.i, .r false .ins], [], [.b], []⟩
abbrev Pn : Sig := ⟨[.sv false .iop], [], [.b], []⟩
abbrev CV : Sig := ⟨[.p 0 8, .i, .i, .i, .i], [.g [.i, .i, .own 1, .i, .i, .i, .i, .i], .rows true .iop], [.i], [.g [.i, .i, .own 2, .i, .i, .i, .i, .i], .gone, .rows true .iop]⟩
abbrev acy : Sig := ⟨[.i, .p 0 1, .p 1 4], [.box (.p 2 8), .s false .ins, .g [.i, .i, .own 3, .i, .i, .i, .i, .i], .rows true .iop], [], [.box (.p 2 8), .s false .ins, .g [.i, .i, .own 4, .i, .i, .i, .i, .i], .gone, .rows true .iop]⟩
abbrev Mh : Sig := ⟨[.p 0 8, .i], [.g [.i, .i, .own 1, .i, .i, .i, .i, .i], .rows true .iop], [.i], [.g [.i, .i, .own 2, .i, .i, .i, .i, .i], .gone, .rows true .iop]⟩
abbrev acz : Sig := ⟨[.p 0 8, .i, .i, .i], [.g [.i, .i, .own 1, .i, .i, .i, .i, .i], .rows true .iop], [.i], [.g [.i, .i, .own 2, .i, .i, .i, .i, .i], .gone, .rows true .iop]⟩
abbrev acA : Sig := ⟨[.p 0 8, .sv false .ins], [.g [.i, .i, .own 1, .i, .i, .i, .i, .i], .rows true .iop], [], [.g [.i, .i, .own 2, .i, .i, .i, .i, .i], .gone, .rows true .iop]⟩
abbrev jE : Sig := ⟨[.sv false .blk], [], [.agg [.i, .i, .own 0, .i, .i, .i, .i]], [.rows true .iop]⟩
abbrev Mi : Sig := ⟨[.i, .r false .ins], [], [.agg [.i, .i, .own 0, .i, .i, .i, .i]], [.rows true .iop]⟩
abbrev aiM : Sig := ⟨[.r false .i64], [], [.o 0], [.rows true .ins]⟩
abbrev Po : Sig := ⟨[.sv false .iop], [], [.b, .b, .b, .b], []⟩
abbrev Pp : Sig := ⟨[.sv false .blk, .i, .i], [], [.b], []⟩
abbrev aj4 : Sig := ⟨[.sv false .blk, .i], [], [.b], []⟩
abbrev Pq : Sig := ⟨[.sv false .blk], [], [.b, .b, .b], []⟩
abbrev jY : Sig := ⟨[.sv false .blk], [], [.b], []⟩
abbrev acB : Sig := ⟨[.r false .iop, .r false .iop], [], [.b], []⟩
abbrev wS : Sig := ⟨[.sv false .blk, .sv false .blk], [], [.b], []⟩
abbrev aj5 : Sig := ⟨[.i, .p 0 1], [.box (.i)], [.b], [.box (.i)]⟩
abbrev acC : Sig := ⟨[.r false .i64, .c (.fn 311 [(0, 1)])], [.box (.i)], [.i], [.box (.i)]⟩
abbrev acD : Sig := ⟨[.r false .i64, .c (.fn 311 [(0, 1)])], [.box (.i)], [.b], [.box (.i)]⟩
abbrev Pv : Sig := ⟨[.sv false .poly, .i], [], [.b], []⟩
abbrev alH : Sig := ⟨[.r false .i64], [], [.i], []⟩
abbrev pQ : Sig := ⟨[.r false .i64, .r false .i64], [], [.i], []⟩
abbrev aiN : Sig := ⟨[.i, .i], [], [.b], []⟩
abbrev Zy : Sig := ⟨[.sv false .mono], [], [.b], []⟩
abbrev acE : Sig := ⟨[.r false .mono, .c (.fn 293 [])], [], [.i], []⟩
abbrev acF : Sig := ⟨[.r false .mono, .c (.fn 293 [])], [], [.b], []⟩
abbrev pR : Sig := ⟨[.sv false .poly], [], [.b], []⟩
abbrev KM : Sig := ⟨[.sv false .atom, .i], [], [.b], []⟩
abbrev uP : Sig := ⟨[.sv false .poly, .sv false .poly], [], [.i], []⟩
abbrev tQ : Sig := ⟨[.sv false .poly, .sv false .poly], [], [.b], []⟩
abbrev Pw : Sig := ⟨[.sv false .atom, .sv false .atom], [], [.b], []⟩
abbrev aj6 : Sig := ⟨[.sv false .atom, .p 0 4], [.s false .atom], [.b], [.s false .atom]⟩
abbrev acG : Sig := ⟨[.r false .atom, .c (.fn 282 [(0, 4)])], [.s false .atom], [.i], [.s false .atom]⟩
abbrev acH : Sig := ⟨[.sv false .tab, .sv false .atom], [], [.i], []⟩
abbrev acI : Sig := ⟨[.r true .atom], [], [.c (.clip true .atom)], []⟩
abbrev acJ : Sig := ⟨[.sv true .tab, .sv true .atom], [], [.sv true .tab, .i], []⟩
abbrev pU : Sig := ⟨[.i], [], [.agg [.own 0]], [.rows true .mono]⟩
abbrev Ry : Sig := ⟨[.p 0 2, .i, .i], [.g [.rows true .atom, .bool]], [.sv true .poly], [.g [.rows true .atom, .bool]]⟩
abbrev Rz : Sig := ⟨[.p 0 2], [.g [.rows true .atom, .bool]], [.o 1], [.g [.rows true .atom, .bool], .rows true .poly]⟩
abbrev Mj : Sig := ⟨[.r false .i64], [], [.o 0], [.rows true .i64]⟩
abbrev Zz : Sig := ⟨[.sv false .poly], [], [.agg [.own 0]], [.rows true .mono]⟩
abbrev Px : Sig := ⟨[.sv false .tab], [], [.agg [.own 0]], [.rows true .atom]⟩
abbrev aj7 : Sig := ⟨[], [], [.sv true .tab, .r true .poly], []⟩
abbrev ZA : Sig := ⟨[.sv false .tab], [], [.b], []⟩
abbrev acK : Sig := ⟨[.o 0], [.rows true .poly], [.o 1], [.rows true .poly, .rows true .poly]⟩
abbrev GI : Sig := ⟨[.sv false .poly], [], [.i, .b], []⟩
abbrev RA : Sig := ⟨[.sv false .mono, .sv false .mono], [], [.i], []⟩
abbrev acL : Sig := ⟨[.o 0, .i, .i, .c (.fn 328 [])], [.rows false .mono], [], [.rows false .mono]⟩
abbrev Ae : Sig := ⟨[.o 0, .i, .i, .i, .c (.fn 328 [])], [.rows false .mono], [], [.rows false .mono]⟩
abbrev RD : Sig := ⟨[.o 0, .i, .i, .i, .c (.fn 328 [])], [.rows false .mono], [], [.rows false .mono]⟩
abbrev acM : Sig := ⟨[.o 0, .i, .c (.fn 328 [])], [.rows false .mono], [], [.rows false .mono]⟩
abbrev acN : Sig := ⟨[.o 0, .c (.fn 328 [])], [.rows false .mono], [], [.rows false .mono]⟩
abbrev RF : Sig := ⟨[.o 0], [.rows false .mono], [.agg [.own 1], .b], [.rows false .mono, .rows true .mono]⟩
abbrev acO : Sig := ⟨[.c (.nil), .i], [], [.o 0], [.rows true .mono]⟩
abbrev acP : Sig := ⟨[.r false .poly], [], [.o 0], [.rows false .mono]⟩
abbrev Bo : Sig := ⟨[.sv false .poly, .sv false .poly], [], [.agg [.own 0], .b], [.rows true .mono]⟩
abbrev acQ : Sig := ⟨[.c (.nil), .i], [], [.o 0], [.rows true .i64]⟩
abbrev acR : Sig := ⟨[.r false .ints], [], [.o 0], [.rows true .i64]⟩
abbrev GJ : Sig := ⟨[.o 0, .i, .i], [.rows true .i64], [], [.rows true .i64]⟩
abbrev acS : Sig := ⟨[.o 0, .i, .i], [.rows true .i64], [], [.rows true .i64]⟩
abbrev acT : Sig := ⟨[.o 0, .i, .i], [.rows true .i64], [], [.rows true .i64]⟩
abbrev RG : Sig := ⟨[.o 0, .i, .i], [.rows true .i64], [.i, .i], [.rows true .i64]⟩
abbrev acU : Sig := ⟨[.o 0, .i, .i], [.rows true .i64], [], [.rows true .i64]⟩
abbrev RH : Sig := ⟨[.o 0, .i, .i], [.rows true .i64], [.b], [.rows true .i64]⟩
abbrev RL : Sig := ⟨[.o 0, .i, .i, .i], [.rows true .i64], [.i], [.rows true .i64]⟩
abbrev RN : Sig := ⟨[.o 0, .i, .i, .i], [.rows true .i64], [.i, .b], [.rows true .i64]⟩
abbrev GK : Sig := ⟨[.o 0, .i, .i, .i], [.rows true .i64], [], [.rows true .i64]⟩
abbrev acV : Sig := ⟨[.c (.int .u64)], [], [.i], []⟩
abbrev acW : Sig := ⟨[.o 0], [.rows true .i64], [], [.rows true .i64]⟩
abbrev ZB : Sig := ⟨[.sv false .poly, .i], [], [.agg [.own 0]], [.rows true .mono]⟩
abbrev acX : Sig := ⟨[.i, .sv true .poly, .sv true .poly], [], [.sv true .poly, .b], []⟩
abbrev aj8 : Sig := ⟨[.sv true .tab, .i, .sv true .poly, .sv true .poly], [], [.sv true .tab, .sv true .poly, .b], []⟩
abbrev CW : Sig := ⟨[.r false .poly], [], [.o 0], [.rows true .poly]⟩
abbrev aj9 : Sig := ⟨[.sv false .sym], [], [.agg [.own 0, .own 1, .i, .own 2, .own 3, .i]], [.rows true .ev, .rows true .poly, .rows true .mono, .rows true .mono]⟩
abbrev akb : Sig := ⟨[.sv false .sym, .i], [], [.sv true .sym], []⟩
abbrev akc : Sig := ⟨[.sv true .tab, .sv false .blk], [], [.sv true .tab, .sv true .sym], []⟩
abbrev acY : Sig := ⟨[.r false .poly, .r false .poly, .c (.fn 231 [])], [], [.b], []⟩
abbrev CX : Sig := ⟨[.r false .poly, .r false .poly], [], [.b], []⟩
abbrev ZE : Sig := ⟨[.sv false .ev, .sv false .ev], [], [.b], []⟩
abbrev acZ : Sig := ⟨[.r false .ev, .r false .ev, .c (.fn 174 [])], [], [.b], []⟩
abbrev ZF : Sig := ⟨[.sv false .sym, .sv false .sym], [], [.b], []⟩
abbrev ac0 : Sig := ⟨[.sv false .cac, .p 0 8], [.s true .cac], [.b], [.s true .cac]⟩
abbrev ac1 : Sig := ⟨[.r false .i64, .r false .i64], [], [.b], []⟩
abbrev ac2 : Sig := ⟨[.sv false .cac, .r false .i64], [], [.b], []⟩
abbrev ac3 : Sig := ⟨[.sv false .cac, .p 0 1], [.box (.r false .i64)], [.b], [.box (.r false .i64)]⟩
abbrev akd : Sig := ⟨[.sv false .cac, .p 0 1], [.box (.i)], [.b], [.box (.i)]⟩
abbrev ac4 : Sig := ⟨[.r false .cac, .c (.fn 106 [(0, 1)])], [.box (.i)], [.i], [.box (.i)]⟩
abbrev ac5 : Sig := ⟨[.r false .cac, .c (.fn 87 [(0, 8)])], [.s true .cac], [.i], [.s true .cac]⟩
abbrev ac6 : Sig := ⟨[.o 0, .c (.fn 90 [(1, 1)])], [.rows true .cac, .box (.r false .i64)], [.i], [.rows true .cac, .box (.r false .i64)]⟩
abbrev ZG : Sig := ⟨[.r false .cac, .i], [], [.i], []⟩
abbrev Py : Sig := ⟨[.r false .cac, .r false .i64], [], [.b], []⟩
abbrev ake : Sig := ⟨[.r false .cer], [], [.b], []⟩
abbrev ac7 : Sig := ⟨[.sv false .eng], [], [.b], []⟩
abbrev KN : Sig := ⟨[.sv false .cac], [], [.agg [.own 0, .i, .i, .own 1, .i, .i, .i, .i]], [.rows true .i64, .rows true .iop]⟩
abbrev RO : Sig := ⟨[.r false .cac], [], [.o 0], [.rows true .cac]⟩
abbrev ac8 : Sig := ⟨[.sv false .cer], [], [.agg [.i, .i, .own 0, .i, .i, .i, .i, .i, .i, .own 1, .i, .i, .i, .i]], [.rows true .iop, .rows true .iop]⟩
abbrev ac9 : Sig := ⟨[.o 0, .c (.fn 87 [(1, 8)])], [.rows true .cac, .s true .cac], [.o 2], [.gone, .s true .cac, .rows true .cac]⟩
abbrev ada : Sig := ⟨[.o 0, .c (.fn 90 [(1, 1)])], [.rows true .cac, .box (.r false .i64)], [.o 2], [.gone, .box (.r false .i64), .rows true .cac]⟩
abbrev Pz : Sig := ⟨[.r false .cac, .r false .i64], [], [.o 0], [.rows true .cac]⟩
abbrev adb : Sig := ⟨[.sv false .ay], [], [.o 0], [.rows true .ins]⟩
abbrev ade : Sig := ⟨[.r false .i64, .i], [], [.i], []⟩
abbrev adf : Sig := ⟨[.r false .cac, .i], [], [.r false .cac], []⟩
abbrev akf : Sig := ⟨[.r false .cac, .sv true .cac], [], [.o 0], [.rows true .cac]⟩
abbrev adg : Sig := ⟨[.p 0 7, .r false .i64], [.g [.i, .i, .own 1, .i, .i, .i, .i], .rows true .iop], [], [.g [.i, .i, .own 1, .i, .i, .i, .i], .rows true .iop]⟩
abbrev KO : Sig := ⟨[.sv false .blk, .r false .bool], [], [.agg [.i, .i, .own 0, .i, .i, .i, .i]], [.rows true .iop]⟩
abbrev ZH : Sig := ⟨[.sv false .blk], [], [.o 0], [.rows true .bool]⟩
abbrev zm : Sig := ⟨[.sv false .blk], [], [.sv true .blk], []⟩
abbrev akg : Sig := ⟨[.i, .p 0 7], [.g [.i, .i, .own 1, .i, .i, .i, .i], .rows true .iop], [.b], [.g [.i, .i, .own 1, .i, .i, .i, .i], .rows true .iop]⟩
abbrev akh : Sig := ⟨[.sv false .blk], [], [.o 0], [.rows true .u8]⟩
abbrev aki : Sig := ⟨[.r false .u8], [], [.agg [.i, .i, .own 0, .i, .i, .i, .i], .b], [.rows true .iop]⟩
abbrev akj : Sig := ⟨[.r false .cer, .sv false .blk, .sv false .blk], [], [.b], []⟩
abbrev akk : Sig := ⟨[.r false .cer, .sv false .cer], [], [.o 0], [.rows true .cer]⟩
abbrev adh : Sig := ⟨[], [], [.b], []⟩
abbrev alI : Sig := ⟨[.r true .u8], [], [.b], []⟩
abbrev adi : Sig := ⟨[.sv false .ay], [], [.agg [.rows true .i64, .i, .own 1, .i, .bool, .bool, .i, .rows true .i64, .rows true .i64, .i, .own 2, .own 0]], [.rows true .cer, .rows true .i64, .rows true .cac]⟩
abbrev CY : Sig := ⟨[.agg [.i, .i, .own 0, .i, .i, .i, .i], .sv false .iop], [.rows true .iop], [.agg [.i, .i, .own 1, .i, .i, .i, .i], .i], [.gone, .rows true .iop]⟩
abbrev RQ : Sig := ⟨[.agg [.i, .i, .own 0, .i, .i, .i, .i], .i, .i], [.rows true .iop], [.agg [.i, .i, .own 1, .i, .i, .i, .i]], [.gone, .rows true .iop]⟩
abbrev GL : Sig := ⟨[.agg [.i, .i, .own 0, .i, .i, .i, .i], .i], [.rows true .iop], [.agg [.i, .i, .own 1, .i, .i, .i, .i], .i], [.gone, .rows true .iop]⟩
abbrev RS : Sig := ⟨[.agg [.i, .i, .own 0, .i, .i, .i, .i], .i, .i, .sv false .iop], [.rows true .iop], [.agg [.i, .i, .own 1, .i, .i, .i, .i], .i], [.gone, .rows true .iop]⟩
abbrev Mk : Sig := ⟨[.agg [.i, .i, .own 0, .i, .i, .i, .i], .sv false .ins, .i], [.rows true .iop], [.agg [.i, .i, .own 1, .i, .i, .i, .i]], [.gone, .rows true .iop]⟩
abbrev adk : Sig := ⟨[.agg [.i, .i, .own 0, .i, .i, .i, .i], .sv false .ins], [.rows true .iop], [.agg [.i, .i, .own 1, .i, .i, .i, .i]], [.gone, .rows true .iop]⟩
abbrev GN : Sig := ⟨[.r false .iop, .i, .i], [], [.b], []⟩
abbrev RU : Sig := ⟨[], [], [.agg [.own 0], .o 1], [.rows true .atom, .rows true .poly]⟩
abbrev adl : Sig := ⟨[.sv false .atom], [], [.b], []⟩
abbrev rA : Sig := ⟨[.r false .mono], [], [.agg [.own 0]], [.rows true .mono]⟩
abbrev RV : Sig := ⟨[.sv false .atom], [], [.agg [.i, .i, .own 0, .own 1]], [.rows true .mono, .rows true .mono]⟩
abbrev Ml : Sig := ⟨[.agg [.own 0], .sv false .atom], [.rows true .atom], [.agg [.own 1], .i], [.gone, .rows true .atom]⟩
abbrev adn : Sig := ⟨[.o 0, .i], [.rows false .poly], [.sv false .poly], [.rows false .poly]⟩
abbrev RX : Sig := ⟨[.r false .mono, .sv false .mono], [], [.o 0], [.rows false .mono]⟩
abbrev RY : Sig := ⟨[.r false .mono], [], [.agg [.own 0], .b], [.rows true .mono]⟩
abbrev ado : Sig := ⟨[.r false .i64, .r false .i64], [], [.o 0], [.rows true .i64]⟩
abbrev Mq : Sig := ⟨[.i, .sv false .poly, .sv false .poly], [], [.agg [.own 0], .b], [.rows true .mono]⟩
abbrev adp : Sig := ⟨[.i, .i, .sv false .poly], [], [.agg [.own 0], .b], [.rows true .mono]⟩
abbrev adq : Sig := ⟨[.agg [.own 0], .i, .sv false .poly, .sv false .poly], [.rows true .atom], [.agg [.own 1], .agg [.own 2]], [.gone, .rows true .atom, .rows true .mono]⟩
abbrev ads : Sig := ⟨[.r false .ev, .i], [], [.i], []⟩
abbrev adt : Sig := ⟨[.agg [.own 0], .r false .ev, .i], [.rows true .atom], [.agg [.own 1], .agg [.own 2]], [.gone, .rows true .atom, .rows true .mono]⟩
abbrev adu : Sig := ⟨[.sv false .iop, .sv false .poly, .sv false .poly, .r false .poly], [], [.agg [.i, .i, .own 0, .own 1, .own 2]], [.rows true .mono, .rows true .mono, .rows true .poly]⟩
abbrev Mr : Sig := ⟨[.sv false .blk], [], [.i], []⟩
abbrev RZ : Sig := ⟨[.sv false .sym, .i], [], [.agg [.rows false .ev, .rows false .poly, .i, .nil, .nil, .i]], []⟩
abbrev Mv : Sig := ⟨[.sv false .sym, .i], [], [.sv false .sym], []⟩
abbrev adw : Sig := ⟨[.sv false .tab, .sv false .blk], [], [.sv false .tab, .sv false .sym], []⟩
abbrev adx : Sig := ⟨[.sv false .cac], [], [.b], []⟩
abbrev R3 : Sig := ⟨[.r false .i64, .r false .i64, .i], [], [.b], []⟩
abbrev ady : Sig := ⟨[.sv false .eng], [], [.agg [.rows true .i64, .i, .own 1, .i, .bool, .bool, .i, .rows true .i64, .rows true .i64, .i, .own 2, .own 0]], [.rows true .cer, .rows true .i64, .rows true .cac]⟩
abbrev adz : Sig := ⟨[.agg [.rows true .i64, .i, .rows true .i64, .i, .bool, .bool, .i, .rows true .i64, .rows true .i64, .i, .rows true .cac, .own 0], .r false .i64], [.rows true .cer], [.agg [.rows true .i64, .i, .own 1, .i, .bool, .bool, .i, .rows true .i64, .rows true .i64, .i, .own 2, .own 0]], [.rows true .cer, .rows true .i64, .rows true .cac]⟩
abbrev R4 : Sig := ⟨[.sv false .iop, .r false .i64], [], [.sv true .iop], []⟩
abbrev adA : Sig := ⟨[.r false .iop, .i], [], [.b], []⟩
abbrev R5 : Sig := ⟨[.r false .iop, .i], [], [.i, .b], []⟩
abbrev adB : Sig := ⟨[.sv false .blk, .i], [], [.agg [.i, .i, .rows false .iop, .i, .i, .i, .i]], []⟩
abbrev Mw : Sig := ⟨[.sv false .blk], [], [.sv false .blk], []⟩
abbrev adC : Sig := ⟨[.r false .u8, .i], [], [.i], []⟩
abbrev adD : Sig := ⟨[.sv false .blk, .sv false .ask], [], [.sv true .blk, .b], []⟩
abbrev adE : Sig := ⟨[.agg [.rows true .i64, .i, .rows true .i64, .i, .bool, .bool, .i, .rows true .i64, .rows true .i64, .i, .rows true .cac, .own 0], .sv true .blk, .sv false .ask], [.rows true .cer], [.agg [.rows true .i64, .i, .rows true .i64, .i, .bool, .bool, .i, .rows true .i64, .rows true .i64, .i, .rows true .cac, .own 1], .sv true .blk], [.gone, .rows true .cer]⟩
abbrev adF : Sig := ⟨[.r false .cac, .sv false .cac], [], [.r true .cac], []⟩
abbrev adG : Sig := ⟨[.agg [.rows true .i64, .i, .rows true .i64, .i, .bool, .bool, .i, .rows true .i64, .rows true .i64, .i, .rows true .cac, .own 0], .sv false .ask], [.rows true .cer], [.agg [.rows true .i64, .i, .rows true .i64, .i, .bool, .bool, .i, .rows true .i64, .rows true .i64, .i, .rows true .cac, .own 1], .i, .b], [.gone, .rows true .cer]⟩
abbrev adH : Sig := ⟨[.sv false .ay, .r false .i64, .i, .i], [], [.b], []⟩
abbrev adI : Sig := ⟨[.agg [.own 0, .i, .own 1, .i, .bool, .bool, .i, .rows true .i64, .own 2, .i], .sv false .blk, .i, .i], [.rows true .i64, .rows true .i64, .rows true .i64], [.agg [.own 0, .i, .own 1, .i, .bool, .bool, .i, .rows true .i64, .own 2, .i]], [.rows true .i64, .rows true .i64, .rows true .i64]⟩
abbrev adJ : Sig := ⟨[.agg [.own 0, .i, .own 1, .i, .bool, .bool, .i, .rows true .i64, .own 2, .i], .sv false .blk, .sv false .iop, .i, .i], [.rows true .i64, .rows true .i64, .rows true .i64], [.agg [.own 0, .i, .own 1, .i, .bool, .bool, .i, .rows true .i64, .own 3, .i], .i, .b], [.rows true .i64, .rows true .i64, .gone, .rows true .i64]⟩
abbrev adK : Sig := ⟨[.sv false .ay, .sv false .iop, .i, .i], [], [.i], []⟩
abbrev adL : Sig := ⟨[.sv false .blk, .r false .i64], [], [.i], []⟩
abbrev adM : Sig := ⟨[.sv false .blk, .sv false .ay], [], [.agg [.own 0, .i, .own 1, .i, .bool, .bool, .i, .rows true .i64, .own 2, .i], .b], [.rows true .i64, .rows true .i64, .rows true .i64]⟩
abbrev adN : Sig := ⟨[.sv false .eng, .r false .i64, .i, .sv false .ask], [], [.agg [.rows true .i64, .i, .own 1, .i, .bool, .bool, .i, .rows true .i64, .rows true .i64, .i, .own 2, .own 0], .b], [.rows true .cer, .rows true .i64, .rows true .cac]⟩
abbrev GQ : Sig := ⟨[.p 0 2, .sv false .blk], [.g [.rows true .u8, .i]], [.agg [.i, .i, .own 1, .i, .i, .i, .i]], [.g [.rows true .u8, .i], .rows true .iop]⟩
abbrev adO : Sig := ⟨[.p 0 2], [.g [.rows true .u8, .i]], [.o 1], [.g [.rows true .u8, .i], .rows true .ins]⟩
abbrev R6 : Sig := ⟨[.p 0 2], [.g [.rows true .u8, .i]], [.agg [.i, .i, .own 1, .i, .i, .i, .i]], [.g [.rows true .u8, .i], .rows true .iop]⟩
abbrev adP : Sig := ⟨[.o 0, .i], [.rows true .u8], [.o 1], [.gone, .rows true .u8]⟩
abbrev adQ : Sig := ⟨[.p 0 2, .r true .u8], [.g [.rows true .u8, .i]], [.o 1], [.g [.rows true .u8, .i], .rows true .u8]⟩
abbrev adR : Sig := ⟨[.p 0 2, .sv false .ay], [.g [.rows true .u8, .i]], [.agg [.bool, .own 1]], [.g [.rows true .u8, .i], .rows true .u8]⟩
abbrev adS : Sig := ⟨[.p 0 2], [.g [.rows true .u8, .i]], [.agg [.rows true .i64, .i, .own 2, .i, .bool, .bool, .i, .rows true .i64, .rows true .i64, .i, .own 3, .own 1]], [.g [.rows true .u8, .i], .rows true .cer, .rows true .i64, .rows true .cac]⟩
abbrev R7 : Sig := ⟨[.p 0 2, .i], [.g [.rows true .u8, .i]], [.sv true .eng], [.g [.rows true .u8, .i]]⟩
abbrev adT : Sig := ⟨[.r true .u8], [], [.sv true .eng], []⟩
abbrev adU : Sig := ⟨[.r true .u8], [], [.r true .cac, .r true .i64], []⟩
abbrev vF : List SkC := [.nil, .nil, .i, .nil, .nil, .i]
abbrev R8 : List SkC := [.rows true .atom, .bool]
abbrev qq2 : eO := ⟨[(3, .p 0 7), (4, .p 1 1), (5, .p 2 6), (6, .p 3 2), (7, .p 4 6), (8, .o 5), (9, .i), (10, .i), (57, .r false .iop), (58, .i), (59, .i)], [.s false .blk, .g [.nil], .g vF, .g R8, .g [.own 6, .own 7, .i, .nil, .nil, .i], .rows true .poly, .rows true .ev, .rows true .poly]⟩
abbrev vG : List SkC := [.rows true .u8, .i]
abbrev aa3 : List SkC := [.nil, .i, .nil, .i, .bool, .bool, .i, .nil, .nil, .i, .nil, .nil]
abbrev auE : List SkC := [.rows true .i64, .i, .own 3, .i, .bool, .bool, .i, .rows true .i64, .rows true .i64, .i, .own 4, .own 5]
abbrev qq4 : eO := ⟨[(4, .p 1 12), (5, .p 2 12)], [.g vG, .g aa3, .g auE, .rows true .i64, .rows true .cac, .rows true .cer]⟩
abbrev qq9 : List SkC := [.nil, .i, .nil, .i, .bool, .bool, .i, .nil, .nil, .i]
abbrev qq5 : List SkO := [.g vG, .g qq9, .g [.own 3, .i, .own 4, .i, .bool, .bool, .i, .rows true .i64, .own 5, .i], .rows true .i64, .rows true .i64, .rows true .i64]
abbrev qq7 : List SkC := [.i, .i, .nil, .i, .i, .i, .i]
abbrev qq8 : Ann := (.cond .u .u)
abbrev Mx : eO := ⟨[(4, .p 1 7), (5, .p 2 7)], [.g vG, .g qq7, .g [.i, .i, .own 3, .i, .i, .i, .i], .rows true .iop]⟩
abbrev alJ : List SkO := [.g vF, .g [.own 2, .own 3, .i, .own 4, .own 5, .i], .rows true .ev, .rows true .poly, .rows true .mono, .rows true .mono]
abbrev MB : eO := ⟨[], [.g [.i, .i, .own 2, .i, .i, .i, .i, .i], .gone, .rows true .iop]⟩
abbrev aiO : eO := ⟨[(4, .p 1 10), (5, .p 2 10)], [.g vG, .g qq9, .g [.own 3, .i, .rows true .i64, .i, .bool, .bool, .i, .rows true .i64, .own 4, .i], .rows true .i64, .rows true .i64]⟩
abbrev alK : eO := ⟨[(2, .p 0 7), (4, .p 1 10), (6, .p 2 10), (7, .o 3), (8, .i), (9, .p 4 5), (82, .b)], [.s false .blk, .g qq9, .g [.own 5, .i, .own 6, .i, .bool, .bool, .i, .rows true .i64, .own 7, .i], .rows true .i64, .s false .iop, .rows true .i64, .rows true .i64, .rows true .i64]⟩
abbrev aa4 : List SkO := [.g qq7, .g [.i, .i, .own 2, .i, .i, .i, .i], .rows true .iop]
abbrev aiP : eO := ⟨[(1, .p 0 7), (2, .p 1 7), (3, .o 2), (4, .o 3), (18, .r false .iop), (19, .i), (20, .i)], [.s false .blk, .g qq7, .rows true .i64, .rows true .i64]⟩
abbrev arq : List SkO := [.rows true .i64, .rows true .i64, .rows true .i64, .g [.own 0, .i, .own 1, .i, .bool, .bool, .i, .rows true .i64, .own 2, .i], .g qq9]
abbrev ars : eO := ⟨[(3, .p 0 7), (4, .p 1 1), (5, .p 2 6), (6, .p 3 2), (7, .p 4 6), (8, .o 5), (9, .i), (10, .i), (11, .i), (12, .p 6 5), (17, .p 7 1), (18, .p 8 1), (57, .r false .iop), (58, .i), (59, .i)], [.s false .blk, .g [.nil], .g vF, .g R8, .g [.own 9, .own 10, .i, .nil, .nil, .i], .rows true .poly, .s false .iop, .s true .poly, .s true .poly, .rows true .ev, .rows true .poly]⟩
abbrev aiQ : eO := ⟨[(1, .p 0 7), (2, .p 1 7), (3, .o 2), (4, .o 3), (5, .i)], [.s false .blk, .g qq7, .rows true .bool, .rows true .bool]⟩
abbrev wT : List SkO := [.rows false .mono]
abbrev aru : List SkO := [.s false .blk, .g qq9, .g [.own 4, .i, .own 5, .i, .bool, .bool, .i, .rows true .i64, .own 6, .i], .rows true .i64, .rows true .i64, .rows true .i64, .rows true .i64]
abbrev arv : eO := ⟨[(3, .p 0 7), (4, .p 1 1), (5, .p 2 6), (6, .p 3 1), (7, .p 4 6), (9, .o 5), (13, .o 6), (14, .i), (18, .p 7 1)], [.s false .blk, .g [.nil], .g vF, .g [.own 8], .g [.own 9, .nil, .i, .nil, .nil, .i], .rows false .poly, .rows false .poly, .g [.own 10], .rows true .atom, .rows true .ev, .rows true .mono]⟩
abbrev alL : List SkO := [.rows true .i64, .rows true .i64, .rows true .i64, .g [.own 0, .i, .own 1, .i, .bool, .bool, .i, .rows true .i64, .own 2, .i], .s false .ins, .g qq9]
abbrev adV : List SkO := [.s false .blk, .rows true .bool]
abbrev arw : eO := ⟨[(3, .p 0 7), (4, .p 1 1), (5, .p 2 6), (6, .p 3 1), (7, .p 4 6), (9, .o 5), (13, .o 6), (14, .i), (18, .p 7 1)], [.s false .blk, .g [.nil], .g vF, .g [.own 8], .g [.own 9, .nil, .i, .nil, .nil, .i], .rows false .poly, .rows false .poly, .s false .poly, .rows true .atom, .rows true .ev]⟩
abbrev alM : List SkO := [.s false .blk, .g qq7, .g [.i, .i, .own 3, .i, .i, .i, .i], .rows true .iop]
abbrev arx : eO := ⟨[(4, .p 1 12), (5, .p 2 12)], [.g vG, .g aa3, .g [.rows true .i64, .i, .rows true .i64, .i, .bool, .bool, .i, .rows true .i64, .rows true .i64, .i, .own 3, .own 4], .rows true .cac, .rows true .cer]⟩
abbrev alN : eO := ⟨[(0, .r false .mono), (3, .p 0 2), (5, .o 1), (6, .b), (7, .i)], [.s false .mono, .rows false .mono]⟩
abbrev arz : Ann := (.v (.cut ⟨[(2, .p 0 7), (3, .p 1 7), (4, .o 2), (5, .o 3), (6, .i), (7, .p 4 5), (8, .i)], [.g qq7, .g [.i, .i, .own 5, .i, .i, .i, .i], .rows true .i64, .rows true .i64, .s true .iop, .rows true .iop]⟩ qq8))
abbrev aiR : eO := ⟨[(0, .p 0 2), (3, .o 1), (4, .i)], [.g vG, .rows true .ins]⟩
abbrev arA : eO := ⟨[(1, .r false .bool), (4, .p 0 7), (5, .o 1), (6, .p 2 7), (16, .r false .iop), (17, .i), (18, .i)], [.g qq7, .rows true .i64, .g [.i, .i, .own 3, .i, .i, .i, .i], .rows true .iop]⟩
abbrev aa5 : List SkC := [.i, .i, .own 4, .i, .i, .i, .i]
abbrev GU : List SkO := [.rows true .i64]
abbrev aiS : eO := ⟨[(1, .p 0 4), (4, .i), (30, .b)], [.s false .ins]⟩
abbrev alO : List SkO := [.g [.i, .i, .own 1, .i, .i, .i, .i], .rows true .iop]
abbrev arB : List SkO := [.rows true .iop, .g [.i, .i, .own 0, .i, .i, .i, .i], .s false .ins, .g qq7]
abbrev arC : eO := ⟨[(1, .r false .bool), (2, .p 0 7), (4, .p 1 7), (5, .o 2), (6, .o 3), (7, .i)], [.s false .blk, .g qq7, .rows true .iop, .rows true .i64]⟩
abbrev auF : List SkO := [.g qq9, .g [.own 2, .i, .own 3, .i, .bool, .bool, .i, .rows true .i64, .own 4, .i], .rows true .i64, .rows true .i64, .rows true .i64]
abbrev arD : eO := ⟨[(2, .p 0 1), (3, .p 1 1), (4, .p 2 1), (6, .o 3), (7, .i), (8, .i)], [.s false .poly, .s false .poly, .g [.nil], .rows false .mono]⟩
abbrev arE : Ann := (.cut ⟨[(0, .p 0 2), (4, .p 1 7), (5, .p 2 7), (6, .i), (7, .p 3 5)], [.g vG, .g qq7, .g aa5, .s true .iop, .rows true .iop]⟩ qq8)
abbrev adW : eO := ⟨[(4, .p 0 6), (5, .p 1 6)], alJ⟩
abbrev alP : eO := ⟨[(0, .o 0), (1, .i), (2, .i), (3, .i), (8, .b), (9, .b)], GU⟩
abbrev alQ : Ann := (.v (.cut ⟨[(0, .p 0 2), (2, .p 1 10), (3, .p 2 10)], qq5⟩ qq8))
abbrev arF : List SkO := [.g qq9, .g [.own 2, .i, .own 3, .i, .bool, .bool, .i, .own 4, .nil, .i], .rows true .i64, .rows true .i64, .rows true .i64]
abbrev arG : eO := ⟨[(0, .p 0 2), (4, .p 1 7), (5, .p 2 7), (6, .i)], [.g vG, .g qq7, .g [.i, .i, .own 3, .i, .i, .i, .i], .rows true .iop]⟩
abbrev arH : eO := ⟨[(0, .o 0), (1, .i), (2, .i), (3, .i), (4, .c (.fn 328 [])), (18, .i), (19, .i), (20, .i), (21, .i), (22, .i)], wT⟩
abbrev auG : Ann := (.v (.v (.seq (.v (.block (.loop ⟨[(2, .p 0 7), (3, .p 1 7), (5, .i)], [.s false .blk, .s false .blk]⟩ .u))) .u)))
abbrev arI : eO := ⟨[(0, .o 0), (2, .p 1 1), (4, .p 2 1), (5, .i)], [.rows false .mono, .g [.nil], .g [.own 3], .rows true .mono]⟩
abbrev arJ : eO := ⟨[(1, .i), (2, .p 0 1), (4, .p 1 1), (5, .o 2), (6, .i)], [.s false .poly, .g [.nil], .rows false .mono]⟩
abbrev arK : eO := ⟨[(1, .p 0 7), (2, .p 1 7), (3, .p 2 7), (4, .c (.fn 132 [(2, 7)])), (15, .o 3), (16, .i), (17, .i)], alM⟩
abbrev auH : Ann := (.v (.v (.seq (.v (.block (.loop ⟨[(0, .r false .i64), (1, .r false .i64), (5, .i)], []⟩ .u))) .u)))
abbrev arL : eO := ⟨[(0, .o 0), (1, .c (.fn 90 [(1, 1)])), (5, .i), (6, .i)], [.rows true .cac, .box (.r false .i64)]⟩
abbrev aiT : eO := ⟨[(4, .p 1 10), (5, .p 2 10)], qq5⟩
abbrev arM : Ann := (.block (.loop ⟨[(0, .o 0), (1, .i), (2, .c (.fn 328 [])), (6, .i), (7, .i), (8, .i)], wT⟩ .u))
abbrev aiU : eO := ⟨[(2, .p 0 7), (3, .p 1 7)], aa4⟩
abbrev arN : eO := ⟨[(0, .p 0 2), (2, .p 1 4), (3, .i), (4, .i), (10, .i), (30, .b)], [.g vG, .g [.i, .i, .i, .i]]⟩
abbrev alR : Ann := (.v (.cut ⟨[(1, .p 0 7), (3, .o 1)], adV⟩ qq8))
abbrev arO : Ann := (.block (.loop ⟨[(1, .p 0 10), (3, .o 1), (4, .i)], [.s false .ay, .rows true .ins]⟩ .u))
abbrev arP : eO := ⟨[(0, .o 0), (1, .c (.fn 87 [(1, 8)])), (5, .i), (6, .i)], [.rows true .cac, .s true .cac]⟩
abbrev arQ : eO := ⟨[(0, .r false .cac), (3, .p 0 8), (5, .o 1), (6, .i)], [.s false .cac, .rows true .cac]⟩
abbrev adX : List SkO := [.g vG, .rows true .i64]
abbrev arR : eO := ⟨[(0, .r false .cac), (1, .r false .i64), (5, .o 0), (6, .i)], [.rows true .cac]⟩
abbrev alS : eO := ⟨[(1, .p 0 7), (3, .o 1), (7, .i)], adV⟩
abbrev alT : eO := ⟨[(1, .p 0 7), (3, .o 1), (5, .i)], adV⟩
abbrev arS : eO := ⟨[(0, .r false .i64), (1, .r false .i64), (5, .o 0), (6, .i), (7, .i)], GU⟩
abbrev arT : Ann := (.v (.seq (.v (.block (.loop ⟨[(0, .r false .i64), (3, .i)], []⟩ .u))) .u))
abbrev arU : eO := ⟨[(2, .p 0 7), (4, .p 1 10), (6, .p 2 10), (7, .o 3), (8, .i), (10, .i)], aru⟩
abbrev arV : eO := ⟨[(0, .p 0 7), (1, .r false .i64), (16, .o 1), (17, .i), (18, .i)], alO⟩
abbrev arW : eO := ⟨[(0, .o 0), (2, .i), (4, .c (.fn 328 [])), (14, .i), (15, .i)], wT⟩
abbrev arX : eO := ⟨[(0, .o 0), (2, .i), (4, .c (.fn 328 [])), (10, .i), (11, .i)], wT⟩
abbrev arY : eO := ⟨[(0, .o 0), (1, .i), (4, .c (.fn 328 [])), (10, .i), (11, .i)], wT⟩
abbrev alU : eO := ⟨[(2, .p 3 10), (4, .p 4 10)], arq⟩
abbrev arZ : List SkO := [.g qq7, .g aa5, .rows true .i64, .rows true .i64, .rows true .iop]
abbrev ar0 : eO := ⟨[(0, .o 0), (1, .i), (2, .c (.fn 328 [])), (6, .i)], wT⟩
abbrev ar1 : eO := ⟨[(3, .p 1 7), (4, .p 2 4), (6, .p 3 7), (109, .b)], arB⟩
abbrev ar2 : eO := ⟨[(0, .r false .ev), (1, .i), (5, .i), (6, .i)], []⟩
end Go.TX.F
noncomputable section
namespace Go.TX.F
open Go Go.AE Go.TX Go.TX.Seat Go.Proofs List
set_option maxRecDepth 100000
set_option maxHeartbeats 4000000
def R9:Gt aB.z X E (.v (.seq (.v (.cut ⟨[(0,.r true .u8)],[]⟩ qq8)) .u)) Rt Tryz.f51 []:=gm
def Sb:Gt aB.z X E .u iT Tryz.f54 []:=gm
def Sc:Gt aB.z X E .u Gz Tryz.f55 [(54,iT)]:=gm
def Sd:Gt aB.z X E (.v (.v (.seq (.v (.block (.loop ⟨[(0,.p 0 2),(3,.o 1),(4,.i)],adX⟩ .u))) .u))) CQ Tryz.f53 [(54,iT)]:=gm
def Sg:Gt aB.z X E .u bS Tryz.f62 []:=gm
def Si:Gt aB.z X E arT Aa Tryz.f61 [(62,bS)]:=gm
def Sj:Gt aB.z X E (.v (.v (.v (.seq (.v (.block (.loop ⟨[(0,.r false .i64),(4,.p 0 10),(5,.p 1 10),(6,.i)],arF⟩ (.v (.seq (.block (.v (.seq (.v (.cut ⟨[(0,.r false .i64),(4,.p 0 10),(5,.p 1 10),(6,.i),(7,.i)],arF⟩ qq8)) .u))) .u))))) .u)))) Rv Tryz.f177 [(61,Aa)]:=gm
def Sk:Gt aB.z X E .u Md Tryz.f124 [(54,iT)]:=gm
def Sl:Gt aB.z X E .u bW Tryz.f63 []:=gm
def Sn:Gt aB.z X E (.v (.seq (.v (.block (.v (.cond .u (.v (.cond .u (.v (.cond .u (.seq (.v (.cut aiS (.cond .u (.v (.cut aiS (.cond .u (.v (.cut aiS (.cond .u (.v (.cut aiS qq8))))))))))) (.cond .u (.v (.cond .u (.v (.cond .u (.seq (.v (.cut ⟨[(1,.p 0 4),(54,.b)],[.s false .ins]⟩ qq8)) .u))))))))))))))) .u)) l5 Tryz.f248 []:=gm
def Sq:Gt aB.z X E .u l5 Tryz.f196 [(63,bW),(248,l5)]:=gm
def Sv:Gt aB.z X E .u GA Tryz.f212 [(196,l5)]:=gm
def Sw:Gt aB.z X E (.v (.v (.seq (.v (.block (.loop ⟨[(0,.r false .ins),(3,.o 0),(4,.i)],GU⟩ .u))) .u))) GD Tryz.f153 [(212,GA)]:=gm
def Sy:Gt aB.z X E .u bS Tryz.f197 []:=gm
def Sz:Gt aB.z X E .u l5 Tryz.f195 [(197,bS),(196,l5)]:=gm
def SA:Gt aB.z X E (.v (.v (.v (.seq (.v (.block (.seq (.v (.cut ⟨[(0,.p 0 2),(2,.p 1 4),(3,.i),(4,.i),(10,.i),(11,.b)],[.g vG,.g [.i,.i,.i,.i]]⟩ qq8)) (.cond .u (.v (.cond .u (.seq (.v (.cut arN (.cond .u (.v (.cut arN qq8))))) (.cond .u (.v (.cond .u (.seq (.v (.cut ⟨[(0,.p 0 2),(2,.p 1 4),(3,.i),(4,.i),(10,.i),(54,.b)],[.g vG,.g [.i,.i,.i,.i]]⟩ qq8)) .u))))))))))) .u)))) Ac Tryz.f234 [(54,iT)]:=gm
def SB:Gt aB.z X E .u Ac Tryz.f235 [(234,Ac),(54,iT),(195,l5)]:=gm
def SE:Gt aB.z X E (.v (.v (.v (.seq (.v (.block (.loop ⟨[(0,.p 0 2),(1,.i),(6,.o 1),(7,.i)],[.g vG,.rows true .ins]⟩ (.v (.seq (.block (.v (.seq (.v (.cut ⟨[(0,.p 0 2),(1,.i),(6,.o 1),(7,.i),(8,.p 2 4)],[.g vG,.rows true .ins,.g [.i,.i,.i,.i]]⟩ qq8)) .u))) .u))))) .u)))) Me Tryz.f232 [(235,Ac),(54,iT)]:=gm
def SF:Gt aB.z X E .u Me Tryz.f233 [(54,iT)]:=gm
def SG:Gt aB.z X E (.v (.v (.seq (.v (.cut ⟨[(0,.p 0 2),(3,.o 1)],[.g vG,.rows true .ins]⟩ qq8)) (.seq (.v (.block (.loop aiR (.v (.seq (.block (.v (.block (.v (.cut aiR (.cond .u (.v (.cut aiR (.cond .u (.v (.block (.loop ⟨[(0,.p 0 2),(3,.o 1),(4,.i),(5,.i)],[.g vG,.rows true .ins]⟩ .u)))))))))))) .u))))) (.v (.v (.seq (.block (.loop ⟨[(0,.p 0 2),(6,.o 1)],adX⟩ .u)) (.v (.seq (.v (.block (.loop ⟨[(0,.p 0 2),(6,.o 1),(7,.i)],adX⟩ .u))) (.v (.seq (.v (.cut ⟨[(6,.o 1)],adX⟩ qq8)) .u))))))))))) CQ Tryz.f178 [(153,GD),(212,GA),(232,Me),(235,Ac),(234,Ac),(233,Me),(55,Gz),(54,iT),(124,Md)]:=gm
def SH:Gt aB.z X E (.v (.v (.seq (.v (.block (.loop ⟨[(0,.p 0 2),(1,.i),(5,.o 1),(6,.i)],adX⟩ .u))) .u))) Rw Tryz.f179 [(124,Md)]:=gm
def SK:Gt aB.z X E .u tO Tryz.f19 [(62,bS),(63,bW),(61,Aa)]:=gm
def SL:Gt aB.z X E .u CS Tryz.f70 []:=gm
def SN:Gt aB.z X E (.v (.seq (.v (.block (.loop ⟨[(0,.r false .i64),(1,.i),(5,.i)],[]⟩ .u))) .u)) GH Tryz.f94 []:=gm
def SQ:Gt aB.z X E .u Ad Tryz.f194 [(196,l5),(62,bS)]:=gm
def SX:Gt aB.z X E (.v (.v (.seq (.v (.cut alU qq8)) .u))) acr Tryz.f206 []:=gm
def SY:Gt aB.z X E .u nW Tryz.f207 []:=gm
def S9:Gt aB.z X E (.v (.v (.seq (.v (.cut ⟨[(3,.i)],[]⟩ qq8)) .u))) kP Tryz.f37 []:=gm
def Ta:Gt aB.z X E .u wR Tryz.f217 [(37,kP),(62,bS)]:=gm
def Tc:Gt aB.z X E .u nW Tryz.f275 [(37,kP)]:=gm
def Td:Gt aB.z X E (.v (.seq (.v (.block (.v (.cond .u (.v (.cut alU (.cond .u (.v (.cut alU qq8))))))))) .u)) nW Tryz.f271 [(207,nW),(275,nW)]:=gm
def Te:Gt aB.z X E .u Mf Tryz.f272 [(275,nW)]:=gm
def Tf:Gt aB.z X E (.v (.v (.seq (.v (.block (.loop ⟨[(1,.i),(5,.i),(6,.i)],[]⟩ .u))) .u))) CU Tryz.f273 [(37,kP)]:=gm
def Tg:Gt aB.z X E .u acs Tryz.f274 [(37,kP),(207,nW),(275,nW),(272,Mf)]:=gm
def Ti:Gt aB.z X E (.v (.v (.v (.seq (.v (.cut ⟨[(2,.p 3 10),(3,.p 4 4),(4,.p 5 10),(5,.i)],alL⟩ qq8)) .u)))) Mg Tryz.f276 [(275,nW),(272,Mf)]:=gm
def Tj:Gt aB.z X E (.v (.v (.seq (.v (.block (.v (.cond .u (.v (.cond .u (.v (.cond .u (.v (.cond .u (.seq (.v (.cut ⟨[(2,.p 3 10),(3,.p 4 4),(4,.p 5 10),(5,.i),(13,.i),(45,.b)],alL⟩ qq8)) (.cond .u (.v (.cond .u (.v (.cond .u (.v (.cond .u (.seq (.v (.cut ⟨[(2,.p 3 10),(3,.p 4 4),(4,.p 5 10),(5,.i),(94,.b)],alL⟩ qq8)) .u))))))))))))))))))) .u))) Mg Tryz.f208 [(217,wR),(275,nW),(276,Mg),(274,acs),(272,Mf),(273,CU),(271,nW)]:=gm
def Tk:Gt aB.z X E .u Rx Tryz.f149 [(194,Ad),(19,tO),(70,CS),(208,Mg),(207,nW),(206,acr)]:=gm
def Tm:Gt aB.z X E (.v (.v (.v (.seq (.v (.block (.loop ⟨[(1,.r false .i64),(2,.i),(6,.p 0 10),(7,.p 1 10),(8,.i)],auF⟩ .u))) .u)))) acu Tryz.f180 [(19,tO),(149,Rx),(70,CS),(94,GH)]:=gm
def Tn:Gt aB.z X E (.v (.v (.v (.seq alQ (.seq alQ (.seq alQ (.seq (.v (.cut ⟨[(2,.p 1 10),(3,.p 2 10)],qq5⟩ qq8)) .u))))))) acv Tryz.f110 [(177,Rv),(180,acu),(178,CQ),(53,CQ),(55,Gz),(54,iT),(179,Rw)]:=gm
def Tp:Gt aB.z X E (.v (.v (.seq (.v (.cut aiO (.cond (.v (.block (.v (.cut aiO (.cond .u (.v (.cut aiO (.cond .u (.v (.cut aiO (.cond .u (.v (.cut aiT (.cond .u (.v (.cut aiT (.cond .u (.v (.cut aiT (.cond .u (.v (.cut aiT qq8)))))))))))))))))))))) .u))) .u))) acw Tryz.f52 [(110,acv),(55,Gz),(54,iT)]:=gm
def Tq:Gt aB.z X E .u bW Tryz.f114 []:=gm
def adY:Gt aB.z X E .u bS Tryz.f78 [(114,bW)]:=gm
def Tt:Gt aB.z X E .u bS Tryz.f193 [(114,bW)]:=gm
def adZ:Gt aB.z X E .u l5 Tryz.f126 [(114,bW),(193,bS)]:=gm
def alV:Gt aB.z X E (.v (.v (.seq (.v (.block (.loop ⟨[(1,.r false .ins),(19,.r false .ins),(20,.i),(21,.i)],[]⟩ .u))) .u))) aa2 Tryz.f73 [(78,bS),(126,l5),(114,bW)]:=gm
end Go.TX.F
end
noncomputable section
namespace Go.TX.F
open Go Go.AE Go.TX Go.TX.Seat Go.Proofs List
set_option maxRecDepth 100000
set_option maxHeartbeats 4000000
def ad1:Gt aB.z X E .u Pn Tryz.f166 [(114,bW)]:=gm
def Tv:Gt aB.z X E (.v (.v (.seq (.v (.cut ⟨[(0,.p 0 8),(11,.p 2 5)],[.g [.i,.i,.own 1,.i,.i,.i,.i,.i],.rows true .iop,.g [.i,.i,.i,.i,.i]]⟩ qq8)) .u))) CV Tryz.f137 [(166,Pn)]:=gm
def Tw:Gt aB.z X E .u acy Tryz.f136 [(137,CV)]:=gm
def Tx:Gt aB.z X E .u Mh Tryz.f138 [(137,CV)]:=gm
def Tz:Gt aB.z X E .u Mh Tryz.f139 [(137,CV)]:=gm
def TA:Gt aB.z X E .u acz Tryz.f140 [(137,CV)]:=gm
def TB:Gt aB.z X E (.v (.v (.v (.block (.v (.cut MB (.cond .u (.v (.cut MB (.cond .u (.v (.cut MB (.cond .u (.v (.cut MB (.cond .u (.v (.cut MB (.cond .u (.v (.cut MB (.cond .u (.v (.cut MB (.cond .u (.seq (.v (.cut ⟨[(2,.p 2 1),(3,.p 3 4),(4,.c (.fn 136 [(2,1),(3,4)])),(11,.i),(112,.b)],[.g [.i,.i,.own 1,.i,.i,.i,.i,.i],.rows true .iop,.box (.p 0 8),.s false .ins]⟩ qq8)) (.cut MB (.cond .u (.v (.cut MB qq8)))))))))))))))))))))))))))))) acA Tryz.f83 [(140,acz),(139,Mh),(136,acy),(137,CV),(138,Mh)]:=gm
def ad2:Gt aB.z X E .u jE Tryz.f84 []:=gm
def alW:Gt aB.z X E (.v (.v (.v (.seq (.v (.block (.loop ⟨[(4,.p 0 7),(5,.p 1 8),(23,.r false .ins),(24,.i),(25,.i)],[.g qq7,.g [.i,.i,.own 2,.i,.i,.i,.i,.i],.rows true .iop]⟩ .u))) .u)))) Mi Tryz.f34 [(73,aa2),(84,jE),(83,acA)]:=gm
def TD:Gt aB.z X E .u bS Tryz.f64 [(114,bW)]:=gm
def ad3:Gt aB.z X E .u Ad Tryz.f77 [(126,l5),(64,bS)]:=gm
def alX:Gt aB.z X E (.v (.v (.seq (.v (.cut ⟨[(3,.o 0)],[.rows true .ins]⟩ (.block (.loop ⟨[(3,.o 0),(8,.r false .i64),(9,.i),(10,.i)],[.rows true .ins]⟩ .u)))) .u))) aiM Tryz.f44 [(77,Ad)]:=gm
def ad4:Gt aB.z X E .u Po Tryz.f165 [(114,bW)]:=gm
def TF:Gt aB.z X E .u bS Tryz.f218 [(114,bW)]:=gm
def ad5:Gt aB.z X E .u Pn Tryz.f279 [(114,bW)]:=gm
def ad6:Gt aB.z X E .u Pp Tryz.f219 [(279,Pn),(114,bW)]:=gm
def ad7:Gt ⟨[],[27,40]⟩ X E .u aj4 Tryz.f159 [(219,Pp),(165,Po),(64,bS),(114,bW),(218,bS),(193,bS)]:=gm
def ad8:Gt aB.z X E .u Pq Tryz.f171 []:=gm
def ad9:Gt aB.z X E .u jY Tryz.f160 [(171,Pq),(219,Pp),(64,bS),(114,bW)]:=gm
def aea:Gt aB.z X E (.v (.v (.seq (.v (.block (.loop ⟨[(1,.p 0 7),(25,.i),(26,.i)],[.s false .blk]⟩ .u))) .u))) jY Tryz.f100 [(160,jY),(159,aj4),(114,bW)]:=gm
def TG:Gt aB.z X E (.v (.v (.seq (.v (.block (.loop ⟨[(0,.r false .iop),(1,.r false .iop),(12,.i),(13,.i)],[]⟩ .u))) .u))) acB Tryz.f161 []:=gm
def aeb:Gt aB.z X E .u wS Tryz.f101 [(161,acB)]:=gm
def aec:Gt aB.z X E .u aj5 Tryz.f311 []:=gm
def TH:Gt aB.z X E (.v (.seq (.v (.block (.loop ⟨[(0,.r false .i64),(1,.c (.fn 311 [(0,1)])),(7,.i),(8,.i)],[.box (.i)]⟩ .u))) .u)) acC Tryz.f239 [(311,aj5)]:=gm
def TI:Gt aB.z X E .u acD Tryz.f183 [(239,acC)]:=gm
def aed:Gt aB.z X E (.v (.seq (.v (.block (.loop ⟨[(3,.p 0 1),(8,.r false .mono),(9,.i),(10,.i)],[.box (.i)]⟩ .u))) .u)) Pv Tryz.f280 [(183,acD)]:=gm
def alY:Gt aB.z X E .u bS Tryz.f316 []:=gm
def alZ:Gt aB.z X E .u CU Tryz.f287 [(316,bS)]:=gm
def al0:Gt aB.z X E (.v (.v (.seq (.v (.block (.loop ⟨[(3,.i),(6,.r false .i64),(7,.i),(8,.i)],[]⟩ .u))) .u))) alH Tryz.f288 []:=gm
def TJ:Gt aB.z X E (.v (.seq (.v (.block (.loop ⟨[(0,.r false .i64),(1,.r false .i64),(9,.r false .i64),(10,.i),(11,.i)],[]⟩ .u))) .u)) pQ Tryz.f317 [(287,CU)]:=gm
def TK:Gt aB.z X E .u pQ Tryz.f289 [(288,alH),(287,CU),(317,pQ)]:=gm
def al1:Gt aB.z X E .u aiN Tryz.f318 [(316,bS)]:=gm
def TL:Gt aB.z X E arT Aa Tryz.f291 [(318,aiN)]:=gm
def aee:Gt aB.z X E .u Zy Tryz.f293 []:=gm
def TM:Gt aB.z X E (.v (.seq (.v (.block (.loop ⟨[(0,.r false .mono),(1,.c (.fn 293 [])),(7,.i),(8,.i)],[]⟩ .u))) .u)) acE Tryz.f319 [(293,Zy)]:=gm
def TN:Gt aB.z X E .u acF Tryz.f292 [(319,acE)]:=gm
def aef:Gt aB.z X E (.v (.seq (.v (.block (.loop ⟨[(1,.p 0 1),(6,.r false .mono),(7,.i),(8,.i)],[.s false .poly]⟩ .u))) .u)) pR Tryz.f227 [(114,bW),(280,Pv),(291,Aa),(289,pQ),(292,acF)]:=gm
def aeg:Gt aB.z X E .u KM Tryz.f221 [(114,bW),(218,bS),(280,Pv),(227,pR),(193,bS)]:=gm
def aeh:Gt aB.z X E (.v (.v (.seq (.v (.block (.loop ⟨[(3,.p 0 1),(20,.r false .mono),(21,.i),(22,.i)],[.s false .poly]⟩ .u))) .u))) uP Tryz.f224 [(288,alH),(287,CU),(289,pQ)]:=gm
def TP:Gt aB.z X E .u tQ Tryz.f175 [(224,uP)]:=gm
def aei:Gt aB.z X E .u Pw Tryz.f283 [(175,tQ)]:=gm
def aej:Gt aB.z X E .u aj6 Tryz.f282 [(283,Pw)]:=gm
def TQ:Gt aB.z X E (.v (.seq (.v (.block (.loop ⟨[(0,.r false .atom),(1,.c (.fn 282 [(0,4)])),(7,.i),(8,.i)],[.s false .atom]⟩ .u))) .u)) acG Tryz.f281 [(282,aj6)]:=gm
def aek:Gt aB.z X E .u acH Tryz.f222 [(281,acG)]:=gm
def TS:Gt aB.z X E .u acI Tryz.f290 []:=gm
def ael:Gt aB.z X E .u acJ Tryz.f225 [(221,KM),(222,acH),(290,acI)]:=gm
def aem:Gt aB.z X E .u pU Tryz.f226 [(114,bW)]:=gm
def TT:Gt aB.z X E .u Ry Tryz.f170 [(226,pU),(225,acJ)]:=gm
def TU:Gt aB.z X E (.v (.v (.seq (.v (.block (.loop ⟨[(0,.p 0 2),(3,.o 1),(5,.i)],[.g R8,.rows true .poly]⟩ .u))) .u))) Rz Tryz.f162 [(170,Ry)]:=gm
def TW:Gt aB.z X E .u Mj Tryz.f115 []:=gm
def aen:Gt ⟨[20],[]⟩ X E (.v (.v (.seq (.v (.block (.loop ⟨[(2,.p 0 1),(3,.p 1 1),(7,.r false .mono),(8,.i),(9,.i)],[.g [.nil],.g [.own 2],.rows true .mono]⟩ .u))) .u))) Zz Tryz.f220 [(115,Mj)]:=gm
def aeo:Gt ⟨[25],[]⟩ X E (.v (.v (.seq (.v (.block (.loop ⟨[(2,.p 0 1),(3,.p 1 1),(7,.r false .atom),(8,.i),(9,.i)],[.g [.nil],.g [.own 2],.rows true .atom]⟩ .u))) .u))) Px Tryz.f163 [(220,Zz)]:=gm
def aep:Gt aB.z X E .u aj7 Tryz.f102 [(163,Px),(162,Rz)]:=gm
def aer:Gt aB.z X E (.v (.seq (.v (.block (.loop ⟨[(1,.p 0 1),(6,.r false .atom),(7,.i),(8,.i)],[.s false .tab]⟩ .u))) .u)) ZA Tryz.f164 [(221,KM),(222,acH)]:=gm
def T9:Gt aB.z X E .u acK Tryz.f167 []:=gm
def aes:Gt aB.z X E .u pU Tryz.f168 [(114,bW)]:=gm
def Ua:Gt aB.z X E .u kP Tryz.f186 []:=gm
def Ub:Gt aB.z X E .u wR Tryz.f133 [(64,bS),(186,kP)]:=gm
def aeu:Gt aB.z X E .u GI Tryz.f229 [(227,pR)]:=gm
def Uc:Gt aB.z X E .u RA Tryz.f328 [(289,pQ)]:=gm
def Ud:Gt aB.z X E (.v (.block (.loop ⟨[(0,.o 0),(1,.i),(2,.i),(3,.c (.fn 328 [])),(8,.i)],wT⟩ (.v (.seq (.block (.v (.block (.loop ⟨[(0,.o 0),(1,.i),(2,.i),(3,.c (.fn 328 [])),(8,.i),(9,.i)],wT⟩ .u)))) .u))))) acL Tryz.f347 [(328,RA)]:=gm
def Ue:Gt aB.z X E (.v (.block (.loop ⟨[(0,.o 0),(1,.i),(2,.i),(3,.i),(10,.i)],wT⟩ .u))) Ae Tryz.f356 []:=gm
def Uf:Gt aB.z X E (.v (.v (.seq (.block (.loop arX (.v (.block (.v (.cut arX qq8)))))) .u))) Ae Tryz.f354 [(356,Ae)]:=gm
def GV:Gt aB.z X E (.seq (.v (.cond (.v (.v (.seq (.block (.loop arY (.v (.block (.v (.v (.cut arY qq8))))))) (.seq (.v (.block (.loop ⟨[(0,.o 0),(10,.i),(13,.i)],wT⟩ .u))) .u)))) .u)) (.seq (.v (.cond (.v (.v (.seq (.block (.loop arW (.v (.block (.v (.v (.cut arW qq8))))))) (.seq (.v (.block (.loop ⟨[(0,.o 0),(14,.i),(17,.i)],wT⟩ .u))) .u)))) .u)) (.v (.v (.v (.seq (.v (.cut ⟨[(0,.o 0),(1,.i),(2,.i),(3,.i),(4,.c (.fn 328 [])),(18,.i),(19,.i),(20,.i),(21,.i)],wT⟩ qq8)) (.v (.seq (.block (.loop arH (.v (.block (.v (.v (.cut arH qq8))))))) (.v (.seq (.v (.cut ⟨[(0,.o 0),(1,.i),(3,.i),(4,.c (.fn 328 [])),(18,.i),(20,.i),(24,.i)],wT⟩ qq8)) (.seq (.v (.cut ⟨[(0,.o 0),(3,.i),(4,.c (.fn 328 [])),(18,.i),(24,.i)],wT⟩ qq8)) (.v (.cut ⟨[],wT⟩ qq8))))))))))))) Ae Tryz.f348 [(328,RA),(354,Ae),(348,Ae)]:=gm
def Ug:Gt aB.z X E (.v (.v (.seq arM (.v (.block (.loop ar0 (.v (.block (.v (.seq arM (.seq (.v (.v (.cut ar0 qq8))) .u))))))))))) acM Tryz.f336 [(347,acL),(348,Ae)]:=gm
def Uh:Gt aB.z X E .u acN Tryz.f327 [(336,acM)]:=gm
def Ui:Gt ⟨[51],[]⟩ X E (.v (.v (.v (.seq (.v (.block (.loop arI (.v (.block (.v (.seq (.block (.loop ⟨[(0,.o 0),(2,.p 1 1),(4,.p 2 1),(5,.i),(6,.i),(7,.p 3 2)],[.rows false .mono,.g [.nil],.g [.own 4],.s false .mono,.rows true .mono]⟩ .u)) (.v (.cut arI qq8))))))))) .u)))) RF Tryz.f312 [(289,pQ),(227,pR),(186,kP),(115,Mj),(327,acN)]:=gm
def Uj:Gt aB.z X E (.v (.v (.seq (.v (.v (.cut ⟨[(0,.o 0)],[.rows true .mono]⟩ qq8))) .u))) acO Tryz.f329 []:=gm
def Uk:Gt aB.z X E (.v (.v (.seq (.v (.block (.loop ⟨[(0,.r false .poly),(3,.i),(9,.r false .poly),(10,.i),(11,.i)],[]⟩ .u))) (.v (.seq (.v (.block (.loop ⟨[(6,.o 0),(25,.r false .poly),(26,.i),(27,.i)],wT⟩ .u))) .u))))) acP Tryz.f313 [(329,acO)]:=gm
def aev:Gt aB.z X E .u Bo Tryz.f284 [(227,pR),(312,RF),(313,acP)]:=gm
def Ul:Gt aB.z X E (.v (.v (.seq (.v (.v (.cut ⟨[(0,.o 0)],GU⟩ qq8))) .u))) acQ Tryz.f330 []:=gm
def Um:Gt aB.z X E (.v (.v (.seq (.v (.block (.loop ⟨[(0,.r false .ints),(3,.i),(9,.r false .ints),(10,.i),(11,.i)],[]⟩ .u))) (.v (.seq (.v (.block (.loop ⟨[(6,.o 0),(25,.r false .ints),(26,.i),(27,.i)],GU⟩ .u))) .u))))) acR Tryz.f314 [(330,acQ)]:=gm
def Un:Gt aB.z X E (.v (.block (.loop ⟨[(0,.o 0),(1,.i),(2,.i),(6,.i)],GU⟩ (.v (.seq (.block (.v (.block (.loop ⟨[(0,.o 0),(1,.i),(2,.i),(6,.i),(7,.i)],GU⟩ .u)))) .u))))) GJ Tryz.f337 [(318,aiN)]:=gm
def Uo:Gt aB.z X E (.v (.v (.block (.loop alP (.cut alP (.block (.v (.v (.v (.seq (.v (.cut ⟨[(0,.o 0),(1,.i),(2,.i),(3,.i),(8,.b),(9,.b),(10,.i)],GU⟩ qq8)) (.v (.seq (.v (.cut ⟨[(0,.o 0),(1,.i),(2,.i),(3,.i),(8,.b),(9,.b),(10,.i),(11,.i),(12,.i)],GU⟩ qq8)) (.seq (.v (.cut ⟨[(0,.o 0),(1,.i),(2,.i),(3,.i),(8,.b),(9,.b),(10,.i),(11,.i)],GU⟩ qq8)) (.v (.v (.v (.v (.v (.v (.cut alP qq8)))))))))))))))))))) GK Tryz.f331 [(318,aiN),(337,GJ),(338,GJ),(339,GJ),(340,RG),(341,GJ),(342,RH),(343,RL),(344,RN),(331,GK)]:=gm
end Go.TX.F
end
noncomputable section
namespace Go.TX.F
open Go Go.AE Go.TX Go.TX.Seat Go.Proofs List
set_option maxRecDepth 100000
set_option maxHeartbeats 4000000
def Uq:Gt aB.z X E .u acW Tryz.f315 [(331,GK),(332,acV)]:=gm
def aew:Gt aB.z X E (.v (.v (.v (.seq (.v (.block (.loop ⟨[(3,.p 0 1),(4,.p 1 1),(6,.o 2),(22,.r false .mono),(23,.i),(24,.i)],[.s false .poly,.g [.nil],.rows true .mono]⟩ (.v (.v (.seq (.block (.v (.v (.block (.loop ⟨[(3,.p 0 1),(4,.p 1 1),(6,.o 2),(8,.p 3 2),(22,.r false .mono),(23,.i),(24,.i),(29,.r false .mono),(30,.i),(31,.i)],[.s false .poly,.g [.nil],.rows true .mono,.s false .mono]⟩ .u))))) .u)))))) .u)))) Bo Tryz.f286 [(227,pR),(186,kP),(312,RF),(314,acR),(315,acW)]:=gm
def aex:Gt aB.z X E .u ZB Tryz.f285 [(227,pR),(168,pU),(64,bS),(286,Bo)]:=gm
def Ur:Gt aB.z X E (.v (.v (.v (.v (.v (.seq (.v (.cut ⟨[(0,.i),(4,.p 0 1),(6,.p 1 1),(10,.i),(11,.b)],[.s true .poly,.g [.nil]]⟩ qq8)) .u)))))) acX Tryz.f223 [(175,tQ),(168,pU),(133,wR),(284,Bo),(286,Bo),(285,ZB),(229,GI)]:=gm
def aey:Gt aB.z X E (.v (.v (.seq (.v (.cut ⟨[(1,.i),(4,.p 0 1),(6,.p 1 1),(7,.p 2 1),(8,.p 3 1),(9,.p 4 1)],[.s true .tab,.s true .poly,.s true .poly,.g [.nil],.g [.nil]]⟩ qq8)) .u))) aj8 Tryz.f169 [(224,uP),(223,acX),(225,acJ),(226,pU)]:=gm
def Us:Gt aB.z X E .u bW Tryz.f134 [(64,bS)]:=gm
def Ut:Gt aB.z X E (.v (.v (.seq (.v (.block (.loop ⟨[(3,.o 0),(6,.r false .poly),(7,.i),(8,.i)],[.rows true .poly]⟩ .u))) .u))) CW Tryz.f294 [(220,Zz)]:=gm
def aez:Gt ⟨[42],[]⟩ X E (.v (.v (.seq (.v (.block (.loop ⟨[(2,.p 0 6),(3,.p 1 6),(21,.r false .ev),(22,.i),(23,.i)],alJ⟩ .u))) .u))) aj9 Tryz.f228 [(220,Zz),(294,CW)]:=gm
def aeA:Gt aB.z X E (.v (.v (.v (.v (.v (.v (.seq (.block (.v (.cut adW (.cond .u (.v (.cut adW (.cond .u (.v (.cut adW (.cond (.v (.v (.v (.cut ⟨[(4,.p 0 6),(5,.p 1 6)],[.g vF,.g [.own 2,.own 3,.i,.nil,.nil,.i],.rows true .ev,.rows true .poly]⟩ qq8)))) (.v (.cut adW qq8)))))))))))) .u))))))) akb Tryz.f172 [(229,GI),(227,pR),(224,uP),(228,aj9),(175,tQ),(134,bW)]:=gm
def aeB:Gt aB.z X E (.v (.v (.v (.v (.v (.v (.seq (.v (.block (.loop qq2 (.v (.v (.seq (.block (.v (.v (.v (.seq (.v (.cut ⟨[(3,.p 0 7),(4,.p 1 1),(5,.p 2 6),(6,.p 3 2),(7,.p 4 6),(8,.o 5),(9,.i),(10,.i),(11,.i),(12,.p 6 5),(14,.b),(17,.p 7 1),(18,.p 8 1),(57,.r false .iop),(58,.i),(59,.i)],[.s false .blk,.g [.nil],.g vF,.g R8,.g [.own 9,.own 10,.i,.nil,.nil,.i],.rows true .poly,.s false .iop,.s true .poly,.g [.nil],.rows true .ev,.rows true .poly]⟩ qq8)) (.seq (.v (.cut ars qq8)) (.seq (.v (.cut ars (.cond (.v (.seq (.v (.cut ⟨[(3,.p 0 7),(4,.p 1 1),(5,.p 2 6),(6,.p 3 2),(7,.p 4 6),(8,.o 5),(9,.i),(10,.i),(11,.i),(12,.p 6 5),(17,.p 7 1),(18,.p 8 1),(19,.p 9 5),(57,.r false .iop),(58,.i),(59,.i)],[.s false .blk,.g [.nil],.g vF,.g R8,.g [.own 10,.own 11,.i,.nil,.nil,.i],.rows true .poly,.s false .iop,.s true .poly,.s true .poly,.g [.i,.i,.rows true .mono,.rows true .mono,.own 12],.rows true .ev,.rows true .poly,.rows true .poly]⟩ qq8)) .u)) .u))) (.v (.block (.v (.cut qq2 (.cond .u (.v (.cut qq2 (.cond .u (.v (.cut qq2 (.cond .u (.v (.cut qq2 (.cond .u (.v (.cut qq2 (.cond .u (.v (.cut qq2 qq8)))))))))))))))))))))))))) .u)))))) (.v (.seq (.v (.cut ⟨[(3,.p 0 7),(4,.p 1 1),(5,.p 2 6),(6,.p 3 2),(7,.p 4 6),(8,.o 5),(24,.b)],[.s false .blk,.g [.nil],.g vF,.g R8,.g [.own 6,.own 7,.i,.rows true .mono,.nil,.i],.rows true .poly,.rows true .ev,.rows true .poly]⟩ qq8)) (.seq (.v (.cut ⟨[(3,.p 0 7),(4,.p 1 1),(5,.p 2 6),(6,.p 3 2),(7,.p 4 6)],[.s false .blk,.g [.nil],.g vF,.g R8,.g [.own 5,.own 6,.i,.rows true .mono,.rows true .mono,.i],.rows true .ev,.rows true .poly]⟩ qq8)) .u)))))))))) akc Tryz.f103 [(171,Pq),(100,jY),(166,Pn),(165,Po),(168,pU),(172,akb),(164,ZA),(163,Px),(169,aj8),(170,Ry),(162,Rz),(167,acK)]:=gm
def Uu:Gt aB.z X E .u tQ Tryz.f231 [(175,tQ)]:=gm
def Uv:Gt aB.z X E (.v (.v (.seq (.v (.block (.loop ⟨[(1,.r false .poly),(2,.c (.fn 231 [])),(15,.r false .poly),(16,.i),(17,.i)],[]⟩ .u))) .u))) acY Tryz.f230 [(231,tQ)]:=gm
def Uw:Gt aB.z X E .u CX Tryz.f176 [(230,acY)]:=gm
def aeC:Gt aB.z X E .u ZE Tryz.f174 [(175,tQ),(176,CX)]:=gm
def Ux:Gt aB.z X E (.v (.v (.seq (.v (.block (.loop ⟨[(1,.r false .ev),(2,.c (.fn 174 [])),(15,.r false .ev),(16,.i),(17,.i)],[]⟩ .u))) .u))) acZ Tryz.f173 [(174,ZE)]:=gm
def aeD:Gt aB.z X E .u ZF Tryz.f104 [(175,tQ),(176,CX),(173,acZ)]:=gm
def aeE:Gt aB.z X E .u wS Tryz.f45 [(100,jY),(101,wS),(102,aj7),(103,akc),(104,ZF)]:=gm
def aeF:Gt aB.z X E .u ac0 Tryz.f87 []:=gm
def Uy:Gt aB.z X E (.v (.v (.seq (.v (.block (.loop ⟨[(0,.r false .i64),(1,.r false .i64),(12,.i),(13,.i)],[]⟩ .u))) .u))) ac1 Tryz.f125 []:=gm
def aeG:Gt aB.z X E .u ac2 Tryz.f72 [(114,bW),(125,ac1)]:=gm
def aeH:Gt aB.z X E .u ac3 Tryz.f90 [(72,ac2)]:=gm
def aeI:Gt aB.z X E .u akd Tryz.f106 []:=gm
def Uz:Gt aB.z X E (.v (.seq (.v (.block (.loop ⟨[(0,.r false .cac),(1,.c (.fn 106 [(0,1)])),(7,.i),(8,.i)],[.box (.i)]⟩ .u))) .u)) ac4 Tryz.f105 [(106,akd)]:=gm
def UA:Gt aB.z X E (.v (.seq (.v (.block (.loop ⟨[(0,.r false .cac),(1,.c (.fn 87 [(0,8)])),(7,.i),(8,.i)],[.s true .cac]⟩ .u))) .u)) ac5 Tryz.f105 [(87,ac0)]:=gm
def UC:Gt aB.z X E (.v (.seq (.v (.block (.loop ⟨[(0,.o 0),(1,.c (.fn 90 [(1,1)])),(7,.i),(8,.i)],[.rows true .cac,.box (.r false .i64)]⟩ .u))) .u)) ac6 Tryz.f105 [(90,ac3)]:=gm
def aeJ:Gt aB.z X E .u ZG Tryz.f46 [(105,ac4)]:=gm
def aeK:Gt aB.z X E (.v (.seq (.v (.block (.loop ⟨[(0,.r false .cac),(1,.r false .i64),(8,.r false .cac),(9,.i),(10,.i)],[]⟩ (.v (.v (.seq (.block (.v (.v (.seq (.cut ⟨[(0,.r false .cac),(1,.r false .i64),(8,.r false .cac),(9,.i),(10,.i),(57,.b)],[]⟩ .u) .u)))) .u)))))) .u)) Py Tryz.f29 [(34,Mi),(73,aa2),(44,aiM),(72,ac2),(46,ZG),(45,wS)]:=gm
def UD:Gt aB.z X E (.v (.seq (.v (.block (.loop ⟨[(5,.r false .i64),(6,.i),(7,.i)],[]⟩ .u))) .u)) Aa Tryz.f113 [(64,bS)]:=gm
def aeL:Gt aB.z X E .u tO Tryz.f59 [(64,bS),(114,bW),(113,Aa)]:=gm
def aeM:Gt aB.z X E .u KN Tryz.f141 [(84,jE),(115,Mj)]:=gm
def UE:Gt aB.z X E (.v (.v (.seq (.v (.block (.loop ⟨[(3,.o 0),(6,.r false .cac),(7,.i),(8,.i)],[.rows true .cac]⟩ .u))) .u))) RO Tryz.f86 [(141,KN)]:=gm
def UF:Gt aB.z X E (.v (.v (.v (.seq (.v (.block (.loop arP (.v (.seq (.block (.v (.v (.cut arP qq8)))) .u))))) .u)))) ac9 Tryz.f85 [(87,ac0),(105,ac5)]:=gm
def UG:Gt aB.z X E (.v (.v (.v (.seq (.v (.block (.loop arL (.v (.seq (.block (.v (.v (.cut arL qq8)))) .u))))) .u)))) ada Tryz.f85 [(90,ac3),(105,ac6)]:=gm
def aeN:Gt aB.z X E .u Pz Tryz.f38 [(86,RO),(85,ada)]:=gm
def al2:Gt aB.z X E (.v (.v (.v (.seq (.v (.cut ⟨[(3,.o 0)],[.rows true .ins]⟩ arO)) .u)))) adb Tryz.f32 [(78,bS),(77,Ad),(59,tO)]:=gm
end Go.TX.F
end
noncomputable section
namespace Go.TX.F
open Go Go.AE Go.TX Go.TX.Seat Go.Proofs List
set_option maxRecDepth 100000
set_option maxHeartbeats 4000000
def UH:Gt aB.z X E .u adf Tryz.f88 []:=gm
def aeO:Gt aB.z X E .u akf Tryz.f35 [(86,RO),(88,adf),(85,ac9)]:=gm
def aeP:Gt aB.z X E .u GA Tryz.f89 [(126,l5)]:=gm
def al3:Gt aB.z X E (.v (.v (.seq (.v (.block (.loop ⟨[(3,.o 0),(6,.r false .ins),(7,.i),(8,.i)],GU⟩ .u))) .u))) GD Tryz.f36 [(89,GA)]:=gm
def aeQ:Gt aB.z X E (.seq (.v (.block (.loop arV (.v (.v (.seq (.block (.v (.v (.seq (.v (.cut ⟨[(0,.p 0 7),(1,.r false .i64),(4,.i),(5,.p 2 5),(7,.b),(16,.o 1),(17,.i),(18,.i)],[.g [.i,.i,.own 1,.i,.i,.i,.i],.rows true .iop,.s true .iop]⟩ qq8)) (.v (.cut arV qq8)))))) .u)))))) (.v (.seq (.v (.cut ⟨[(0,.p 0 7),(1,.r false .i64),(11,.b)],alO⟩ qq8)) (.v (.cut ⟨[],alO⟩ qq8))))) adg Tryz.f135 [(171,Pq),(165,Po)]:=gm
def aeR:Gt aB.z X E (.v (.v (.v (.v (.seq (.v (.block (.loop arA (.v (.v (.seq (.block (.v (.v (.v (.cut arA qq8))))) .u)))))) .u))))) KO Tryz.f130 [(135,adg)]:=gm
def aeS:Gt aB.z X E (.v (.v (.v (.seq (.v (.cut ⟨[(1,.p 0 7),(3,.o 1),(5,.b)],adV⟩ qq8)) (.seq alR (.seq (.v (.block (.loop alS (.v (.seq (.cut alS (.block (.v (.v (.v (.v (.seq (.v (.cut ⟨[(1,.p 0 7),(3,.o 1),(7,.i),(8,.p 2 5),(10,.b)],[.s false .blk,.rows true .bool,.s false .iop]⟩ qq8)) (.v (.cut alS qq8))))))))) .u))))) .u)))))) ZH Tryz.f131 [(171,Pq),(165,Po)]:=gm
def aeT:Gt aB.z X E .u zm Tryz.f79 [(130,KO),(131,ZH),(100,jY)]:=gm
def aeU:Gt aB.z X E (.v (.v (.v (.v (.seq (.v (.block (.loop aiQ (.v (.seq (.block (.v (.v (.v (.block (.v (.cut aiQ (.cond .u (.v (.cut aiQ (.cond .u (.seq (.v (.cut ⟨[(1,.p 0 7),(2,.p 1 7),(3,.o 2),(4,.o 3),(5,.i),(55,.b)],[.s false .blk,.g qq7,.rows true .bool,.rows true .bool]⟩ qq8)) (.cut aiQ qq8))))))))))))) .u))))) .u))))) zm Tryz.f80 [(130,KO),(100,jY)]:=gm
def aeV:Gt aB.z X E .u akg Tryz.f132 []:=gm
def aeW:Gt aB.z X E (.v (.v (.v (.v (.seq (.v (.block (.loop arK (.v (.v (.seq (.block (.v (.seq (.cut ⟨[(1,.p 0 7),(2,.p 1 7),(3,.p 2 7),(4,.c (.fn 132 [(2,7)])),(5,.i),(6,.p 3 5),(15,.o 4),(16,.i),(17,.i),(36,.b)],[.s false .blk,.g qq7,.g aa5,.s true .iop,.rows true .iop]⟩ .u) (.cut arK qq8)))) .u)))))) (.seq (.block (.seq (.cut ⟨[(1,.p 0 7),(2,.p 1 7),(3,.p 2 7),(4,.c (.fn 132 [(2,7)])),(60,.b)],alM⟩ .u) (.cut aiU (.cond .u (.seq (.cut ⟨[(1,.p 0 7),(2,.p 1 7),(3,.p 2 7),(80,.b)],alM⟩ .u) (.cut aiU (.cond (.v (.v (.cut aiU qq8))) .u))))))) .u)))))) zm Tryz.f81 [(84,jE),(100,jY),(132,akg),(133,wR),(134,bW)]:=gm
def aeX:Gt aB.z X E (.v (.v (.v (.v (.seq (.v (.block (.loop aiP (.v (.v (.seq (.block (.v (.v (.block (.v (.cut aiP (.cond .u (.v (.cut aiP (.cond .u (.v (.cut aiP qq8)))))))))))) .u)))))) .u))))) zm Tryz.f82 [(84,jE),(135,adg),(100,jY)]:=gm
def aeY:Gt aB.z X E .u zm Tryz.f33 [(81,zm),(82,zm),(79,zm),(80,zm)]:=gm
end Go.TX.F
end
noncomputable section
namespace Go.TX.F
open Go Go.AE Go.TX Go.TX.Seat Go.Proofs List
set_option maxRecDepth 100000
set_option maxHeartbeats 4000000
def UJ:Gt aB.z X E .u adh Tryz.f20 [(64,bS)]:=gm
def UK:Gt aB.z X E .u adi Tryz.f26 [(19,tO),(70,CS)]:=gm
def UL:Gt aB.z X E (.v (.v (.seq (.v (.block (.loop ⟨[(1,.r false .ins),(5,.i)],[]⟩ .u))) .u))) aa2 Tryz.f128 [(197,bS),(196,l5),(63,bW),(195,l5)]:=gm
def UM:Gt aB.z X E .u CY Tryz.f240 []:=gm
def UN:Gt aB.z X E .u RQ Tryz.f241 [(240,CY)]:=gm
def UO:Gt aB.z X E .u GL Tryz.f242 [(240,CY)]:=gm
def UQ:Gt aB.z X E .u RS Tryz.f243 [(242,GL),(240,CY)]:=gm
def UR:Gt aB.z X E (.v (.v (.seq (.v (.block (.loop ⟨[(0,.i),(3,.i),(4,.i)],[]⟩ .u))) .u))) kP Tryz.f244 []:=gm
def UU:Gt aB.z X E .u Mk Tryz.f245 [(242,GL),(240,CY),(243,RS),(241,RQ)]:=gm
def UW:Gt aB.z X E (.v (.v (.v (.v (.v (.seq (.v (.cut ⟨[(3,.p 1 4),(4,.p 2 7),(8,.i),(9,.p 3 7),(10,.i)],[.gone,.s false .ins,.g qq7,.g aa5,.rows true .iop]⟩ qq8)) .u)))))) adk Tryz.f246 [(242,GL)]:=gm
def UY:Gt aB.z X E (.v (.seq (.v (.block (.v (.cond .u (.v (.cond .u (.v (.cond .u (.seq (.v (.cut ⟨[(2,.i),(3,.p 1 7),(4,.p 2 4),(6,.p 3 7),(22,.i),(70,.b)],arB⟩ qq8)) (.cond .u (.v (.cond .u (.v (.cond .u (.seq (.v (.cut ar1 (.cond .u (.v (.cut ar1 qq8))))) .u))))))))))))))) .u)) Mk Tryz.f189 [(242,GL),(246,adk),(240,CY),(245,Mk),(243,RS),(241,RQ),(244,kP)]:=gm
def UZ:Gt aB.z X E (.v (.v (.v (.seq (.v (.block (.loop ⟨[(1,.r false .ins),(4,.p 0 7),(5,.p 1 7),(6,.i)],aa4⟩ .u))) .u)))) Mi Tryz.f121 [(128,aa2),(189,Mk)]:=gm
def Va:Gt aB.z X E (.v (.v (.seq (.v (.block (.loop ⟨[(0,.r false .i64),(3,.o 0),(4,.i)],[.rows true .ins]⟩ .u))) .u))) aiM Tryz.f127 [(194,Ad)]:=gm
def Vb:Gt aB.z X E .u bS Tryz.f310 [(63,bW)]:=gm
def Vd:Gt aB.z X E .u GN Tryz.f278 [(310,bS)]:=gm
def Ve:Gt aB.z X E (.v (.v (.seq (.v (.block (.v (.cond .u (.v (.cond .u (.v (.cond .u (.seq (.v (.cut ⟨[(0,.r false .iop),(1,.i),(2,.i),(7,.p 0 5),(13,.i),(78,.b)],[.s false .iop]⟩ qq8)) .u))))))))) .u))) GN Tryz.f213 [(62,bS),(63,bW),(278,GN)]:=gm
def Vf:Gt aB.z X E (.v (.v (.seq (.v (.block (.v (.cond .u (.v (.cond .u (.seq (.v (.cut ⟨[(1,.p 0 7),(3,.i),(42,.b)],[.s false .blk]⟩ qq8)) .u))))))) .u))) jY Tryz.f214 [(62,bS),(278,GN)]:=gm
def Vg:Gt aB.z X E (.v (.v (.seq (.v (.block (.loop ⟨[(1,.p 0 7),(3,.i)],[.s false .blk]⟩ .u))) .u))) jY Tryz.f154 [(63,bW),(214,jY),(213,GN)]:=gm
def Vh:Gt aB.z X E auG wS Tryz.f198 []:=gm
def Vi:Gt aB.z X E .u pU Tryz.f249 [(63,bW)]:=gm
def Vj:Gt aB.z X E (.v (.v (.v (.seq (.v (.block (.loop ⟨[(0,.p 0 1),(2,.p 1 1),(3,.o 2),(4,.i)],[.g [.nil],.g [.own 3],.rows true .poly,.rows true .atom]⟩ .u))) .u)))) RU Tryz.f199 [(249,pU)]:=gm
def Vk:Gt aB.z X E auH pQ Tryz.f307 []:=gm
def Vm:Gt aB.z X E (.v (.v (.seq (.v (.block (.loop ⟨[(1,.p 0 2),(3,.i)],[.s false .mono]⟩ .u))) .u))) Zy Tryz.f326 [(63,bW)]:=gm
def Vn:Gt aB.z X E (.v (.v (.seq (.v (.block (.loop ⟨[(1,.p 0 1),(3,.i)],[.s false .poly]⟩ .u))) .u))) pR Tryz.f303 [(326,Zy),(307,pQ)]:=gm
def Vo:Gt aB.z X E .u adl Tryz.f320 []:=gm
def Vp:Gt aB.z X E (.v (.seq (.v (.block (.loop ⟨[(1,.i),(2,.p 0 1),(5,.i)],[.s false .poly]⟩ (.v (.seq (.block (.v (.block (.loop ⟨[(1,.i),(2,.p 0 1),(5,.i),(6,.i)],[.s false .poly]⟩ .u)))) .u))))) .u)) Pv Tryz.f321 []:=gm
def Vq:Gt aB.z X E (.v (.seq (.v (.block (.v (.cond .u (.seq (.v (.cut ⟨[(1,.i),(2,.p 0 4),(6,.i),(16,.b)],[.s false .atom]⟩ qq8)) .u))))) .u)) KM Tryz.f297 [(63,bW),(303,pR),(321,Pv),(320,adl)]:=gm
def Vr:Gt aB.z X E (.v (.v (.seq (.v (.block (.loop ⟨[(2,.p 0 1),(3,.p 1 1),(5,.i)],[.s false .poly,.s false .poly]⟩ .u))) .u))) uP Tryz.f264 [(307,pQ)]:=gm
def Vt:Gt aB.z X E .u Pw Tryz.f298 [(264,uP)]:=gm
def Vu:Gt aB.z X E (.v (.v (.seq (.v (.block (.loop ⟨[(1,.p 0 1),(3,.i)],[.s false .tab]⟩ (.v (.seq (.block (.v (.v (.block (.loop ⟨[(1,.p 0 1),(3,.i),(4,.i)],[.s false .tab]⟩ .u))))) .u))))) .u))) ZA Tryz.f250 [(297,KM),(298,Pw)]:=gm
def Vv:Gt ⟨[26],[]⟩ X E (.v (.v (.seq (.v (.block (.loop ⟨[(0,.r false .mono),(2,.p 0 1),(3,.p 1 1),(4,.i)],[.g [.nil],.g [.own 2],.rows true .mono]⟩ .u))) .u))) rA Tryz.f259 []:=gm
def Vw:Gt aB.z X E .u RV Tryz.f299 [(259,rA)]:=gm
def Vx:Gt ⟨[20],[]⟩ X E (.v (.v (.seq (.v (.block (.loop ⟨[(1,.p 0 1),(2,.p 1 1),(3,.p 2 1),(4,.i)],[.s false .tab,.g [.nil],.g [.own 3],.rows true .atom]⟩ .u))) .u))) Px Tryz.f251 [(299,RV)]:=gm
def Vy:Gt ⟨[38],[]⟩ X E (.v (.v (.seq (.v (.block (.loop ⟨[(2,.p 1 1),(3,.p 2 4),(4,.p 3 1),(6,.i)],[.rows true .atom,.g [.own 0],.s false .atom,.g [.nil]]⟩ .u))) .u))) Ml Tryz.f252 [(297,KM),(298,Pw),(299,RV)]:=gm
def Vz:Gt aB.z X E .u adn Tryz.f253 []:=gm
def VA:Gt aB.z X E .u pU Tryz.f254 [(63,bW)]:=gm
def VB:Gt aB.z X E (.v (.v (.v (.seq (.v (.block (.loop alN (.v (.seq (.block (.v (.seq (.v (.cut ⟨[(0,.r false .mono),(3,.p 0 2),(5,.o 1),(6,.b),(7,.i),(8,.i)],[.s false .mono,.rows false .mono]⟩ qq8)) (.v (.cut alN (.cond (.v (.v (.v (.cut alN qq8)))) .u)))))) .u))))) (.seq (.v (.cut ⟨[(5,.o 0)],wT⟩ qq8)) .u))))) RX Tryz.f333 [(307,pQ),(37,kP)]:=gm
def VD:Gt aB.z X E (.v (.v (.seq (.v (.block (.loop ⟨[(0,.r false .mono),(2,.p 0 1),(4,.i)],[.g [.nil]]⟩ .u))) .u))) RY Tryz.f334 [(259,rA)]:=gm
def VE:Gt aB.z X E (.v (.v (.v (.seq (.v (.block (.loop ⟨[(3,.p 0 1),(4,.p 1 1),(6,.r false .mono),(7,.i)],[.s false .poly,.g [.nil]]⟩ .u))) .u)))) Bo Tryz.f322 [(303,pR),(333,RX),(334,RY)]:=gm
def VF:Gt aB.z X E (.v (.v (.v (.seq (.v (.block (.loop arJ (.v (.seq (.block (.v (.v (.cut arJ qq8)))) .u))))) .u)))) ZB Tryz.f323 [(303,pR),(37,kP),(259,rA),(62,bS)]:=gm
end Go.TX.F
end
noncomputable section
namespace Go.TX.F
open Go Go.AE Go.TX Go.TX.Seat Go.Proofs List
set_option maxRecDepth 100000
set_option maxHeartbeats 4000000
def VG:Gt aB.z X E (.v (.v (.v (.seq (.v (.block (.loop arS (.v (.seq (.block (.seq (.block (.loop arS .u)) .u)) .u))))) .u)))) ado Tryz.f335 []:=gm
def VH:Gt aB.z X E (.v (.v (.v (.seq (.v (.block (.loop ⟨[(2,.p 0 1),(3,.p 1 1),(4,.p 2 1),(6,.o 3),(7,.i)],[.s false .poly,.s false .poly,.g [.nil],.rows false .mono]⟩ (.v (.seq (.block (.v (.block (.loop arD (.v (.seq (.block (.v (.v (.cut arD qq8)))) .u)))))) .u))))) .u)))) Bo Tryz.f324 [(303,pR),(37,kP),(333,RX),(335,ado),(334,RY)]:=gm
def VI:Gt aB.z X E .u Mq Tryz.f300 [(324,Bo),(322,Bo),(323,ZB)]:=gm
def VJ:Gt aB.z X E .u GI Tryz.f304 [(303,pR)]:=gm
def VK:Gt aB.z X E .u adp Tryz.f325 [(259,rA)]:=gm
def VL:Gt aB.z X E .u Mq Tryz.f301 [(264,uP),(259,rA),(217,wR),(254,pU),(304,GI),(325,adp)]:=gm
def VN:Gt aB.z X E (.v (.v (.seq (.v (.cut ⟨[(1,.i),(4,.p 1 1),(6,.p 2 1),(7,.p 3 1),(8,.p 4 1),(9,.p 5 1),(10,.p 6 1),(11,.b)],[.rows true .atom,.g [.own 0],.s false .poly,.s false .poly,.g [.nil],.g [.nil],.g [.own 7],.rows true .mono]⟩ qq8)) (.v (.v (.seq (.v (.cut ⟨[(4,.p 1 1),(8,.p 2 1),(9,.p 3 1),(12,.p 4 4)],[.rows true .atom,.g [.own 0],.g [.nil],.g [.nil],.g [.i,.i,.rows false .mono,.rows false .mono]]⟩ qq8)) .u)))))) adq Tryz.f255 [(249,pU),(264,uP),(300,Mq),(301,Mq),(252,Ml)]:=gm
def VO:Gt aB.z X E (.v (.v (.seq (.v (.block (.loop ar2 (.v (.seq (.block (.v (.cut ar2 qq8))) .u))))) .u))) ads Tryz.f302 []:=gm
def VP:Gt aB.z X E (.v (.v (.seq (.v (.cut ⟨[(3,.p 1 1),(6,.p 2 1),(7,.p 3 1),(8,.p 4 4)],[.rows true .atom,.g [.own 0],.g [.nil],.g [.nil],.g [.i,.i,.nil,.nil]]⟩ qq8)) .u))) adt Tryz.f256 [(249,pU),(252,Ml),(302,ads)]:=gm
def VQ:Gt aB.z X E (.v (.v (.seq (.v (.block (.loop ⟨[(0,.r false .poly),(3,.o 0),(4,.i)],[.rows true .poly]⟩ .u))) .u))) CW Tryz.f258 [(259,rA)]:=gm
def VR:Gt aB.z X E (.v (.v (.seq (.v (.cut ⟨[(3,.r false .poly),(4,.p 0 5),(6,.p 1 1),(8,.p 2 5),(9,.p 3 5)],[.s false .iop,.s false .poly,.g [.i,.i,.nil,.nil,.nil],.g [.i,.i,.own 4,.nil,.nil],.rows true .mono]⟩ qq8)) (.seq (.v (.cut ⟨[(3,.r false .poly),(4,.p 0 5),(8,.p 1 5),(9,.p 2 5)],[.s false .iop,.g [.i,.i,.nil,.nil,.nil],.g [.i,.i,.own 3,.own 4,.nil],.rows true .mono,.rows true .mono]⟩ qq8)) (.seq (.v (.cut ⟨[(8,.p 0 5),(9,.p 1 5)],[.g [.i,.i,.nil,.nil,.nil],.g [.i,.i,.own 2,.own 3,.own 4],.rows true .mono,.rows true .mono,.rows true .poly]⟩ qq8)) .u))))) adu Tryz.f257 [(259,rA),(258,CW)]:=gm
def VT:Gt aB.z X E .u Mr Tryz.f260 []:=gm
def VU:Gt aB.z X E .u Mr Tryz.f261 []:=gm
def VW:Gt aB.z X E .u RZ Tryz.f305 []:=gm
def VX:Gt aB.z X E (.v (.v (.v (.v (.seq (.block (.seq (.v (.cut ⟨[(1,.i),(2,.p 0 6),(4,.p 1 6),(6,.b),(8,.b),(9,.b),(29,.b)],[.s false .sym,.g vF]⟩ qq8)) (.cond .u (.seq (.v (.cut ⟨[(1,.i),(2,.p 0 6),(4,.p 1 6),(54,.b)],[.s false .sym,.g vF]⟩ qq8)) .u)))) (.seq (.v (.cut ⟨[(2,.p 0 6),(4,.p 1 6)],[.s false .sym,.g vF]⟩ qq8)) .u)))))) Mv Tryz.f306 [(304,GI),(264,uP),(305,RZ)]:=gm
def VY:Gt ⟨[53],[]⟩ X E (.v (.v (.v (.v (.seq (.v (.block (.loop ⟨[(1,.i),(2,.p 0 6),(4,.p 1 6),(5,.p 2 6),(6,.i)],[.s false .sym,.g vF,.g [.own 3,.rows false .poly,.i,.rows false .mono,.rows false .mono,.i],.rows true .ev]⟩ .u))) (.v (.v (.v (.seq (.v (.block (.v (.cut adW (.cond .u (.seq (.v (.cut ⟨[(1,.i),(4,.p 0 6),(5,.p 1 6),(85,.b)],alJ⟩ qq8)) .u)))))) .u))))))))) Mv Tryz.f262 [(304,GI),(303,pR),(259,rA),(305,RZ),(306,Mv),(258,CW)]:=gm
def VZ:Gt ⟨[116],[]⟩ X E (.v (.v (.v (.v (.v (.seq (.v (.block (.loop ⟨[(3,.p 0 7),(4,.p 1 1),(5,.p 2 6),(6,.p 3 1),(7,.p 4 6),(9,.o 5),(10,.i)],[.s false .blk,.g [.nil],.g vF,.g [.own 6],.g vF,.rows true .poly,.rows true .atom]⟩ .u))) (.v (.seq (.v (.block (.loop ⟨[(3,.p 0 7),(4,.p 1 1),(5,.p 2 6),(6,.p 3 1),(7,.p 4 6),(9,.o 5),(13,.o 6),(14,.i)],[.s false .blk,.g [.nil],.g vF,.g [.own 7],.g [.own 8,.nil,.i,.nil,.nil,.i],.rows false .poly,.rows false .poly,.rows true .atom,.rows true .ev]⟩ (.v (.seq (.block (.v (.v (.v (.v (.seq (.v (.block (.v (.cut arw (.cond .u (.v (.cut arw (.cond .u (.v (.cut arv (.cond .u (.v (.cut arv (.cond .u (.seq (.v (.cut ⟨[(3,.p 0 7),(4,.p 1 1),(5,.p 2 6),(6,.p 3 1),(7,.p 4 6),(9,.o 5),(13,.o 6),(14,.i),(15,.p 7 5),(16,.p 8 1),(17,.p 9 1),(18,.p 10 1)],[.s false .blk,.g [.nil],.g vF,.g [.own 11],.g [.own 12,.nil,.i,.nil,.nil,.i],.rows false .poly,.rows false .poly,.s false .iop,.s false .poly,.s false .poly,.g [.own 13],.rows true .atom,.rows true .ev,.rows true .mono]⟩ qq8)) .u))))))))))))))) .u)))))) .u))))) .u)))))))) adw Tryz.f200 [(154,jY),(249,pU),(254,pU),(262,Mv),(199,RU),(250,ZA),(259,rA),(251,Px),(255,adq),(252,Ml),(256,adt),(257,adu),(253,adn),(258,CW),(260,Mr),(261,Mr)]:=gm
def V3:Gt aB.z X E (.v (.v (.seq (.v (.block (.loop ⟨[(0,.r false .poly),(1,.r false .poly),(5,.i)],[]⟩ .u))) .u))) CX Tryz.f263 [(264,uP)]:=gm
def V4:Gt aB.z X E .u ZE Tryz.f265 [(264,uP),(263,CX)]:=gm
def V5:Gt aB.z X E (.v (.v (.seq (.v (.block (.loop ⟨[(2,.p 0 6),(3,.p 1 6),(5,.i)],[.s false .sym,.s false .sym]⟩ .u))) .u))) ZF Tryz.f201 [(264,uP),(265,ZE),(263,CX)]:=gm
def V6:Gt aB.z X E .u wS Tryz.f129 [(154,jY),(198,wS),(199,RU),(200,adw),(201,ZF)]:=gm
def V7:Gt aB.z X E (.v (.v (.seq (.cut ⟨[(2,.b)],[]⟩ .u) .u))) adx Tryz.f74 [(121,Mi),(128,aa2),(127,aiM),(129,wS)]:=gm
def V8:Gt aB.z X E (.v (.seq (.v (.block (.loop ⟨[(0,.r false .i64),(1,.r false .i64),(2,.i),(7,.i)],[]⟩ .u))) .u)) R3 Tryz.f75 []:=gm
def V9:Gt aB.z X E (.v (.v (.seq (.v (.block (.loop ⟨[(0,.r false .cac),(1,.r false .i64),(5,.i)],[]⟩ (.v (.seq (.block (.v (.v (.block (.loop ⟨[(0,.r false .cac),(1,.r false .i64),(5,.i),(6,.i)],[]⟩ .u))))) .u))))) .u))) Py Tryz.f30 [(74,adx),(75,R3)]:=gm
def Wh:Gt aB.z X E (.v (.v (.seq (.v (.block (.loop ⟨[(0,.r false .cer),(3,.i)],[]⟩ .u))) .u))) ake Tryz.f76 [(129,wS)]:=gm
def Wi:Gt aB.z X E .u ac7 Tryz.f31 [(30,Py),(76,ake),(19,tO)]:=gm
def Wj:Gt aB.z X E .u jE Tryz.f190 []:=gm
def Wm:Gt aB.z X E .u KN Tryz.f142 [(190,jE)]:=gm
def Wn:Gt aB.z X E .u ac8 Tryz.f143 [(190,jE)]:=gm
def Wp:Gt ⟨[24,42],[]⟩ X E (.v (.v (.seq (.v (.block (.loop ⟨[(1,.p 0 12),(2,.p 1 12),(3,.p 2 12),(4,.i)],[.s false .eng,.g aa3,.g [.own 3,.i,.own 4,.i,.bool,.bool,.i,.own 5,.own 6,.i,.own 7,.nil],.rows true .i64,.rows true .i64,.rows true .i64,.rows true .i64,.rows true .cac]⟩ .u))) (.seq (.v (.block (.loop ⟨[(1,.p 0 12),(2,.p 1 12),(3,.p 2 12),(5,.i)],[.s false .eng,.g aa3,.g [.own 3,.i,.own 4,.i,.bool,.bool,.i,.own 5,.own 6,.i,.own 7,.own 8],.rows true .i64,.rows true .i64,.rows true .i64,.rows true .i64,.rows true .cac,.rows true .cer]⟩ .u))) .u)))) ady Tryz.f92 [(142,KN),(143,ac8),(70,CS)]:=gm
def Wq:Gt aB.z X E (.v (.v (.seq (.v (.block (.loop arR (.v (.seq (.block (.v (.cut arR qq8))) .u))))) .u))) Pz Tryz.f99 [(142,KN),(75,R3)]:=gm
def Ws:Gt aB.z X E .u adz Tryz.f95 [(99,Pz),(149,Rx),(94,GH)]:=gm
def Wt:Gt aB.z X E (.v (.v (.v (.seq (.v arO) .u)))) adb Tryz.f144 [(197,bS),(194,Ad),(19,tO)]:=gm
def Wu:Gt aB.z X E (.v (.seq (.v (.block (.loop ⟨[(0,.r false .cac),(1,.i),(5,.i)],[]⟩ .u))) .u)) ZG Tryz.f150 []:=gm
def Wv:Gt aB.z X E (.v (.v (.seq (.v (.cut ⟨[(1,.r false .i64),(2,.p 0 5),(4,.p 1 5),(5,.p 2 5)],[.s false .iop,.g [.i,.i,.i,.i,.i],.s true .iop]⟩ qq8)) (.seq (.v (.cut ⟨[(4,.p 0 5),(5,.p 1 5)],[.g [.i,.i,.i,.i,.i],.s true .iop]⟩ qq8)) .u)))) R4 Tryz.f247 [(63,bW)]:=gm
def Ww:Gt aB.z X E (.v (.v (.v (.v (.v (.seq (.v (.block (.loop ⟨[(2,.p 0 7),(3,.p 1 7),(4,.o 2),(5,.o 3),(6,.i)],arZ⟩ (.v (.seq (.block (.v (.v (.v (.seq arz (.seq arz (.seq (.v (.cut ⟨[(2,.p 0 7),(3,.p 1 7),(4,.o 2),(5,.o 3),(6,.i),(8,.i)],arZ⟩ qq8)) .u))))))) .u))))) (.seq (.v (.cut ⟨[(2,.p 0 7),(3,.p 1 7),(4,.o 2)],[.g qq7,.g [.i,.i,.own 3,.i,.i,.i,.i],.rows true .i64,.rows true .iop]⟩ qq8)) (.seq (.v (.cut aiU qq8)) .u)))))))) jE Tryz.f192 [(154,jY),(247,R4),(190,jE)]:=gm
def Wx:Gt aB.z X E (.v (.v (.v (.seq (.v (.block (.loop arC (.v (.seq (.block (.v (.v (.cut arC qq8)))) .u))))) (.v (.v (.seq (.v (.cut ⟨[(2,.p 0 7),(4,.p 1 7),(6,.o 2),(8,.p 3 7)],[.s false .blk,.g qq7,.rows true .i64,.g aa5,.rows true .iop]⟩ qq8)) (.seq (.v (.cut ⟨[(4,.p 0 7),(8,.p 1 7)],aa4⟩ qq8)) .u)))))))) KO Tryz.f266 [(247,R4)]:=gm
def Wy:Gt aB.z X E (.v (.v (.v (.seq (.v (.block (.loop ⟨[(1,.p 0 7),(3,.o 1),(4,.i)],adV⟩ .u))) (.seq alR (.seq alR (.seq (.v (.block (.loop alT (.v (.seq (.cut alT (.block (.v (.v (.seq (.v (.cut ⟨[(1,.p 0 7),(3,.o 1),(5,.i),(6,.p 2 5)],[.s false .blk,.rows true .bool,.s false .iop]⟩ qq8)) (.v (.cut alT qq8))))))) .u))))) .u))))))) ZH Tryz.f267 [(154,jY),(63,bW)]:=gm
def Wz:Gt aB.z X E .u jE Tryz.f203 [(154,jY),(267,ZH),(266,KO)]:=gm
def WA:Gt aB.z X E (.v (.seq (.v (.block (.loop ⟨[(0,.r false .iop),(1,.i),(5,.i)],[]⟩ .u))) .u)) adA Tryz.f268 []:=gm
def WB:Gt aB.z X E (.v (.v (.v (.seq (.v (.block (.loop ⟨[(1,.p 0 7),(2,.p 1 7),(3,.o 2),(4,.i)],[.s false .blk,.g qq7,.rows true .bool]⟩ .u))) .u)))) jE Tryz.f204 [(154,jY),(266,KO),(268,adA)]:=gm
def WE:Gt aB.z X E .u R5 Tryz.f269 []:=gm
def WG:Gt aB.z X E .u adB Tryz.f308 []:=gm
def WH:Gt aB.z X E (.v (.v (.v (.seq (.block (.v (.cond .u (.seq (.v (.cut ⟨[(1,.p 0 7),(2,.p 1 7),(4,.b),(6,.b),(33,.b)],[.s false .blk,.g qq7]⟩ qq8)) .u)))) .u)))) Mw Tryz.f270 [(308,adB),(269,R5)]:=gm
def WI:Gt aB.z X E (.v (.v (.v (.seq (.v (.block (.loop ⟨[(2,.p 0 7),(3,.p 1 7),(4,.i)],aa4⟩ (.v (.seq (.block (.v (.v (.v (.v (.cut ⟨[(2,.p 0 7),(3,.p 1 7),(4,.i)],aa4⟩ qq8)))))) .u))))) .u)))) Mw Tryz.f205 [(154,jY),(217,wR),(270,Mw),(269,R5),(190,jE)]:=gm
def WJ:Gt aB.z X E .u jE Tryz.f147 [(205,Mw),(192,jE),(203,jE),(204,jE)]:=gm
def WK:Gt aB.z X E .u adC Tryz.f309 []:=gm
def WL:Gt aB.z X E (.v (.v (.v (.seq (.v (.block (.loop ⟨[(0,.r false .u8),(2,.p 0 7),(4,.p 1 7),(5,.i)],aa4⟩ .u))) .u)))) aki Tryz.f277 [(154,jY),(309,adC)]:=gm
def WM:Gt aB.z X E .u adD Tryz.f209 [(277,aki),(147,jE)]:=gm
def WO:Gt aB.z X E (.v (.seq (.v (.block (.loop ⟨[(0,.r false .cer),(4,.p 0 7),(5,.p 1 7),(7,.i)],[.s false .blk,.s false .blk]⟩ .u))) .u)) akj Tryz.f210 [(198,wS)]:=gm
end Go.TX.F
end
noncomputable section
namespace Go.TX.F
open Go Go.AE Go.TX Go.TX.Seat Go.Proofs List
set_option maxRecDepth 100000
set_option maxHeartbeats 4000000
def WQ:Gt aB.z X E (.v (.v (.seq (.v (.block (.loop ⟨[(0,.r false .cer),(3,.p 0 14),(5,.o 1),(6,.i)],[.s false .cer,.rows true .cer]⟩ .u))) .u))) akk Tryz.f211 [(143,ac8)]:=gm
def WR:Gt aB.z X E .u adE Tryz.f151 [(210,akj),(211,akk),(129,wS),(209,adD)]:=gm
def WS:Gt aB.z X E (.v (.v (.seq (.v (.block (.loop arQ (.v (.seq (.block (.v (.cut arQ qq8))) .u))))) .u))) adF Tryz.f152 [(142,KN)]:=gm
def WT:Gt aB.z X E .u adG Tryz.f96 [(144,adb),(121,Mi),(153,GD),(150,ZG),(152,adF),(151,adE)]:=gm
def WU:Gt aB.z X E (.v (.v (.seq (.v (.block (.loop ⟨[(1,.r false .i64),(3,.i),(4,.p 0 10),(9,.i)],[.s false .ay]⟩ .u))) .u))) adH Tryz.f97 [(94,GH)]:=gm
def WW:Gt aB.z X E .u adI Tryz.f215 []:=gm
def WX:Gt aB.z X E .u Pp Tryz.f216 []:=gm
def WY:Gt aB.z X E (.v (.seq (.v (.block (.v (.cond .u (.v (.cond (.v (.seq (.v (.cut ⟨[(5,.p 3 10),(10,.p 4 10),(13,.i)],arq⟩ qq8)) .u)) .u)))))) .u)) adJ Tryz.f155 [(215,adI),(216,Pp)]:=gm
def WZ:Gt aB.z X E .u ade Tryz.f156 []:=gm
def Xa:Gt aB.z X E .u adK Tryz.f157 [(217,wR)]:=gm
def Xb:Gt aB.z X E (.v (.seq (.v (.block (.v (.cond .u (.v (.cond .u (.v (.cut ⟨[(2,.p 0 7)],[.s false .blk]⟩ (.cond .u (.v (.cut ⟨[(2,.p 0 7)],[.s false .blk]⟩ qq8))))))))))) .u)) adL Tryz.f158 []:=gm
def Xc:Gt aB.z X E (.v (.v (.v (.v (.v (.seq (.v (.block (.loop ⟨[(2,.p 0 7),(4,.p 1 10),(6,.p 2 10),(7,.o 3),(8,.i)],aru⟩ (.v (.seq (.block (.v (.v (.seq (.v (.block (.v (.cut arU (.cond .u (.seq (.v (.cut alK (.cond .u (.v (.cut alK (.cond .u (.v (.cut alK qq8)))))))) (.cut arU qq8))))))) .u)))) .u))))) .u)))))) adM Tryz.f98 [(154,jY),(19,tO),(70,CS),(156,ade),(155,adJ),(158,adL),(157,adK)]:=gm
def Xd:Gt aB.z X E (.v (.v (.v (.v (.v (.seq (.cut ⟨[(1,.r false .i64),(2,.i),(7,.p 0 2),(8,.p 1 12),(10,.p 2 12),(11,.p 3 10),(12,.b)],[.s false .ask,.g aa3,.g [.rows true .i64,.i,.rows true .i64,.i,.bool,.bool,.i,.rows true .i64,.rows true .i64,.i,.own 4,.own 5],.g [.rows true .i64,.i,.rows true .i64,.i,.bool,.bool,.i,.rows true .i64,.rows true .i64,.i],.rows true .cac,.rows true .cer]⟩ .u) .u)))))) adN Tryz.f43 [(99,Pz),(31,ac7),(98,adM),(92,ady),(96,adG),(95,adz),(97,adH),(94,GH)]:=gm
def MC:Gt aB.z X E (.v (.v (.v (.v (.seq (.v (.block (.v (.cut Mx (.cond .u (.v (.cut Mx (.cond .u (.v (.cut Mx (.cond .u (.v (.cut Mx (.cond .u (.v (.cut Mx (.cond .u (.v (.cut Mx (.cond .u (.v (.cut Mx (.cond (.v (.cut Mx qq8)) (.v (.cut Mx qq8))))))))))))))))))))))))) .u))))) GQ Tryz.f122 [(54,iT),(190,jE)]:=gm
def Xe:Gt aB.z X E (.v (.v (.seq (.v (.block (.loop aiR .u))) .u))) adO Tryz.f191 [(235,Ac),(54,iT)]:=gm
def Xf:Gt aB.z X E .u R6 Tryz.f123 [(121,Mi),(147,jE),(192,jE),(54,iT),(191,adO)]:=gm
def Xg:Gt aB.z X E .u adP Tryz.f202 []:=gm
def Xh:Gt aB.z X E (.v (.v (.v (.v (.seq (.v (.block (.loop ⟨[(1,.p 0 7),(3,.o 1),(4,.i)],[.s false .blk,.rows true .u8]⟩ .u))) .u))))) akh Tryz.f145 [(154,jY),(202,adP)]:=gm
def Xi:Gt aB.z X E (.v (.v (.seq (.v (.block (.loop arG (.v (.seq (.block (.v (.seq (.seq (.cut ⟨[(0,.p 0 2),(4,.p 1 7),(5,.p 2 7),(6,.i),(7,.p 3 5),(34,.b)],[.g vG,.g qq7,.g aa5,.s true .iop,.rows true .iop]⟩ .u) arE) (.seq (.v arE) (.v (.cut arG qq8)))))) .u))))) .u))) GQ Tryz.f146 [(54,iT),(190,jE)]:=gm
def Xj:Gt aB.z X E .u adQ Tryz.f148 [(54,iT)]:=gm
def ME:Gt aB.z X E .u adR Tryz.f93 [(144,adb),(121,Mi),(145,akh),(147,jE),(54,iT),(122,GQ),(123,R6),(146,GQ),(148,adQ)]:=gm
def Xk:Gt aB.z X E (.v (.v (.v (.seq (.v (.block (.loop ⟨[(0,.p 0 2),(2,.p 1 12),(3,.p 2 12),(4,.o 3),(5,.i)],[.g vG,.g aa3,.g [.rows true .i64,.i,.own 4,.i,.bool,.bool,.i,.rows true .i64,.rows true .i64,.i,.own 5,.own 6],.rows true .i64,.rows true .i64,.rows true .cac,.rows true .cer]⟩ .u))) .u)))) adS Tryz.f120 [(26,adi),(43,adN),(177,Rv),(178,CQ),(53,CQ),(54,iT),(179,Rw),(93,adR)]:=gm
def Xl:Gt ⟨[36,39,68,22],[]⟩ X E (.v (.v (.seq (.v (.cut arx (.cond (.v (.block (.v (.cut arx (.cond .u (.v (.cut qq4 (.cond .u (.v (.cut qq4 (.cond (.v (.cut qq4 qq8)) (.v (.cut qq4 (.cond .u (.v (.cut qq4 (.cond (.v (.cut qq4 qq8)) (.v (.cut qq4 qq8))))))))))))))))))) .u))) .u))) R7 Tryz.f71 [(121,Mi),(52,acw),(55,Gz),(54,iT),(124,Md),(122,GQ),(123,R6),(120,adS)]:=gm
end Go.TX.F
end
noncomputable section
namespace Go.TX.F
open Go Go.AE Go.TX Go.TX.Seat Go.Proofs List
set_option maxRecDepth 100000
set_option maxHeartbeats 4000000
def Xm:Gt aB.z X E .u adT Tryz.f27 [(51,Rt),(71,R7)]:=gm
def Xo:Gt aB.z X E .u adU Tryz.f28 [(51,Rt),(71,R7)]:=gm
def Xp:Gt aB.z X E (.v (.v (.v (.v (.v (.v (.v (.v (.v (.v (.v (.v (.seq (.cut ⟨[(2,.b)],[]⟩ .u) .u))))))))))))) alI Tryz.f5 [(32,adb),(34,Mi),(36,GD),(38,Pz),(29,Py),(35,akf),(33,zm),(20,adh),(30,Py),(28,adU),(27,adT),(31,ac7),(37,kP)]:=gm
end Go.TX.F
end

namespace Go.TX
open Go Go.AE List
theorem al4(x y:Int):bI .lss x y=decide (x<y):=rfl
theorem al5(x y:Int):bI .leq x y=decide (x<=y):=rfl
theorem al6(x y:Int):bI .gtr x y=decide (y<x):=rfl
theorem al7(x y:Int):bI .geq x y=decide (y<=x):=rfl
theorem aeZ(x y:Int):bI .eql x y=decide (x=y):=rfl
theorem al8(x y:Int):bI .neq x y= !decide (x=y):=rfl
theorem al9(k:IntKind)(x y:Int):iD .add k x y=k.wrap (x+y):=rfl
theorem ae0(k:IntKind)(x y:Int):iD .sub k x y=k.wrap (x-y):=rfl
theorem ama(k:IntKind)(x y:Int):iD .mul k x y=k.wrap (x*y):=rfl
theorem amb(k:IntKind)(x y:Int):iD .quo k x y=k.wrap (x.tdiv y):=rfl
theorem ae1(k:IntKind)(x y:Int):iD .rem k x y=x.tmod y:=rfl
def w64{x:Int}(b: -9223372036854775808<=x)(a:x<=9223372036854775807):IntKind.i64.wrap x=x:=IntWalk.i64_in _ ah
theorem aiV(m:aj):cu .mono 0 m=m.bH:=rfl
theorem aiW(m:aj):jy .mono 1 .i64 m=m.atoms:=rfl
theorem amc(p:List aj):jy .poly 0 .mono p=p:=rfl
theorem ar3(p:List Atom):jy .tab 0 .atom p=p:=rfl
theorem amd(p:List Int):jy .ints 0 .i64 p=p:=rfl
theorem aiX(m:Atom):cu .atom 0 m=m.kind:=rfl
theorem aiY(m:Atom):cu .atom 1 m=m.k:=rfl
theorem aiZ(m:Atom):jy .atom 2 .mono m=m.x:=rfl
theorem ai0(m:Atom):jy .atom 3 .mono m=m.y:=rfl
theorem ar4(n:Int):cu .i64 0 n=n:=rfl
theorem auI(n:Int):cu .u8 0 n=n:=rfl
theorem ai1(x):Co.mk .mono x=⟨x.1,x.2.1⟩:=rfl
theorem ai2(x):Co.mk .poly x=x.1:=rfl
theorem ame(x):Co.mk .tab x=x.1:=rfl
theorem ai3(x):Co.mk .ints x=x.1:=rfl
theorem nX(x):Co.mk .i64 x=x.1:=rfl
theorem ai4(x):Co.mk .atom x=⟨x.1,x.2.1,x.2.2.1,x.2.2.2.1⟩:=rfl
def au{α ρ:Type}{f:α->(α ⊕ ρ->Prop)->Prop}{x:α}{Q:ρ->Prop}(I:α->Prop)(μ:α->Nat)(a:I x)(b:∀y,I y->f y (Ed (λz _=>I z/\μ z<μ y) Q)):Zh f x Q:=⟨I,μ,a,b⟩
theorem ae2{α ρ:Type}(k:α->(ρ->Prop)->Prop)(Q:ρ->Prop)(x:α):Ed k Q (.inl x)=k x Q:=rfl
theorem ae3{α ρ:Type}(k:α->(ρ->Prop)->Prop)(Q:ρ->Prop)(r:ρ):Ed k Q (.inr r)=Q r:=rfl
def getD_lt{α:Type}{a:List α}{d:α}{i:Nat}(h:i<a.length):a.getD i d=a[i]:=by simp [getD,h]
def dh{α:Type}{xs:List α}{d:α}{i:Int}(a:0<=i)(h:i<xs.length):xs.getD i.toNat d∈xs:=by
 rw [getD_lt ah];exact getElem_mem _
def RR:(∀(x y:Int),bI BinOp.lss x y=decide (x<y))/\(∀(x y:Int),bI BinOp.leq x y=decide (x<=y))/\(∀(x y:Int),bI BinOp.gtr x y=decide (y<x))/\(∀(x y:Int),bI BinOp.geq x y=decide (y<=x))/\(∀(x y:Int),bI BinOp.eql x y=decide (x=y))/\(∀(x y:Int),bI BinOp.neq x y= !decide (x=y))/\(∀(k:IntKind) (x y:Int),iD BinOp.add k x y=k.wrap (x+y))/\(∀(k:IntKind) (x y:Int),iD BinOp.sub k x y=k.wrap (x-y))/\(∀(k:IntKind) (x y:Int),iD BinOp.mul k x y=k.wrap (x*y))/\(∀(k:IntKind) (x y:Int),iD BinOp.quo k x y=k.wrap (x.tdiv y))/\(∀(k:IntKind) (x y:Int),iD BinOp.rem k x y=x.tmod y)/\(∀ {x:Int}, -9223372036854775808<=x->x<=9223372036854775807->IntKind.i64.wrap x=x)/\(∀(m:aj),cu Co.mono 0 m=m.bH)/\(∀(m:aj),jy Co.mono 1 Co.i64 m=m.atoms)/\(∀(p:List aj),jy Co.poly 0 Co.mono p=p)/\(∀(p:List Atom),jy Co.tab 0 Co.atom p=p)/\(∀(p:List Int),jy Co.ints 0 Co.i64 p=p)/\(∀(m:Atom),cu Co.atom 0 m=m.kind)/\(∀(m:Atom),cu Co.atom 1 m=m.k)/\(∀(m:Atom),jy Co.atom 2 Co.mono m=m.x)/\(∀(m:Atom),jy Co.atom 3 Co.mono m=m.y)/\(∀(n:Int),cu Co.i64 0 n=n)/\(∀(n:Int),cu Co.u8 0 n=n)/\(∀(x:iQ Co.mono.rX),Co.mono.mk x=aj.mk x.fst x.snd.fst)/\(∀(x:iQ Co.poly.rX),Co.poly.mk x=x.fst)/\(∀(x:iQ Co.tab.rX),Co.tab.mk x=x.fst)/\(∀(x:iQ Co.ints.rX),Co.ints.mk x=x.fst)/\(∀(x:iQ Co.i64.rX),Co.i64.mk x=x.fst)/\(∀(x:iQ Co.atom.rX),Co.atom.mk x=Atom.mk x.fst x.snd.fst x.snd.snd.fst x.snd.snd.snd.fst)/\(∀ {α ρ:Type} (k:α->(ρ->Prop)->Prop) (Q:ρ->Prop) (x:α),Ed k Q (Sum.inl x)=k x Q)/\(∀ {α ρ:Type} (k:α->(ρ->Prop)->Prop) (Q:ρ->Prop) (r:ρ),Ed k Q (Sum.inr r)=Q r)/\(∀(c f:Bool),(bif c then true else f)=(c || f))/\(∀(c t:Bool),(bif c then t else false)=(c&&t))/\(∀(c f:Bool),(bif c then false else f)=(!c&&f))/\(∀(c t:Bool),(bif c then t else true)=(!c || t))/\(∀(a b:Bool),((a || b)=true)=(a=true\/b=true))/\(∀ {x y:Bool},(x || y)=false↔x=false/\y=false)/\(∀(a b:Bool),((a&&b)=true)=(a=true/\b=true))/\(∀ {p:Prop} [inst:Decidable p],(decide p=true)=p)/\(∀ {p:Prop} {x:Decidable p},decide p=false↔¬p)/\(∀(b:Bool),((!b)=true)=(b=false))/\(∀(b:Bool),((!b)=false)=(b=true))/\(∀(b:Bool),(!!b)=b)/\(∀(p:Prop),(True/\p)=p)/\(∀(p:Prop),(p/\True)=p)/\(∀ {α:Type} [inst:LE α] {x y:α},x>=y↔y<=x)/\(¬True)=False/\(¬False)=True/\(false=true)=False/\(true=false)=False/\(∀(p:Prop),(False->p)=True)/\(∀(p:Prop),(True->p)=p)/\(∀(α:Prop),(α->True)=True)/\(∀(α:Type),(∀(a:α),True)=True)/\(∀(p:Prop),(False\/p)=p)/\(∀(p:Prop),(p\/False)=p)/\(∀(p:Prop),(True\/p)=True)/\(∀(p:Prop),(p\/True)=True)/\(∀ {α:Type} {x:Decidable True} (t e:α),(if True then t else e)=t)/\∀ {α:Type} {x:Decidable False} (t e:α),(if False then t else e)=e:=And.intro (@al4)<| And.intro (@al5)<| And.intro (@al6)<| And.intro (@al7)<| And.intro (@aeZ)<| And.intro (@al8)<| And.intro (@al9)<| And.intro (@ae0)<| And.intro (@ama)<| And.intro (@amb)<| And.intro (@ae1)<| And.intro (@w64)<| And.intro (@aiV)<| And.intro (@aiW)<| And.intro (@amc)<| And.intro (@ar3)<| And.intro (@amd)<| And.intro (@aiX)<| And.intro (@aiY)<| And.intro (@aiZ)<| And.intro (@ai0)<| And.intro (@ar4)<| And.intro (@auI)<| And.intro (@ai1)<| And.intro (@ai2)<| And.intro (@ame)<| And.intro (@ai3)<| And.intro (@nX)<| And.intro (@ai4)<| And.intro (@ae2)<| And.intro (@ae3)<| And.intro (@Bool.cond_true_left)<| And.intro (@Bool.cond_false_right)<| And.intro (@Bool.cond_false_left)<| And.intro (@Bool.cond_true_right)<| And.intro (@Bool.or_eq_true)<| And.intro (@Bool.or_eq_false_iff)<| And.intro (@Bool.and_eq_true)<| And.intro (@decide_eq_true_eq)<| And.intro (@decide_eq_false_iff_not)<| And.intro (@Bool.not_eq_true')<| And.intro (@Bool.not_eq_false')<| And.intro (@Bool.not_not)<| And.intro (@true_and)<| And.intro (@and_true)<| And.intro (@ge_iff_le.{0})<| And.intro (@not_true_eq_false)<| And.intro (@not_false_eq_true)<| And.intro (@Bool.false_eq_true)<| And.intro (@Bool.true_eq_false)<| And.intro (@false_implies)<| And.intro (@true_implies)<| And.intro (@implies_true.{0})<| And.intro (@implies_true.{1})<| And.intro (@false_or)<| And.intro (@or_false)<| And.intro (@true_or)<| And.intro (@or_true)<| And.intro (@if_true.{1})<| @if_false.{1}
abbrev F5:=List IOp×Unit
abbrev ak:=Int×Int×Int×Int×Int×Int×F5
abbrev bf:=List Int×Unit
abbrev bn:=List aj×Unit
abbrev dY:=Int×Unit
abbrev Ms:=List Int×bf
abbrev eu:=List Int×Ms
abbrev eB:=Int×Int×bn
abbrev fA:=Int×Int×Bool×Bool×Int×List Int×Int×eu
abbrev fE:=List (List aj)×Unit
abbrev avL:=List Ins×Unit
abbrev lX:=List Int×Int×avL
abbrev l6:=Int×Int×Bool×Bool×Int×List Int×Int×Ins×eu
abbrev l7:=List Int×dY
abbrev l8:=List Atom×Unit
abbrev mQ:=Bool×Unit
abbrev ni:=Int×dY
abbrev ny:=Int×Int×Int×Int×Int×Int×Ins×Int×F5
abbrev El:=Int×Int×ak
abbrev oz:=Int×Int×Int×Int×El
abbrev qj:=List Int×Int×bf
abbrev ql:=Int×List aj×bn
abbrev avO:=Atom×Unit
abbrev r9:=List Atom×avO
abbrev sj:=List Int×Int×List Int×Int×Bool×Bool×Int×List Int×List Int×Int×List Cac×List Int×List Cer×Unit
abbrev sw:=List Int×Int×List Int×Int×Bool×Bool×Int×List Int×List Int×Int×List Cac×Blk×Ask×List Cer×Unit
abbrev uy:=List Int×Int×List Int×Int×Bool×Bool×Int×List Int×List Int×Int×List Cac×Ask×List Cer×Unit
abbrev wm:=Int×Int×Bool×Bool×Int×List Int×Int×Bool×eu
abbrev G5:=List Cac×Unit
abbrev yc:=List Int×Int×Int×Bool×Bool×Int×List Int×List Int×Int×List Cer×List Int×G5
abbrev yw:=Int×Blk×Int×Int×Bool×Bool×Int×Int×Int×Int×Bool×Bool×Int×List Int×Int×List Int×eu
abbrev zl:=Int×eB
abbrev zx:=Blk×Unit
abbrev Bp:=Int×Int×bf
abbrev Eo:=List Int×ni
abbrev He:=List Cac×Cac×Unit
abbrev Ns:=List Cac×bf
abbrev O1:=Int×Int×Bool×Bool×Int×List Int×Int×Blk×IOp×Int×Int×eu
abbrev O4:=Int×Int×Bool×Bool×Int×List Int×Int×Blk×Int×Int×eu
abbrev Q5:=List Bool×Unit
abbrev Xn:=Int×Int×Bool×Bool×Int×List Int×Int×Int×eu
abbrev avM:=Int×Int×Int×Int×Int×Int×List Int×Int×F5
abbrev avN:=Int×Int×List Ev×List (List aj)×List aj×bn
end Go.TX
namespace Go.TX.F
open Go Go.AE Go.TX List
def inB(a b c:Int):Bool:=decide (b<=a)&&decide (a<=c)
def amf(a b c:Int):Tq.F () (a,b,c,()) (λy=>y=(inB a b c,())):=by
 dsimp only [Tq,gm];simp (disch:=omega) only [RR];rfl
abbrev Y1(d : Int × Int × Int × Unit -> Bool)(e : Int × Int × Int × Unit -> Bool × Unit) : Prop := ∀ a b c, d (a, b, c, ()) = true /\ e (a, b, c, ()) = (inB a b c, ())
def amg{p f}(U:Y1 p f)(a:Int):TD.F (p,f,()) (a,()) (λy=>y=(inB a 0 65535,())):=by
 dsimp only [TD,gm];simp (disch:=omega) only [RR,U]
def amh{p f}(U:Y1 p f)(a:Int):TF.F (p,f,()) (a,()) (λy=>y=(inB a 1 5,())):=by
 dsimp only [TF,gm];simp (disch:=omega) only [RR,U]
def ami{p f}(U:Y1 p f)(a:Int):Tt.F (p,f,()) (a,()) (λy=>y=(inB a 0 3,())):=by
 dsimp only [Tt,gm];simp (disch:=omega) only [RR,U]
def auJ(a:Int):alY.F () (a,()) (λy=>y=(false,())):=by
 dsimp only [alY,gm];simp (disch:=omega) only [RR];simp
def iJ(a b:Int):Int:=if a<b then-1 else if b<a then 1 else 0
abbrev Y2(c : Int × Unit -> Bool)(b : Int × Unit -> Bool × Unit) : Prop := ∀ a, c (a, ()) = true /\ b (a, ()) = (false, ())
def auK{p f}(U:Y2 p f)(a b:Int):alZ.F (p,f,()) (a,b,()) (λy=>y=(iJ a b,())):=by
 dsimp only [alZ,gm];simp (disch:=omega) only [RR,U];unfold iJ;refine⟨λh=>by simp [h],λh=>⟨λc=>by simp [h,c],λc=>by simp [h,c]⟩⟩
def auL{p f}(U:Y2 p f)(a b:Int):al1.F (p,f,()) (a,b,()) (λy=>y=(decide (a<b),())):=by
 dsimp only [al1,gm];simp (disch:=omega) only [RR,U];simp
def or2(a b:Int):Int:=if a≠0 then a else b
def auM(a b:Int):al0.F () ([a,b],()) (λy=>y=(or2 a b,())):=by
 dsimp only [al0,gm];refine au (λ(y:Int×Eo)=>y.1=0/\y.2.1=[a,b]/\y.2.2.1=2/\0<=y.2.2.2.1/\y.2.2.2.1<=2/\(0<y.2.2.2.1->a=0)/\(1<y.2.2.2.1->b=0)) (λy=>(2-y.2.2.2.1).toNat) ⟨rfl,rfl,rfl,by simp,by simp,λh=>absurd h (by simp),λh=>absurd h (by simp)⟩ ?_;rintro⟨(z:Int),(l:List Int),(n:Int),(i:Int),⟨⟩⟩ hI;dsimp only at hI ⊢;obtain⟨rfl,rfl,rfl,j,g,c,f⟩:=hI;simp (disch:=omega) only [RR];have d:i=0\/i=1\/i=2:=by omega
 rcases d with rfl | rfl | rfl
 .by_cases ha:a=0<;>simp [or2,ha]<;>(try omega)
 .have:=c ah;by_cases e:b=0<;>simp [or2,this,e]<;>(try omega)
 .have:=c ah;have:=f ah;simp [or2, *]
def l9:List Int->List Int->Int
 | [],[]=>0
 | [],_::_=> -1
 | _::_,[]=>1
 | a::az,b::bs=>if iJ a b≠0 then iJ a b else l9 az bs
def CZ(a b:List Int)(i:Nat):(d:i<a.length)->(c:i<b.length)->l9 (a.drop i) (b.drop i)=if iJ a[i] b[i]≠0 then iJ a[i] b[i]else l9 (a.drop (i+1)) (b.drop (i+1)):=by
 intro d c;rw [drop_eq_getElem_cons d,drop_eq_getElem_cons c];rfl
def ae4(l:List Int)(h:l≠ []):l9 l []=1:=by cases l<;>simp_all [l9]
abbrev Y3(d : Int × Int × Unit -> Bool)(c : Int × Int × Unit -> Int × Unit) : Prop := ∀ a b, d (a, b, ()) = true /\ c (a, b, ()) = (iJ a b, ())
def amj{p f}(U:Y3 p f)(a b:List Int)(s:a.length<1000000000):
  TJ.F (p,f,()) (a,b,()) (λy=>y=(l9 a b,())):=by
 dsimp only [TJ,gm]
 refine au (λ(y:List Int×List Int×Eo)=>y.1=a/\y.2.1=b/\y.2.2.1=a/\y.2.2.2.1=a.length/\0<=y.2.2.2.2.1/\y.2.2.2.2.1<=a.length/\y.2.2.2.2.1<=b.length/\l9 a b=l9 (a.drop y.2.2.2.2.1.toNat) (b.drop y.2.2.2.2.1.toNat))
  (λy=>(a.length-y.2.2.2.2.1).toNat) ⟨rfl,rfl,rfl,rfl,by simp,by simp,by simp,by simp⟩ ?_
 rintro⟨(o:List Int),(c:List Int),(e:List Int),(n:Int),(i:Int),⟨⟩⟩ hI;dsimp only at hI ⊢;obtain⟨rfl,rfl,rfl,rfl,k,m,l,d⟩:=hI;simp (disch:=omega) only [RR,U];refine⟨λj=>⟨k,j,λg=> ?_,λg=>⟨k,ah,λhc=> ?_,λhc=> ?_⟩⟩,λj=>⟨λg=> ?_,λg=> ?_⟩⟩
 .rw [d,drop_eq_nil_of_le (show c.length<=i.toNat by omega),ae4 _ (by simp;omega)]
 .rw [d,CZ e c i.toNat ah ah];rw [getD_lt ah,getD_lt ah]at hc;rw [getD_lt ah,getD_lt ah,if_pos hc]
 .rw [getD_lt ah,getD_lt ah]at hc;refine⟨⟨ah,ah,ah,?_⟩,ah⟩;rw [d,CZ e c i.toNat ah ah,if_neg (by simpa using hc),show(i+1).toNat=i.toNat+1 by omega]
 .rw [d,drop_eq_nil_of_le (show e.length<=i.toNat by omega)];have:∃q r,c.drop i.toNat=q::r:=by
   cases h:c.drop i.toNat with
   | nil=>have:=congrArg List.length h;simp at this;omega
   | cons q r=>exact⟨q,r,rfl⟩
  obtain⟨q,r,h⟩:=this;rw [h];rfl
 .rw [d,drop_eq_nil_of_le (show e.length<=i.toNat by omega),drop_eq_nil_of_le (show c.length<=i.toNat by omega)];rfl
def fC(a b:List Int):Int:=or2 (iJ a.length b.length) (l9 a b)
abbrev Y4(d : List Int × Unit -> Bool)(c : List Int × Unit -> Int × Unit) : Prop := ∀ a b, d ([a, b], ()) = true /\ c ([a, b], ()) = (or2 a b, ())
def amk{p1 f1 p3 f3}{d:Ms->Bool}{c:Ms->dY}(h:Y3 p1 f1)(f:∀a b,a.length<1000000000->d (a,b,())=true/\c (a,b,())=(l9 a b,()))(e:Y4 p3 f3)(a b:List Int)(g:a.length<1000000000):
  TK.F (p3,f3,p1,f1,d,c,()) (a,b,()) (λy=>y=(fC a b,())):=by
 dsimp only [TK,gm];simp (disch:=omega) only [RR,h,f a b g,e];rfl
variable{P:Prop}{G:Int->Prop}{p:l7->Bool}
noncomputable def bp (P:Prop):Bool:= @decide P (Classical.propDecidable P)
def aL(h:P):bp P=true:=by simp [bp,h]
def aV(h:¬P):bp P=false:=by simp [bp,h]
def aH:bp P=true↔P:=by simp [bp]
def iE:bp P=false↔¬P:=by simp [bp]
def iU{P Q:Prop}:bp (P/\Q)=(bp P&&bp Q):=by by_cases b:P<;>by_cases a:Q<;>simp [bp,b,a]
def kQ{P Q:Prop}(h:P↔Q):bp P=bp Q:=by simp [bp,h]
def All(n:Int)(G:Int->Prop):Prop:=∀j,0<=j->j<n->G j
def All.zero:All 0 G:=λj b a=>absurd a ah
def All.snoc{n:Int}(h:All n G)(a:G n):All (n+1) G:=λj c d=>by
 by_cases b:j=n
 .exact b▸a
 .exact h j c ah
def All.le{n m:Int}(h:All n G)(b:m<=n):All m G:=λj a c=>h j a ah
def Idx(n:Int)(G:Int->Prop)(r:Int):Prop:=(r= -1/\All n (λj=>¬G j))\/(0<=r/\r<n/\G r/\All r (λj=>¬G j))
def Idx.ge{n:Int}{r:Int}(h:Idx n G r):(0<=r)↔¬All n (λj=>¬G j):=by
 rcases h with⟨rfl,h⟩ | ⟨a,b,c,d⟩
 .simp [h]
 .simp only [a,true_iff];exact λh=>h r a b c
def Srt(l:List Int):Prop:=All (l.length-1) (λi=>l.getD i.toNat default<=l.getD (i+1).toNat default)
abbrev Y5(d : Int × Int × Unit -> Bool)(c : Int × Int × Unit -> Bool × Unit) : Prop := ∀ a b, d (a, b, ()) = true /\ c (a, b, ()) = (decide (a < b), ())
def aml{p f}(U:Y5 p f)(a:List Int)(o:a.length<1000000000):
  TL.F (p,f,()) (a,()) (λy=>y=(bp (Srt a),())):=by
 dsimp only [TL,gm];simp (disch:=omega) only [RR,U];refine au (λ(y:l7)=>y.1=a/\ -1<=y.2.1/\y.2.1<=a.length-1/\∀j,y.2.1<=j->0<=j->j< (a.length:Int)-1->a.getD j.toNat default<=a.getD (j+1).toNat default) (λy=>(y.2.1+1).toNat) ⟨rfl,by simp;omega,by simp,by simp;omega⟩ ?_;rintro⟨(l:List Int),(i:Int),⟨⟩⟩ hI;dsimp only at hI ⊢;obtain⟨rfl,n,m,d⟩:=hI;simp (disch:=omega) only [RR,U];refine⟨λg=>⟨ah,ah,ah,ah,λe=> ?_,λe=>⟨⟨ah,ah,λj c b k=> ?_⟩,ah⟩⟩,λg=> ?_⟩
 .rw [aV];intro h;have:=h (i-1) ah ah;dsimp only at this;rw [show i-1+1=i by omega]at this;omega
 .by_cases hj:j=i-1
  .subst hj;rw [show i-1+1=i by omega];omega
  .exact d j ah b k
 .rw [aL];exact λj c b=>d j ah c b
def ar5(a n:Int):aec.F () (a,n,()) (λy=>y=(decide (n<=a),n,())):=by
 dsimp only [aec,gm];simp (disch:=omega) only [RR]
def amm{p:ni->Bool}{f:ni->Bool×dY}(U:∀a b,p (a,b,())=true/\f (a,b,())=(decide (b<=a),b,()))(a:List Int)(n:Int)(k:a.length<1000000000):
  TH.F (p,f,()) (a,n,()) (λy=>Idx a.length (λi=>n<=a.getD i.toNat default) y.1/\y.2.1=n):=by
 dsimp only [TH,gm];refine au (λ(y:List Int×Int×ni)=>y.1=a/\y.2.1=a.length/\y.2.2.2.1=n/\0<=y.2.2.1/\y.2.2.1<=a.length/\All y.2.2.1 (λi=>¬n<=a.getD i.toNat default)) (λy=>(a.length-y.2.2.1).toNat) ⟨rfl,rfl,rfl,by simp,by simp,All.zero⟩ ?_;rintro⟨(l:List Int),(m:Int),(i:Int),(g:Int),⟨⟩⟩ hI;dsimp only at hI ⊢;obtain⟨rfl,rfl,rfl,j,h,d⟩:=hI;simp (disch:=omega) only [RR,U];refine⟨λe=>⟨ah,ah,λc=> ?_,λc=>⟨⟨ah,ah,d.snoc c⟩,ah⟩⟩,λe=> ?_⟩
 .exact Or.inr ⟨ah,ah,c,d⟩
 .exact Or.inl ⟨rfl,d.le ah⟩
def amn{f:l7->ni}(g:∀a b,a.length<1000000000->p (a,b,())=true)
  (h:∀a n,a.length<1000000000->Idx a.length (λi=>n<=a.getD i.toNat default) (f (a,n,())).1/\(f (a,n,())).2.1=n) (a:List Int) (n:Int) (c:a.length<1000000000):
  TI.F (p,f,()) (a,n,()) (λy=>y=(bp (¬All a.length (λi=>¬n<=a.getD i.toNat default)),n,())):=by
 obtain⟨e,d⟩:=h a n c;dsimp only [TI,gm];simp (disch:=omega) only [RR,g a n c,d];rw [show decide ((0:Int)<=(f (a,n,())).1)=bp (¬All a.length (λi=>¬n<=a.getD i.toNat default))from ?_];rw [<-kQ e.ge];simp [bp]
def MF(n:Int)(m:aj):Prop:=All m.atoms.length (λi=>¬n<=m.atoms.getD i.toNat default)
def bg(p:List aj)(n:Int):Prop:=All p.length (λi=>MF n (p.getD i.toNat default))
def Sh(p:List aj):Prop:=p.length<1000000000/\∀m∈p,m.atoms.length<1000000000
def Sh.at{p:List aj}(h:Sh p)(n:Nat):(p.getD n default).atoms.length<1000000000:=by
 by_cases a:n<p.length
 .rw [getD_lt a];exact h.2 _ (getElem_mem _)
 .simp only [getD,getElem?_eq_none (by omega:p.length<=n)];decide
def ar6{f:l7->Bool×dY}(o:∀a b,a.length<1000000000->p (a,b,())=true)
  (q:∀a n,a.length<1000000000->f (a,n,())=(bp (¬All a.length (λi=>¬n<=a.getD i.toNat default)),n,())) (a:List aj) (n:Int) (g:Sh a):
  aed.F (p,f,()) (a,n,()) (λy=>y=(bp (bg a n),())):=by
 have e:=g.1;dsimp only [aed,gm];refine au (λ(y:List aj×Int×ni)=>y.1=a/\y.2.1=a.length/\y.2.2.2.1=n/\0<=y.2.2.1/\y.2.2.1<=a.length/\All y.2.2.1 (λi=>MF n (a.getD i.toNat default))) (λy=>(a.length-y.2.2.1).toNat) ⟨rfl,rfl,rfl,by simp,by simp,All.zero⟩ ?_;rintro⟨(l:List aj),(m:Int),(i:Int),(k:Int),⟨⟩⟩ hI;dsimp only at hI ⊢;obtain⟨rfl,rfl,rfl,r,s,d⟩:=hI;simp (disch:=omega) only [RR];refine⟨λj=> ?_,λj=> ?_⟩
 .have h5:=g.at i.toNat;rw [o _ _ h5,q _ _ h5];refine⟨ah,ah,rfl,λc=> ?_,λc=>⟨⟨rfl,ah,ah,d.snoc ?_⟩,ah⟩⟩
  .rw [aV (λh=> ?_)];exact aH.1 c (h i r j)
  .exact Classical.byContradiction (λh=>iE.1 c h)
 .rw [aL (show bg l k from d.le ah)]
def ar7(m:aj):aee.F () (m,()) (λy=>y=(bp (0<m.atoms.length/\m.atoms.getD 0 default<0),())):=by
 dsimp only [aee,gm];simp (disch:=omega) only [RR];refine⟨ah,ah,?_⟩;rw [iU];by_cases a:0<m.atoms.length
 .by_cases h2:m.atoms.getD 0 default<0
  .rw [aL a,aL h2,show Int.toNat 0=0 from rfl,decide_eq_true h2,decide_eq_true ah]
  .rw [aL a,aV h2,show Int.toNat 0=0 from rfl,decide_eq_false h2,Bool.and_false,Bool.and_false]
 .rw [aV a,decide_eq_false ah,Bool.false_and,Bool.false_and]
def amo{p:aj×Unit->Bool}{f:aj×Unit->mQ}(G:aj->Prop)(U:∀a,p (a,())=true/\f (a,())=(bp (G a),()))(a:List aj)(h:a.length<1000000000):
  TM.F (p,f,()) (a,()) (λy=>Idx a.length (λi=>G (a.getD i.toNat default)) y.1):=by
 dsimp only [TM,gm];refine au (λ(y:List aj×ni)=>y.1=a/\y.2.1=a.length/\0<=y.2.2.1/\y.2.2.1<=a.length/\All y.2.2.1 (λi=>¬G (a.getD i.toNat default))) (λy=>(a.length-y.2.2.1).toNat) ⟨rfl,rfl,by simp,by simp,All.zero⟩ ?_;rintro⟨(l:List aj),(m:Int),(i:Int),⟨⟩⟩ hI;dsimp only at hI ⊢;obtain⟨rfl,rfl,g,e,c⟩:=hI;simp (disch:=omega) only [RR,U];refine⟨λd=>⟨ah,ah,λb=> ?_,λb=>⟨⟨ah,ah,c.snoc (iE.1 b)⟩,ah⟩⟩,λd=> ?_⟩
 .exact Or.inr ⟨ah,ah,aH.1 b,c⟩
 .exact Or.inl ⟨rfl,c.le ah⟩
def amq{p:bn->Bool}{f:bn->dY}(G:aj->Prop)(U:∀a,a.length<1000000000->p (a,())=true/\(Idx a.length (λi=>G (a.getD i.toNat default)) (f (a,())).1))(a:List aj)(b:a.length<1000000000):
  TN.F (p,f,()) (a,()) (λy=>y=(bp (¬All a.length (λi=>¬G (a.getD i.toNat default))),())):=by
 have c:=(U a b).2;dsimp only [TN,gm];simp (disch:=omega) only [RR,(U a b).1];rw [show decide ((0:Int)<=(f (a,())).1)=bp (¬All a.length (λi=>¬G (a.getD i.toNat default)))from ?_];rw [<-kQ c.ge];simp [bp]
def mOk(m:aj):Prop:=(1<=m.bH/\m.bH<=65535)/\m.atoms.length<=4/\Srt m.atoms
def aQ(p:List aj):Prop:=All p.length (λi=>mOk (p.getD i.toNat default)/\(0<i->fC (p.getD (i-1).toNat default).atoms (p.getD i.toNat default).atoms<0))/\p.length<=12/\bg p 200
 /\All p.length (λi=>¬(0< (p.getD i.toNat default).atoms.length/\(p.getD i.toNat default).atoms.getD 0 default<0))
abbrev Y6(c : List aj × Int × Unit -> Bool)(b : List aj × Int × Unit -> Bool × Unit) : Prop := ∀ a n, Sh a -> c (a, n, ()) = true /\ b (a, n, ()) = (bp (bg a n), ())
abbrev Y7(d : List Int × List Int × Unit -> Bool)(c : List Int × List Int × Unit -> Int × Unit) : Prop := ∀ a b, a.length < 1000000000 -> d (a, b, ()) = true /\ c (a, b, ()) = (fC a b, ())
def ar8{p1 f1 p2 f2 p4 f4}{o:bf->Bool}{p:bf->mQ}{k:bn->Bool}{g:bn->mQ}(t:Y1 p1 f1)(s:Y6 p2 f2)(u:∀a,a.length<1000000000->o (a,())=true/\p (a,())=(bp (Srt a),()))(z:Y7 p4 f4)(v:∀a,a.length<1000000000->k (a,())=true/\(g (a,())=(bp (¬All a.length (λi=>¬(0< (a.getD i.toNat default).atoms.length/\(a.getD i.toNat default).atoms.getD 0 default<0))),())))(a:List aj)(f:Sh a):aef.F (p1,f1,p2,f2,o,p,p4,f4,k,g,()) (a,()) (λy=>y=(bp (aQ a),())):=by
 have e:=f.1;dsimp only [aef,gm];refine au (λ(y:List aj×eB)=>y.1=a/\y.2.1=a.length/\y.2.2.2.1=a/\0<=y.2.2.1/\y.2.2.1<=a.length/\All y.2.2.1 (λi=>mOk (a.getD i.toNat default)/\(0<i->fC (a.getD (i-1).toNat default).atoms (a.getD i.toNat default).atoms<0))) (λy=>(a.length-y.2.2.1).toNat) ⟨rfl,rfl,rfl,by simp,by simp,All.zero⟩ ?_;rintro⟨(l:List aj),(m:Int),(i:Int),(d:List aj),⟨⟩⟩ hI;dsimp only at hI ⊢;obtain⟨rfl,rfl,rfl,x,B,j⟩:=hI;simp (disch:=omega) only [RR,t,s d _ f,v d e];refine⟨λq=> ?_,λq=> ?_⟩
 .simp (disch:=omega) only [RR,u _ (f.at _),z _ _ (f.at _),aH,iE,inB];refine⟨ah,ah,by by_cases h:i<=0<;>simp [h]<;>omega,ah,λc=> ?_,λc=>⟨⟨ah,ah,j.snoc ?_⟩,ah⟩⟩
  .rw [aV (λh=> ?_)];have:=h.1 i x q;dsimp only [mOk]at this;obtain⟨⟨n,C,r⟩,A⟩:=this;rcases c with((c | c) | c) | ⟨c,w⟩
   .simp [-getD_eq_getElem?_getD]at c;omega
   .omega
   .exact c r
   .have:=A c;omega
  .refine⟨⟨ah,ah,c.1.2⟩,λn=> ?_⟩;have:=c.2;simp only [decide_eq_true n,Bool.true_and,decide_eq_false_iff_not]at this;omega
 .unfold aQ;rw [show All (↑d.length) (λi=>mOk (d.getD i.toNat default)/\(0<i->fC (d.getD (i-1).toNat default).atoms (d.getD i.toNat default).atoms<0))=True from eq_true (j.le ah)];rw [true_and,iU,iU,Bool.and_assoc];refine congrArg (λb=>(b,())) ?_
  congr 1
  .by_cases h:d.length<=12<;>simp [bp,h]<;>omega
  .congr 1
   simp [bp]
def MG(a b:aj):Int:=or2 (fC a.atoms b.atoms) (iJ a.bH b.bH)
def C8:List aj->List aj->Int
 | a::az,b::bs=>if MG a b≠0 then MG a b else C8 az bs
 | _,_=>0
def iV(a b:List aj):Int:=if iJ a.length b.length≠0 then iJ a.length b.length else C8 a b
def C9(a b:List aj)(i:Nat):(d:i<a.length)->(c:i<b.length)->C8 (a.drop i) (b.drop i)=if MG a[i] b[i]≠0 then MG a[i] b[i]else C8 (a.drop (i+1)) (b.drop (i+1)):=by
 intro d c;rw [drop_eq_getElem_cons d,drop_eq_getElem_cons c];rfl
def ar9{p1 f1 p2 f2 p4 f4}(n:Y4 p1 f1)(k:Y3 p2 f2)(p:Y7 p4 f4)(a b:List aj)(j:Sh a):aeh.F (p1,f1,p2,f2,p4,f4,()) (a,b,()) (λy=>y=(iV a b,())):=by
 have g:=j.1;dsimp only [aeh,gm];simp (disch:=omega) only [RR,k];refine⟨λh=>by rw [iV,if_pos h],λh=> ?_⟩;have s:a.length=b.length:=by unfold iJ at h;split at h<;>(try split at h)<;>omega
 rw [show iV a b=C8 a b by rw [iV,if_neg (by simp [h])]];refine au (λ(y:List aj×eB)=>y.1=a/\y.2.1=a.length/\y.2.2.2.1=b/\0<=y.2.2.1/\y.2.2.1<=a.length/\C8 a b=C8 (a.drop y.2.2.1.toNat) (b.drop y.2.2.1.toNat)) (λy=>(a.length-y.2.2.1).toNat) ⟨rfl,rfl,rfl,by simp,by simp,by simp⟩ ?_;rintro⟨(l:List aj),(m:Int),(i:Int),(f:List aj),⟨⟩⟩ hI;dsimp only at hI ⊢;obtain⟨rfl,rfl,rfl,r,q,e⟩:=hI;simp (disch:=omega) only [RR,n,p _ _ (j.at _)];refine⟨λo=>⟨ah,ah,ah,ah,ah,ah,λd=> ?_,λd=>⟨⟨ah,ah,?_⟩,ah⟩⟩,λo=> ?_⟩
 .rw [e,C9 _ _ _ ah ah];rw [getD_lt ah,getD_lt ah]at d ⊢;exact((if_pos (c:=MG l[i.toNat] f[i.toNat]≠0) d).trans rfl).symm▸rfl
 .rw [e,C9 _ _ _ ah ah];rw [getD_lt ah,getD_lt ah]at d;rw [if_neg (show¬(MG l[i.toNat] f[i.toNat]≠0)from λh=>h d),show(i+1).toNat=i.toNat+1 by omega]
 .rw [e,drop_eq_nil_of_le ah];rfl
abbrev Y8(d : List aj × List aj × Unit -> Bool)(c : List aj × List aj × Unit -> Int × Unit) : Prop := ∀ a b, Sh a -> d (a, b, ()) = true /\ c (a, b, ()) = (iV a b, ())
def amr{p1 f1}(d:Y8 p1 f1)(a b:List aj)(c:Sh a):
  TP.F (p1,f1,()) (a,b,()) (λy=>y=(decide (iV a b=0),())):=by
 dsimp only [TP,gm];simp (disch:=omega) only [RR,d a b c]
end Go.TX.F
namespace Go.TX.F
open Go Go.AE Go.TX List
variable{G:Int->Prop}
theorem MH(k:IntKind)(x y:Int):iD .and k x y=ku .and k x y:=rfl
theorem Xq(k:IntKind)(x y:Int):iD .xor k x y=ku .xor k x y:=rfl
def ae5(x:Int):ku .and .i64 x 65535=x%65536:=by
 unfold ku;dsimp only;rw [BitVec.toNat_and,BitVec.toNat_ofInt,BitVec.toNat_ofInt];have a:((65535:Int)% ((2^IntKind.i64.bits:Nat):Int)).toNat=2^16-1:=by decide
 rw [a,Nat.and_two_pow_sub_one_eq_mod];rw [w64 ah ah];have b:((2^IntKind.i64.bits:Nat):Int)=18446744073709551616:=by decide
 rw [b];omega
def ai5{a b:Int}(i:0<=a)(d:a<=65535)(h:0<=b)(f:b<=65535):(0<=ku .and .i64 a b/\ku .and .i64 a b<=65535)/\(0<=ku .xor .i64 a b/\ku .xor .i64 a b<=65535):=by
 have c:((2^IntKind.i64.bits:Nat):Int)=18446744073709551616:=by decide
 have e:ku .and .i64 a b=((a.toNat&&&b.toNat:Nat):Int):=by
  unfold ku;dsimp only;rw [BitVec.toNat_and,BitVec.toNat_ofInt,BitVec.toNat_ofInt,c,show a%18446744073709551616=a by omega,show b%18446744073709551616=b by omega];have:=Nat.and_lt_two_pow (a.toNat) (show b.toNat<2^16 by omega);rw [w64 ah ah]
 have g:ku .xor .i64 a b=((a.toNat^^^b.toNat:Nat):Int):=by
  unfold ku;dsimp only;rw [BitVec.toNat_xor,BitVec.toNat_ofInt,BitVec.toNat_ofInt,c,show a%18446744073709551616=a by omega,show b%18446744073709551616=b by omega];have:=Nat.xor_lt_two_pow (show a.toNat<2^16 by omega) (show b.toNat<2^16 by omega);rw [w64 ah ah]
 rw [e,g];have:=Nat.and_lt_two_pow (a.toNat) (show b.toNat<2^16 by omega);have:=Nat.xor_lt_two_pow (show a.toNat<2^16 by omega) (show b.toNat<2^16 by omega);omega
def ams(a:Int):Ua.F () (a,()) (λy=>y=(a%65536,())):=by
 dsimp only [Ua,gm];simp (disch:=omega) only [RR,MH,ae5]
def wdo(c a b:Int):Int:=if(0<=a/\a<=65535)/\(0<=b/\b<=65535)then
 (if c=1 then(a+b)%65536 else if c=2 then(a-b)%65536 else if c=3 then(a*b)%65536 else if c=4 then ku .and .i64 a b else if c=5 then ku .xor .i64 a b else 0)else 0
def EJ(c a b:Int):0<=wdo c a b/\wdo c a b<=65535:=by
 unfold wdo;split
 .rename_i h;have:=ai5 h.1.1 h.1.2 h.2.1 h.2.2
  repeat' split
  all_goals omega
 .omega
def bD{a b c:Int}:inB a b c=true↔(b<=a/\a<=c):=by simp [inB]
def jF{a b c:Int}:inB a b c=false↔¬(b<=a/\a<=c):=by rw [<-bD,Bool.not_eq_true]
abbrev Y9(c : Int × Unit -> Bool)(b : Int × Unit -> Bool × Unit) : Prop := ∀ a, c (a, ()) = true /\ b (a, ()) = (inB a 0 65535, ())
abbrev Y10(c : Int × Unit -> Bool)(b : Int × Unit -> Int × Unit) : Prop := ∀ a, c (a, ()) = true /\ b (a, ()) = (a % 65536, ())
def amt{p1 f1 p2 f2}(k:Y9 p1 f1)(j:Y10 p2 f2)(d a b:Int):
  Ub.F (p1,f1,p2,f2,()) (d,a,b,()) (λy=>y=(wdo d a b,())):=by
 dsimp only [Ub,gm];simp (disch:=omega) only [RR,k,j,MH,Xq,bD,jF];by_cases c:(0<=a/\a<=65535)/\(0<=b/\b<=65535)
 .have hm:0<=a*b/\a*b<=65535*65535:=⟨Int.mul_nonneg c.1.1 c.2.1,Int.mul_le_mul c.1.2 c.2.2 c.2.1 ah⟩;rw [w64 (x:=a+b) ah ah,w64 (x:=a-b) ah ah,w64 (x:=a*b) ah ah];unfold wdo;rw [if_pos c];refine⟨λh=>absurd h ah,λ_=>⟨λh=> ?_,λh=>⟨λg=> ?_,λg=>⟨λe=> ?_,λe=>⟨λi=> ?_,λi=>⟨λf=> ?_,λf=> ?_⟩⟩⟩⟩⟩⟩<;>(subst_vars;first | rfl | simp only [if_true,if_false, *])
 .refine⟨λh=> ?_,λh=>absurd h ?_⟩
  .unfold wdo;rw [if_neg c]
  .exact c
def aW(n:Int):List aj:=if 1<=n/\n<=65535 then [⟨n,[]⟩]else []
def asa{p1 f1}(b:Y1 p1 f1)(a:Int):
  aes.F (p1,f1,()) (a,()) (λy=>y=(aW a,())):=by
 dsimp only [aes,gm];simp (disch:=omega) only [RR,b,bD,jF];unfold aW;exact⟨λh=>by rw [if_neg ah],λh=>by rw [if_pos ah]⟩
def gZ(n:Int):List aj:=if 0<=n/\n<=199 then [⟨1,[n]⟩]else []
def asb{p1 f1}(b:Y1 p1 f1)(a:Int):
  aem.F (p1,f1,()) (a,()) (λy=>y=(gZ a,())):=by
 dsimp only [aem,gm];simp (disch:=omega) only [RR,b,bD,jF];unfold gZ;exact⟨λh=>by rw [if_neg ah],λh=>by rw [if_pos ah]⟩
noncomputable def dw (p:List aj):Int×Bool:=if bp (aQ p)then(if p.length=0 then(0,true)else if p.length=1/\(p.getD 0 default).atoms.length=0 then((p.getD 0 default).bH,true)else(0,false))else(0,false)
abbrev Y11(c : List aj × Unit -> Bool)(b : List aj × Unit -> Bool × Unit) : Prop := ∀ a, Sh a -> c (a, ()) = true /\ b (a, ()) = (bp (aQ a), ())
def asc{p1 f1}(f:Y11 p1 f1)(a:List aj)(e:Sh a):
  aeu.F (p1,f1,()) (a,()) (λy=>y=((dw a).1,(dw a).2,())):=by
 dsimp only [aeu,gm];simp (disch:=omega) only [RR,f a e];unfold dw;refine⟨λh=> ?_,λh=>⟨λd=> ?_,λd=>⟨ah,ah,λb=>⟨ah,ah,?_⟩,λb=> ?_⟩⟩⟩
 .rw [if_neg (by simpa using h)]
 .rw [if_pos h,if_pos ah]
 .have c:=b.2;rw [show Int.toNat 0=0 from rfl]at c;rw [if_pos h,if_neg ah,if_pos (show a.length=1/\(a.getD 0 default).atoms.length=0 by omega)];rfl
 .rw [if_pos h,if_neg ah,if_neg];intro c;rw [decide_eq_true ah,Bool.true_and,decide_eq_false_iff_not]at b;apply b;rw [show Int.toNat 0=0 from rfl];omega
def amu(a:List Int)(b:a.length<=1073741824):TW.F () (a,()) (λy=>y=(a,())):=by
 dsimp only [TW,gm];simp (disch:=omega) only [RR];omega
def bq{α:Type}{l:List α}{i:Int}{d x:α}(a:0<=i)(h:i<l.length)(e:x=l.getD i.toNat d):l.take i.toNat++ [x]=l.take (i+1).toNat:=by
 rw [e,getD_lt ah,show(i+1).toNat=i.toNat+1 by omega,take_succ_eq_append_getElem ah]
abbrev Y12(c : List Int × Unit -> Bool)(b : List Int × Unit -> List Int × Unit) : Prop := ∀ a, a.length <= 1073741824 -> c (a, ()) = true /\ b (a, ()) = (a, ())
def ase{p1 f1}(f:Y12 p1 f1)(a:List aj)(b:Sh a):
  aen.F (p1,f1,()) (a,()) (λy=>y=(a,())):=by
 have c:=b.1;dsimp only [aen,gm];refine au (λ(y:List aj×eB)=>y.1=a/\y.2.1=a.length/\y.2.2.2.1=a.take y.2.2.1.toNat/\0<=y.2.2.1/\y.2.2.1<=a.length) (λy=>(a.length-y.2.2.1).toNat) ⟨rfl,rfl,by simp,by simp,by simp⟩ ?_;rintro⟨(l:List aj),(m:Int),(i:Int),(o:List aj),⟨⟩⟩ hI;dsimp only at hI ⊢;obtain⟨rfl,rfl,rfl,e,g⟩:=hI;simp (disch:=first | omega | (have:=b.at i.toNat;omega)) only [RR,f];have h:=b.at i.toNat;refine⟨λd=>⟨ah,ah,?_,⟨bq e d rfl,ah,ah⟩,ah⟩,λd=>by rw [take_of_length_le ah]⟩;have:=length_take_le' i.toNat l;simp only [length_cons,length_nil];omega
def ShA(a:Atom):Prop:=Sh a.x/\Sh a.y
def ShT(t:List Atom):Prop:=t.length<1000000000/\∀a∈t,ShA a
def ShT.at{p:List Atom}(h:ShT p)(n:Nat):ShA (p.getD n default):=by
 by_cases a:n<p.length
 .rw [getD_lt a];exact h.2 _ (getElem_mem _)
 .simp only [getD,getElem?_eq_none (by omega:p.length<=n)];refine⟨⟨by decide,λm hm=> ?_⟩,⟨by decide,λm hm=> ?_⟩⟩<;>exact absurd hm (by simp [default,instInhabitedAtom.default])
abbrev Y13(c : List aj × Unit -> Bool)(b : List aj × Unit -> List aj × Unit) : Prop := ∀ a, Sh a -> c (a, ()) = true /\ b (a, ()) = (a, ())
def asf{p1 f1}(e:Y13 p1 f1)(a:List Atom)(b:ShT a):
  aeo.F (p1,f1,()) (a,()) (λy=>y=(a,())):=by
 have c:=b.1;dsimp only [aeo,gm];refine au (λ(y:List Atom×Int×Int×l8)=>y.1=a/\y.2.1=a.length/\y.2.2.2.1=a.take y.2.2.1.toNat/\0<=y.2.2.1/\y.2.2.1<=a.length) (λy=>(a.length-y.2.2.1).toNat) ⟨rfl,rfl,by simp,by simp,by simp⟩ ?_;rintro⟨(l:List Atom),(m:Int),(i:Int),(o:List Atom),⟨⟩⟩ hI;dsimp only at hI ⊢;obtain⟨rfl,rfl,rfl,f,g⟩:=hI;simp (disch:=omega) only [RR,e _ (b.at _).1,e _ (b.at _).2];refine⟨λd=>⟨ah,ah,?_,⟨bq f d rfl,ah,ah⟩,ah⟩,λd=>by rw [take_of_length_le ah]⟩;have:=length_take_le' i.toNat l;simp only [length_cons,length_nil];omega
def amv{p4 f4}(c:Y7 p4 f4)(a b:aj)(d:a.atoms.length<1000000000):
  Uc.F (p4,f4,()) (a,b,()) (λy=>y=(fC a.atoms b.atoms,())):=by
 dsimp only [Uc,gm];simp (disch:=omega) only [RR,c a.atoms b.atoms d]
def amw(a:List Atom):TS.F () (a,()) (λy=>y=(a,())):=by
 dsimp only [TS,gm];simp (disch:=omega) only [RR];refine⟨ah,ah,ah,?_⟩;rw [take_of_length_le ah];rfl
def uQ(a b:Atom):Bool:=decide (a.kind=b.kind)&&decide (a.k=b.k)&&decide (iV a.x b.x=0)&&decide (iV a.y b.y=0)
abbrev Y14(d : List aj × List aj × Unit -> Bool)(c : List aj × List aj × Unit -> Bool × Unit) : Prop := ∀ a b, Sh a -> d (a, b, ()) = true /\ c (a, b, ()) = (decide (iV a b = 0), ())
def asg{p1 f1}(d:Y14 p1 f1)(a b:Atom)(c:ShA a):
  aei.F (p1,f1,()) (a,b,()) (λy=>y=(uQ a b,())):=by
 dsimp only [aei,gm];simp (disch:=omega) only [RR,d a.x b.x c.1,d a.y b.y c.2];rfl
abbrev Y15(d : Atom × Atom × Unit -> Bool)(c : Atom × Atom × Unit -> Bool × Unit) : Prop := ∀ a b, ShA a -> d (a, b, ()) = true /\ c (a, b, ()) = (uQ a b, ())
def ash{p1 f1}(d:Y15 p1 f1)(a b:Atom)(c:ShA b):
  aej.F (p1,f1,()) (a,b,()) (λy=>y=(uQ b a,b,())):=by
 dsimp only [aej,gm];simp (disch:=omega) only [RR,d b a c]
noncomputable def idxOf (n:Int) (G:Int->Prop):Int:= @dite _ (∃r,Idx n G r) (Classical.propDecidable _) (λh=>Classical.choose h) (λ_=> -1)
def Idx.uniq{n:Int}{r s:Int}(h:Idx n G r)(j:Idx n G s):r=s:=by
 rcases h with⟨c,b⟩ | ⟨c,b,e,g⟩<;>rcases j with⟨d,a⟩ | ⟨d,a,f,i⟩
 .omega
 .exact absurd f (b s d a)
 .exact absurd e (a r c b)
 .by_cases h5:r<s
  .exact absurd e (i r c h5)
  .by_cases h6:s<r
   .exact absurd f (g s d h6)
   .omega
def Idx.eq{n:Int}{r:Int}(h:Idx n G r):r=idxOf n G:=by
 unfold idxOf;have a:∃r,Idx n G r:=⟨r,h⟩;rw [dif_pos a];exact h.uniq (Classical.choose_spec a)
def amx{p:Atom×avO->Bool}{f:Atom×avO->Bool×avO}(U:∀a b,ShA b->p (a,b,())=true/\f (a,b,())=(uQ b a,b,()))(a:List Atom)(b:Atom)(n:a.length<1000000000)(e:ShA b):
  TQ.F (p,f,()) (a,b,()) (λy=>y=(idxOf a.length (λi=>uQ b (a.getD i.toNat default)=true),b,())):=by
 dsimp only [TQ,gm];refine au (λ(y:List Atom×Int×Int×avO)=>y.1=a/\y.2.1=a.length/\y.2.2.2.1=b/\0<=y.2.2.1/\y.2.2.1<=a.length/\All y.2.2.1 (λi=>¬uQ b (a.getD i.toNat default)=true)) (λy=>(a.length-y.2.2.1).toNat) ⟨rfl,rfl,rfl,by simp,by simp,All.zero⟩ ?_;rintro⟨(l:List Atom),(m:Int),(i:Int),(k:Atom),⟨⟩⟩ hI;dsimp only at hI ⊢;obtain⟨rfl,rfl,rfl,j,h,d⟩:=hI;simp (disch:=omega) only [RR,U _ _ e];refine⟨λg=>⟨ah,ah,λc=> ?_,λc=>⟨⟨ah,ah,d.snoc (by simp only [c];simp)⟩,ah⟩⟩,λg=> ?_⟩
 .rw [<-Idx.eq (Or.inr ⟨ah,ah,c,d⟩)]
 .rw [<-Idx.eq (Or.inl ⟨rfl,d.le ah⟩)]
noncomputable def uR (t:List Atom) (a:Atom):Int:=idxOf t.length (λi=>uQ a (t.getD i.toNat default)=true)
def asi{p:r9->Bool}{f:r9->Int×avO}(U:∀a b,a.length<1000000000->ShA b->p (a,b,())=true/\(f (a,b,())=(idxOf a.length (λi=>uQ b (a.getD i.toNat default)=true),b,())))(a:List Atom)(b:Atom)(d:a.length<1000000000)(c:ShA b):
  aek.F (p,f,()) (a,b,()) (λy=>y=(uR a b,())):=by
 dsimp only [aek,gm];simp (disch:=omega) only [RR,U a b d c];rfl
def jG(a:Atom)(n:Int):Prop:=if a.kind=4 then(1<=a.k/\a.k<=5)/\aQ a.x/\aQ a.y/\bg a.x n/\bg a.y n else
 (a.x=[]/\a.y=[])/\((a.kind=1/\0<=a.k/\a.k<=3)\/(a.kind=2\/a.kind=3)/\0<=a.k/\a.k<=199)
abbrev Y16(c : Int × Unit -> Bool)(b : Int × Unit -> Bool × Unit) : Prop := ∀ a, c (a, ()) = true /\ b (a, ()) = (inB a 1 5, ())
abbrev Y17(c : Int × Unit -> Bool)(b : Int × Unit -> Bool × Unit) : Prop := ∀ a, c (a, ()) = true /\ b (a, ()) = (inB a 0 3, ())
def asj{p1 f1 p2 f2 p3 f3 p4 f4 p5 f5}(p:Y1 p1 f1)(m:Y16 p2 f2)(i:Y6 p3 f3)(g:Y11 p4 f4)(j:Y17 p5 f5)(a:Atom)(n:Int)(o:ShA a):
  aeg.F (p1,f1,p2,f2,p3,f3,p4,f4,p5,f5,()) (a,n,()) (λy=>y=(bp (jG a n),())):=by
 obtain⟨b,d⟩:=o;have k:=b.1;have l:=d.1;dsimp only [aeg,gm];simp (disch:=omega) only [RR,p,m,i a.x n b,i a.y n d,g a.x b,g a.y d,j];unfold jG;refine⟨λh=> ?_,λh=>⟨λe=> ?_,λe=> ?_⟩⟩
 .rw [if_pos h]
  congr 1
  rw [Bool.eq_iff_iff,aH];simp only [Bool.and_eq_true,bD,aH,and_assoc]
 .rw [if_neg h,aV];rintro⟨⟨c,f⟩, -⟩;rw [c,f]at e;exact absurd e (by simp)
 .rw [if_neg h];have c:a.x=[]:=eq_nil_of_length_eq_zero ah;have f:a.y=[]:=eq_nil_of_length_eq_zero ah
  congr 1
  rw [Bool.eq_iff_iff,aH];simp only [Bool.or_eq_true,Bool.and_eq_true,decide_eq_true_eq,bD,c,f,true_and]
def aI(t:List Atom):Prop:=All t.length (λi=>jG (t.getD i.toNat default) i/\uR t (t.getD i.toNat default)=i)/\t.length<=200
abbrev Y18(c : Atom × Int × Unit -> Bool)(b : Atom × Int × Unit -> Bool × Unit) : Prop := ∀ a n, ShA a -> c (a, n, ()) = true /\ b (a, n, ()) = (bp (jG a n), ())
abbrev Y19(d : List Atom × Atom × Unit -> Bool)(c : List Atom × Atom × Unit -> Int × Unit) : Prop := ∀ a b, a.length < 1000000000 -> ShA b -> d (a, b, ()) = true /\ c (a, b, ()) = (uR a b, ())
def asl{p1 f1 p2 f2}(n:Y18 p1 f1)(k:Y19 p2 f2)(a:List Atom)(c:ShT a):
  aer.F (p1,f1,p2,f2,()) (a,()) (λy=>y=(bp (aI a),())):=by
 have e:=c.1;dsimp only [aer,gm];refine au (λ(y:List Atom×Int×Int×l8)=>y.1=a/\y.2.1=a.length/\y.2.2.2.1=a/\0<=y.2.2.1/\y.2.2.1<=a.length/\All y.2.2.1 (λi=>jG (a.getD i.toNat default) i/\uR a (a.getD i.toNat default)=i)) (λy=>(a.length-y.2.2.1).toNat) ⟨rfl,rfl,rfl,by simp,by simp,All.zero⟩ ?_;rintro⟨(l:List Atom),(m:Int),(i:Int),(d:List Atom),⟨⟩⟩ hI;dsimp only at hI ⊢;obtain⟨rfl,rfl,rfl,j,o,g⟩:=hI;simp (disch:=omega) only [RR,n _ _ (c.at _),k _ _ c.1 (c.at _),aH,iE];refine⟨λf=>⟨ah,ah,λb=> ?_,λb=>⟨⟨ah,ah,g.snoc b⟩,ah⟩⟩,λf=> ?_⟩
 .rw [aV (λh=> ?_)];have:=h.1 i j f;rcases b with b | b
  .exact b this.1
  .exact b this.2
 .by_cases b:d.length<=200
  .rw [aL (show aI d from⟨g.le ah,b⟩),decide_eq_true ah]
  .rw [aV (show¬aI d from λh=>b h.2),decide_eq_false ah]
noncomputable def bC (t:List Atom) (a:Atom):List Atom×Int:=if 0<=uR t a then(t,uR t a)else @ite _ (¬jG a t.length\/t.length=200) (Classical.propDecidable _) (t, -1) (t++ [a],(t.length:Int))
def asn{p1 f1 p2 f2}{e:l8->Bool}{d:l8->l8}(k:Y18 p1 f1)(j:Y19 p2 f2)(g:∀a,e (a,())=true/\d (a,())=(a,()))(t:List Atom)(a:Atom)(i:t.length<1000000000)(f:ShA a):
  ael.F (p1,f1,p2,f2,e,d,()) (t,a,()) (λy=>y=((bC t a).1,(bC t a).2,())):=by
 dsimp only [ael,gm];simp (disch:=omega) only [RR,k a t.length f,j t a i f,g,aH,iE];unfold bC;refine⟨λh=>by rw [if_pos h],λh=>⟨λb=> ?_,λb=>⟨?_,?_,?_⟩⟩⟩
 .rw [if_neg h,if_pos (by rcases b with b | b;exact Or.inl b;exact Or.inr ah)]
 .exact Or.inl (by simp)
 .simp only [length_cons,length_nil];omega
 .rw [if_neg h,if_neg (by rintro(c | c);exact c b.1;exact absurd c ah)]
end Go.TX.F
namespace Go.TX.F
open Go Go.AE Go.TX List
variable{d:List aj}
def KQ(a b:Int):iJ b a= -iJ a b:=by unfold iJ;repeat' split<;>omega
def jP{a b:Int}:iJ a b=0↔a=b:=by unfold iJ;constructor<;>intro h<;>(repeat' split at*)<;>omega
def KR:∀a b:List Int,l9 b a= -l9 a b
 | [],[]=>rfl | [],_::_=>rfl | _::_,[]=>rfl
 | a::az,b::bs=>by
  simp only [l9,KQ a b,KR az bs];split<;>split<;>omega
def KS:∀ {a b:List Int},l9 a b=0->a=b
 | [],[],_=>rfl | [],_::_,h=>by simp [l9]at h
 | _::_,[],h=>by simp [l9]at h
 | a::az,b::bs,h=>by
  simp only [l9]at h;split at h
  .exact absurd h (by assumption)
  .rename_i h1;rw [jP.1 (Classical.not_not.1 h1),KS h]
def KT:∀a:List Int,l9 a a=0
 | []=>rfl
 | a::az=>by simp only [l9,show iJ a a=0 from jP.2 rfl];simp [KT az]
def GX:∀ {a b c:List Int},l9 a b<=0->l9 b c<=0->l9 a c<=0
 | [],_,[],_,_=>by simp [l9]
 | [],_,_::_,_,_=>by simp [l9]
 | _::_,[],_,h,_=>by simp [l9]at h
 | _::_,_::_,[],_,h=>by simp [l9]at h
 | a::az,b::bs,c::cs,h1,h2=>by
  have d:= @GX az bs cs;simp only [l9]at h1 h2 ⊢;unfold iJ at h1 h2 ⊢
  repeat' split at h1
  all_goals (repeat' split at h2)
  all_goals (repeat' split)
  all_goals omega
def sK(a b:List Int):fC b a= -fC a b:=by
 unfold fC or2;rw [KQ,KR];repeat' split<;>omega
def lI{a b:List Int}:fC a b=0↔a=b:=by
 constructor
 .intro h;unfold fC or2 at h;split at h
  .exact absurd h (by assumption)
  .exact KS h
 .rintro rfl;unfold fC or2;rw [show iJ (a.length:Int) a.length=0 from jP.2 rfl,KT];rfl
def Af{a b c:List Int}(e:fC a b<=0)(d:fC b c<=0):fC a c<=0:=by
 have f:= @GX a b c;unfold fC or2 iJ at*
 repeat' split at e
 all_goals (repeat' split at d)
 all_goals (repeat' split)
 all_goals omega
def le(x y:aj):Prop:=fC x.atoms y.atoms<=0
def le.trans{x y z:aj}(a:le x y)(h2:le y z):le x z:=Af a h2
def sM{x y:aj}(h:¬fC y.atoms x.atoms<0):le x y:=by unfold le;rw [sK];omega
def le_of_lt{x y:aj}(h:fC x.atoms y.atoms<0):le x y:=by unfold le;omega
def le_refl(x:aj):le x x:=by unfold le;rw [lI.2 rfl];omega
def dS{x y z:aj}(a:le x y)(b:fC y.atoms z.atoms<0):fC x.atoms z.atoms<0:=by
 have c:=Af a (le_of_lt b);by_cases h:fC x.atoms z.atoms=0
 .have e:=lI.1 h;unfold le at a;rw [e,sK]at a;omega
 .omega
def lJ{x y z:aj}(b:fC x.atoms y.atoms<0)(a:le y z):fC x.atoms z.atoms<0:=by
 have c:=Af (le_of_lt b) a;by_cases h:fC x.atoms z.atoms=0
 .have e:=lI.1 h;unfold le at a;rw [<-e,sK]at a;omega
 .omega
def MI(g:aj->Int)(x:aj):∀(d:List aj) (n:Nat) (h:n<d.length),((d.set n x).map g).sum=(d.map g).sum-g d[n]+g x
 | [],_,h=>absurd h (by simp)
 | a::d,0,h=>by simp;omega
 | a::d,n+1,h=>by
  have:=MI g x d n (by simpa using h);simp only [set_cons_succ,map_cons,sum_cons,getElem_cons_succ];omega
structure Sm(d d':List aj):Prop where
 len:d'.length=d.length
 sum:∀g:aj->Int,(d'.map g).sum=(d.map g).sum
def Sm.refl(d:List aj):Sm d d:=⟨rfl,λ_=>rfl⟩
def Sm.trans{a b c:List aj}(d:Sm a b)(h2:Sm b c):Sm a c:=⟨h2.1.trans d.1,λg=>(h2.2 g).trans (d.2 g)⟩
def MK(x:aj):∀d:List aj,0<=(d.map (λy=>if y=x then(1:Int)else 0)).sum/\(0< (d.map (λy=>if y=x then(1:Int)else 0)).sum↔x∈d)
 | []=>by simp
 | a::d=>by
  have:=MK x d;simp only [map_cons,sum_cons,mem_cons];by_cases h:a=x
  .rw [if_pos h];refine⟨ah,⟨λ_=>Or.inl h.symm,λ_=>by omega⟩⟩
  .rw [if_neg h];refine⟨ah,⟨λb=>Or.inr (this.2.1 ah),λb=> ?_⟩⟩;rcases b with b | b
   .exact absurd b.symm h
   .have:=this.2.2 b;omega
def Sm.mem{a b:List aj}(h:Sm a b){x:aj}(c:x∈b):x∈a:=by
 rw [<-(MK x a).2,<-h.2];exact(MK x b).2.2 c
def Sm.sh{a b:List aj}(h:Sm a b)(c:Sh a):Sh b:=⟨by have:=c.1;have:=h.1;omega,λm hm=>c.2 m (h.mem hm)⟩
def swp(d:List aj)(i j:Int):List aj:=(d.set i.toNat ((d).getD (j).toNat default)).set j.toNat ((d).getD (i).toNat default)
def ai6(d:List aj)(i j:Int):(swp d i j).length=d.length:=by simp [swp]
def at_set{i j:Int}{x:aj}(b:0<=i)(a:i<d.length)(c:0<=j):((d.set i.toNat x).getD (j).toNat default)=if j=i then x else((d).getD (j).toNat default):=by
 simp only [getD];by_cases h:j=i
 .subst h;rw [if_pos rfl,getElem?_set_self ah];rfl
 .rw [if_neg h,getElem?_set_ne ah]
def wU{i j k:Int}(c:0<=i)(b:i<d.length)(e:0<=j)(f:j<d.length)(a:0<=k):((swp d i j).getD (k).toNat default)=if k=j then((d).getD (i).toNat default)else if k=i then((d).getD (j).toNat default)else((d).getD (k).toNat default):=by
 unfold swp;rw [at_set e (by simp;omega) a,at_set c b a]
def ML{i j:Int}(c:0<=i)(a:i<d.length)(e:0<=j)(b:j<d.length):Sm d (swp d i j):=by
 refine⟨ai6 d i j,λg=> ?_⟩;unfold swp;rw [getD_lt (show i.toNat<d.length by omega),getD_lt (show j.toNat<d.length by omega),MI g _ _ _ (by simp;omega),MI g _ _ _ ah,getElem_set];split
 .rename_i h;have:i=j:=by omega
  subst this;omega
 .omega
def Swp(d c:List aj)(a b n:Int):Prop:=Sm d c/\∀k,0<=k->((c).getD (k).toNat default)=if a<=k/\k<a+n then((d).getD (k+(b-a)).toNat default)else if b<=k/\k<b+n then((d).getD (k- (b-a)).toNat default)else((d).getD (k).toNat default)
theorem amy(a b n:Int)(d:List aj)(u:d.length<1000000000)(t:0<=a)(r:0<=n)(p:a+n<=b)(s:b+n<=d.length):
  Ue.F () (a,b,n,d,()) (λy=>Swp d y.1 a b n):=by
 dsimp only [Ue,gm]
 refine au (λ(y:Int×zl)=>y.1=a/\y.2.1=b/\y.2.2.1=n/\0<=y.2.2.2.1/\y.2.2.2.1<=n/\Swp d y.2.2.2.2.1 a b y.2.2.2.1) (λy=>(n-y.2.2.2.1).toNat)
  ⟨rfl,rfl,rfl,by simp,by simp;omega,Sm.refl d,λk hk=>by dsimp only;rw [if_neg ah,if_neg ah]⟩ ?_
 rintro⟨(f:Int),(h:Int),(j:Int),(i:Int),(e:List aj),⟨⟩⟩ hI;dsimp only at hI ⊢;obtain⟨rfl,rfl,rfl,o,q,g,c⟩:=hI;have l:=g.1;simp (disch:=omega) only [RR,length_set];refine⟨λm=> ?_,λm=> ?_⟩
 .have e1:(e.set (f+i).toNat ((e).getD (h+i).toNat default)).set (h+i).toNat ((e).getD (f+i).toNat default)=swp e (f+i) (h+i):=rfl;rw [e1];refine⟨ah,ah,ah,ah,ah,ah,ah,ah,ah,ah,ah,ah,ah,ah,ah,ah,⟨ah,ah,g.trans (ML ah ah ah ah),λk hk=> ?_⟩,ah⟩;rw [wU ah ah ah ah hk];rw [c _ ah,c _ ah,c _ hk]
  repeat' split
  all_goals first | rfl | (exfalso;omega) | (congr 2;omega)
 .have:i=j:=by omega
  subst this;exact⟨g,c⟩
end Go.TX.F
namespace Go.TX.F
open Go Go.AE Go.TX List
def Rot(d c:List aj)(a m b:Int):Prop:=Sm d c/\∀k,0<=k->((c).getD (k).toNat default)=if a<=k/\k<a+(b-m)then((d).getD (k+(m-a)).toNat default)else if a+(b-m)<=k/\k<b then((d).getD (k- (b-m)).toNat default)else((d).getD (k).toNat default)
def amA{p:zl->Bool}{f:zl->bn}(U:∀(a b n:Int) (d:List aj),d.length<1000000000->0<=a->0<=n->a+n<=b->b+n<=d.length->p (a,b,n,d,())=true/\Swp d (f (a,b,n,d,())).1 a b n)(a m b:Int)(d:List aj)(I:d.length<1000000000)(H:0<=a)(D:a<m)(A:m<b)(G:b<=d.length):
  Uf.F (p,f,()) (a,m,b,d,()) (λy=>Rot d y.1 a m b):=by
 dsimp only [Uf,gm];simp (disch:=omega) only [RR]
 refine au (λ(y:zl)=>y.1=m/\0<y.2.1/\0<y.2.2.1/\a<=m-y.2.1/\m+y.2.2.1<=b/\Sm d y.2.2.2.1/\
   ∀k,0<=k->(if a<=k/\k<a+(b-m)then((d).getD (k+(m-a)).toNat default)else if a+(b-m)<=k/\k<b then((d).getD (k- (b-m)).toNat default)else((d).getD (k).toNat default))
    =(if m-y.2.1<=k/\k<m-y.2.1+y.2.2.1 then((y.2.2.2.1).getD (k+y.2.1).toNat default)else if m-y.2.1+y.2.2.1<=k/\k<m+y.2.2.1 then((y.2.2.2.1).getD (k-y.2.2.1).toNat default)else((y.2.2.2.1).getD (k).toNat default))) (λy=>(y.2.1+y.2.2.1).toNat)
  ⟨rfl,by simp;omega,by simp;omega,by simp;omega,by simp;omega,Sm.refl d,λk hk=>by
   dsimp only;rw [show m- (m-a)=a by omega,show m+(b-m)=b by omega]⟩ ?_
 rintro⟨(c:Int),(i:Int),(j:Int),(e:List aj),⟨⟩⟩ hI;dsimp only at hI ⊢;obtain⟨rfl,x,C,F,z,r,l⟩:=hI;have v:=r.1;simp (disch:=omega) only [RR];refine⟨λt=>⟨λu=> ?_,λu=> ?_⟩,λt=> ?_⟩
 .obtain⟨h,g⟩:=(U (c-i) c j e ah ah ah ah ah).2;refine⟨(U _ _ _ _ ah ah ah ah ah).1,⟨ah,ah,ah,ah,r.trans h,λk hk=> ?_⟩,ah⟩;rw [l k hk];generalize (f (c-i,c,j,e,())).1=w at h g ⊢;by_cases o:c-i<=k/\k<c-i+j
  .rw [if_pos o,if_neg ah,if_neg ah,g k hk,if_pos o];congr 2;omega
  .rw [if_neg o];by_cases q:c-i+j<=k/\k<c+j
   .rw [if_pos q];by_cases s:c- (i-j)<=k/\k<c- (i-j)+j
    .rw [if_pos s,g _ ah,if_neg ah,if_pos ah];congr 2;omega
    .rw [if_neg s,if_pos ah,g _ ah,if_neg ah,if_neg ah]
   .rw [if_neg q,if_neg ah,if_neg ah,g _ hk,if_neg ah,if_neg ah]
 .obtain⟨h,g⟩:=(U (c-i) (c+j-i) i e ah ah ah ah ah).2;refine⟨(U _ _ _ _ ah ah ah ah ah).1,⟨ah,ah,ah,ah,r.trans h,λk hk=> ?_⟩,ah⟩;rw [l k hk];generalize (f (c-i,c+j-i,i,e,())).1=w at h g ⊢;by_cases o:c-i<=k/\k<c-i+j
  .rw [if_pos o];by_cases s:k<c-i+(j-i)
   .rw [if_pos ah,g _ ah];by_cases B:k<c
    .by_cases c5:k+i<c+j-i
     .rw [if_neg ah,if_neg ah]
     .exfalso;omega
    .by_cases c5:k+i<c+j-i
     .rw [if_neg ah,if_neg ah]
     .exfalso;omega
   .by_cases c6:k<c
    .rw [if_neg ah,if_pos ah,g _ ah,if_pos ah];congr 2;omega
    .rw [if_neg ah,if_pos ah,g _ ah];by_cases E:k- (j-i)<c
     .rw [if_pos ah];congr 2;omega
     .exfalso;omega
  .rw [if_neg o];by_cases q:c-i+j<=k/\k<c+j
   .rw [if_pos q,if_neg ah,if_neg ah,g _ hk,if_neg ah,if_pos ah];congr 2;omega
   .rw [if_neg q,if_neg ah,if_neg ah,g _ hk,if_neg ah,if_neg ah]
 .have hij:i=j:=by omega
  subst hij;obtain⟨h,g⟩:=(U (c-i) c i e ah ah ah ah ah).2;refine⟨(U _ _ _ _ ah ah ah ah ah).1,r.trans h,λk hk=> ?_⟩;rw [l k hk,g k hk]
  repeat' split
  all_goals first | rfl | (exfalso;omega) | (congr 2;omega)
def nY(d:List aj)(a b:Int):Prop:=∀p q,a<=p->p<=q->q<b->le ((d).getD (p).toNat default) ((d).getD (q).toNat default)
def Out(d c:List aj)(a b:Int):Prop:=∀k,0<=k->(k<a\/b<=k)->((c).getD (k).toNat default)=((d).getD (k).toNat default)
abbrev Y20(b : aj × aj × Unit -> Bool)(a : aj × aj × Unit -> Int × Unit) : Prop := ∀ x y, x.atoms.length < 1000000000 -> b (x, y, ()) = true /\ a (x, y, ()) = (fC x.atoms y.atoms, ())
theorem amB{p f}(U:Y20 p f)(a b:Int)(d:List aj)(hd:Sh d)(R:0<=a)(M:a<=b)(D:b<=d.length):
  Ud.F (p,f,()) (a,b,d,()) (λy=>Sm d y.1/\Out d y.1 a b/\nY y.1 a b):=by
 have E:=hd.1;dsimp only [Ud,gm];simp (disch:=omega) only [RR]
 refine au (λ(y:zl)=>y.1=a/\y.2.1=b/\a+1<=y.2.2.1/\(y.2.2.1<=b\/y.2.2.1=a+1)/\Sm d y.2.2.2.1/\Out d y.2.2.2.1 a b/\nY y.2.2.2.1 a y.2.2.1) (λy=>(b-y.2.2.1).toNat)
  ⟨rfl,rfl,by simp,Or.inr rfl,Sm.refl d,λk _ _=>rfl,λp q R M D=>by dsimp only at D;rw [show p=q by omega];exact le_refl _⟩ ?_
 rintro⟨(v:Int),(I:Int),(i:Int),(e:List aj),⟨⟩⟩ hI;dsimp only at hI ⊢;obtain⟨rfl,rfl,X,V,A,G,C⟩:=hI;have N:=A.1;simp (disch:=omega) only [RR];refine⟨λT=> ?_,λT=>⟨A,G,λp q s o H=>C p q s o ah⟩⟩
 refine au (λ(y:Int×zl)=>y.1=v/\y.2.1=I/\y.2.2.1=i/\v<=y.2.2.2.1/\y.2.2.2.1<=i/\Sm d y.2.2.2.2.1/\Out d y.2.2.2.2.1 v I
   /\(∀p q,v<=p->p<=q->q<=i->p≠y.2.2.2.1->q≠y.2.2.2.1->le ((y.2.2.2.2.1).getD (p).toNat default) ((y.2.2.2.2.1).getD (q).toNat default))/\(∀q,y.2.2.2.1<q->q<=i->le ((y.2.2.2.2.1).getD (y.2.2.2.1).toNat default) ((y.2.2.2.2.1).getD (q).toNat default))) (λy=>y.2.2.2.1.toNat)
  ⟨rfl,rfl,rfl,by simp;omega,by simp,A,G,λp q s o H Y O=>C p q s o (by dsimp only at H O;omega),λq s o=>by dsimp only at s;omega⟩ ?_
 rintro⟨(z:Int),(S:Int),(W:Int),(j:Int),(r:List aj),⟨⟩⟩ hI;dsimp only at hI ⊢;obtain⟨rfl,rfl,rfl,P,Q,m,t,l,u⟩:=hI;have F:=m.1;have K:=m.sh hd;simp (disch:=omega) only [RR,length_set,U _ _ (K.at _)];have L:(r.set j.toNat ((r).getD (j-1).toNat default)).set (j-1).toNat ((r).getD (j).toNat default)=swp r j (j-1):=rfl;rw [L]
 repeat' (refine And.intro ?_ ?_)
 all_goals try omega
 .intro ⟨s,o⟩
  repeat' (refine And.intro ?_ ?_)
  all_goals try omega
  .exact m.trans (ML ah ah ah ah)
  .intro k hk hk2;rw [wU ah ah ah ah hk,if_neg ah,if_neg ah];exact t k hk hk2
  .intro p q x w k3 k4 k5;rw [wU ah ah ah ah ah,if_neg k4,wU ah ah ah ah ah,if_neg k5];by_cases n:p=j
   .rw [if_pos n];by_cases h:q=j
    .rw [if_pos h];exact le_refl _
    .rw [if_neg h];exact l _ _ ah ah ah ah ah
   .rw [if_neg n];by_cases h:q=j
    .rw [if_pos h];exact l _ _ ah ah ah ah ah
    .rw [if_neg h];exact l _ _ ah ah ah ah ah
  .intro q x w;rw [wU ah ah ah ah ah,if_pos rfl,wU ah ah ah ah ah,if_neg ah];by_cases h:q=j
   .rw [if_pos h];exact le_of_lt o
   .rw [if_neg h];exact u q ah w
 .intro g;refine⟨⟨ah,ah,m,t,?_⟩,ah⟩;have B:z<j->le ((r).getD (j-1).toNat default) ((r).getD (j).toNat default):=λc=>sM (by
   simp only [decide_eq_true c,Bool.true_and,decide_eq_false_iff_not]at g;exact g)
  intro p q x w k3;by_cases n:p=j
  .subst n;by_cases h:q=p
   .rw [h];exact le_refl _
   .exact u q ah ah
  .by_cases h:q=j
   .subst h;by_cases J:p=q-1
    .rw [J];exact B ah
    .exact(l p (q-1) x ah ah n ah).trans (B ah)
   .exact l p q x w ah n h
variable{p2:zl->Bool}
def half{x:Int}(d:0<=x)(c:x<=4000000000):IntKind.i64.wrap (iD .shr .u64 (IntKind.u64.wrap x) 1)=x/2:=by
 have a:IntKind.u64.wrap x=x:=by simp [IntKind.wrap,IntKind.bits,IntKind.signed];omega
 have b:iD .shr .u64 x 1=x/2:=by
  show x.fdiv (2^ (min (Int.toNat 1) IntKind.u64.bits))=x/2;rw [show(2:Int)^ (min (Int.toNat 1) IntKind.u64.bits)=2 by decide,Int.fdiv_eq_ediv_of_nonneg _ ah]
 rw [a,b,w64 ah ah]
structure Mrg(d d':List aj)(a b:Int):Prop where
 sm:Sm d d'
 out:Out d d' a b
 ins:∀k,a<=k->k<b->∃j,a<=j/\j<b/\((d').getD (k).toNat default)=((d).getD (j).toNat default)
 srt:nY d' a b
structure GY(a m b:Int)(d:List aj):Prop where
 sh:Sh d
 h1:0<=a
 h2:a<m
 h3:m<b
 h4:b<=d.length
 s1:nY d a m
 s2:nY d m b
def Da{P Q:Prop}[Decidable P][Decidable Q]:((decide P&&decide Q)=false)↔¬(P/\Q):=by by_cases b:P<;>by_cases a:Q<;>simp [b,a]
def PD{G:zl->bn}
    (a1:∀(a m b:Int) (d:List aj),d.length<1000000000->0<=a->a<m->m<b->b<=d.length->p2 (a,m,b,d,())=true) (a2:∀(a m b:Int) (d:List aj),d.length<1000000000->0<=a->a<m->m<b->b<=d.length->Rot d (G (a,m,b,d,())).1 a m b)
    {r:zl->Bool} {l:zl->bn}
    (K:Int) (U:∀(a m b:Int) (d:List aj),GY a m b d->b-a<K->r (a,m,b,d,())=true) (Q:∀(a m b:Int) (d:List aj),GY a m b d->b-a<K->Mrg d (l (a,m,b,d,())).1 a b)
    (a m b f i E:Int) (d:List aj) (hd:GY a m b d) (hK:b-a<=K) (a7:f=(a+b)/2) (hE:E=f+m-i)
    (b1:a<=i) (b2:i<=m) (b3:m<=E) (b4:E<=b) (b5:a<f) (b6:f<b)
    (M:i=a\/E=b\/le ((d).getD (i-1).toNat default) ((d).getD (E).toNat default)) (X:E=m\/i=m\/le ((d).getD (E-1).toNat default) ((d).getD (i).toNat default)):
      (i<m/\m<E->
          p2 (i,m,E,d,())=true/\
            (a<i/\i<f->
                r (a,i,f,(G (i,m,E,d,())).fst,())=true/\
                  (f<E/\E<b->
                      r (f,E,b,(l (a,i,f,(G (i,m,E,d,())).fst,())).fst,())=true/\
                        Mrg d (l (f,E,b,(l (a,i,f,(G (i,m,E,d,())).fst,())).fst,())).fst
                          a b)/\
                    ((decide (f<E)&&decide (E<b))=false->
                      Mrg d (l (a,i,f,(G (i,m,E,d,())).fst,())).fst a b))/\
              ((decide (a<i)&&decide (i<f))=false->
                (f<E/\E<b->
                    r (f,E,b,(G (i,m,E,d,())).fst,())=true/\
                      Mrg d (l (f,E,b,(G (i,m,E,d,())).fst,())).fst a b)/\
                  ((decide (f<E)&&decide (E<b))=false->
                    Mrg d (G (i,m,E,d,())).fst a b)))/\
        ((decide (i<m)&&decide (m<E))=false->
          (a<i/\i<f->
              r (a,i,f,d,())=true/\
                (f<E/\E<b->
                    r (f,E,b,(l (a,i,f,d,())).fst,())=true/\
                      Mrg d (l (f,E,b,(l (a,i,f,d,())).fst,())).fst a b)/\
                  ((decide (f<E)&&decide (E<b))=false->
                    Mrg d (l (a,i,f,d,())).fst a b))/\
            ((decide (a<i)&&decide (i<f))=false->
              (f<E/\E<b->
                  r (f,E,b,d,())=true/\Mrg d (l (f,E,b,d,())).fst a b)/\
                ((decide (f<E)&&decide (E<b))=false->Mrg d d a b))):=by
  obtain⟨hs,h1,h2,h3,h4,V,Y⟩:=hd;have z:=hs.1;have H:∀x y,((a<=x/\x<i)\/(m<=x/\x<E))->((i<=y/\y<m)\/(E<=y/\y<b))->le ((d).getD (x).toNat default) ((d).getD (y).toNat default):=by
    rintro x y (N | N) (hy | hy)
    · exact V x y N.1 ah hy.2
    · rcases M with M | M | M
      · omega
      · omega
      · exact((V x (i-1) N.1 ah ah).trans M).trans (Y E y b3 hy.1 hy.2)
    · rcases X with X | X | X
      · omega
      · omega
      · exact((Y x (E-1) N.1 ah ah).trans X).trans (V i y b1 hy.1 hy.2)
    · exact Y x y N.1 ah hy.2
  have aso : ∀ e, Rot d e i m E -> ∀ R : Prop, R = Mrg d e a b -> (a < i /\ i < f ->
              r (a,i,f,e,())=true/\
                (f<E/\E<b->
                    r (f,E,b,(l (a,i,f,e,())).fst,())=true/\
                      Mrg d (l (f,E,b,(l (a,i,f,e,())).fst,())).fst a b)/\
                  ((decide (f<E)&&decide (E<b))=false->
                    Mrg d (l (a,i,f,e,())).fst a b))/\
            ((decide (a<i)&&decide (i<f))=false->
              (f<E/\E<b->
                  r (f,E,b,e,())=true/\Mrg d (l (f,E,b,e,())).fst a b)/\
                ((decide (f<E)&&decide (E<b))=false->R)):=by
    rintro e ⟨r1,o⟩ R rfl;have a9:=r1.1;have L:=r1.sh hs;have lo:∀k,a<=k->k<f->∃x,((a<=x/\x<i)\/(m<=x/\x<E))/\((e).getD (k).toNat default)=((d).getD (x).toNat default):=by
      intro k t I;rw [o k ah];by_cases S:i<=k/\k<i+(E-m)
      · rw [if_pos S];exact⟨k+(m-i),ah,rfl⟩
      · rw [if_neg S,if_neg ah];exact⟨k,ah,rfl⟩
    have hi:∀k,f<=k->k<b->∃x,((i<=x/\x<m)\/(E<=x/\x<b))/\((e).getD (k).toNat default)=((d).getD (x).toNat default):=by
      intro k t I;rw [o k ah,if_neg ah];by_cases S:i+(E-m)<=k/\k<E
      · rw [if_pos S];exact⟨k- (E-m),ah,rfl⟩
      · rw [if_neg S];exact⟨k,ah,rfl⟩
    have S1:nY e a i:=by
      intro p q w u A;rw [o p ah,o q ah,if_neg ah,if_neg ah,if_neg ah,if_neg ah];exact V p q w u ah
    have S2:nY e i f:=by
      intro p q w u A;rw [o p ah,o q ah,if_pos ah,if_pos ah];exact Y _ _ ah ah ah
    have S3:nY e f E:=by
      intro p q w u A;rw [o p ah,o q ah,if_neg ah,if_pos ah,if_neg ah,if_pos ah];exact V _ _ ah ah ah
    have S4:nY e E b:=by
      intro p q w u A;rw [o p ah,o q ah,if_neg ah,if_neg ah,if_neg ah,if_neg ah];exact Y _ _ ah ah ah
    have fin:∀s e2,Mrg e s a f->Mrg s e2 f b->Mrg d e2 a b:=by
      intro s e2 n v;refine⟨(r1.trans n.sm).trans v.sm,λk t I=> ?_,λk t I=> ?_,λp q w u A=> ?_⟩
      · rw [v.out k t ah,n.out k t ah,o k t,if_neg ah,if_neg ah]
      · by_cases c:k<f
        · rw [v.out k ah ah];obtain⟨j,J,P,T⟩:=n.ins k t c;obtain⟨x,x1,W⟩:=lo j J P;rw [T,W];exact⟨x,ah,ah,rfl⟩
        · obtain⟨j,J,P,T⟩:=v.ins k ah I;rw [T,n.out j ah ah];obtain⟨x,x1,W⟩:=hi j J P;rw [W];exact⟨x,ah,ah,rfl⟩
      · by_cases c:q<f
        · rw [v.out p ah ah,v.out q ah ah];exact n.srt p q w u c
        · by_cases c2:f<=p
          · exact v.srt p q c2 u A
          · rw [v.out p ah ah];obtain⟨j,J,P,T⟩:=n.ins p w ah;obtain⟨x,x1,W⟩:=lo j J P;obtain⟨j',a5,a0,a6⟩:=v.ins q ah A;obtain⟨x',a3,a4⟩:=hi j' a5 a0;rw [T,W,a6,n.out j' ah ah,a4];exact H x x' x1 a3
    have B:∀Z D F,nY Z D F->Mrg Z Z D F:=λZ D F h=>⟨Sm.refl _,λ_ _ _=>rfl,λk t I=>⟨k,t,I,rfl⟩,h⟩
    have C : ∀ s, Mrg e s a f -> (f < E /\ E < b ->
                    r (f,E,b,s,())=true/\
                      Mrg d (l (f,E,b,s,())).fst a b)/\
                  ((decide (f<E)&&decide (E<b))=false->
                    Mrg d s a b):=by
      intro s n;have a8:=n.sm.1;have O:∀D F,f<=D->F<=b->nY e D F->nY s D F:=λD F g1 g2 g p q w u A=>by
        rw [n.out p ah ah,n.out q ah ah];exact g p q w u A
      refine⟨λc=> ?_,λc=> ?_⟩
      · have pre:GY f E b s:=⟨n.sm.sh L,ah,c.1,c.2,ah,O _ _ ah ah S3,O _ _ ah ah S4⟩;exact⟨U _ _ _ _ pre ah,fin _ _ n (Q _ _ _ _ pre ah)⟩
      · rw [Da]at c;refine fin _ _ n (B _ _ _ ?_);by_cases c2:f<E
        · have:E=b:=by omega
          subst this;exact O _ _ ah ah S3
        · have:E=f:=by omega
          rw [this]at S4;exact O _ _ ah ah S4
    refine⟨λc=> ?_,λc=> ?_⟩
    · have pre:GY a i f e:=⟨L,ah,c.1,c.2,ah,S1,S2⟩;exact⟨U _ _ _ _ pre ah,C _ (Q _ _ _ _ pre ah)⟩
    · rw [Da]at c;refine C e (B _ _ _ ?_);by_cases c2:a<i
      · have:i=f:=by omega
        rw [<-this];exact S1
      · have:i=a:=by omega
        rw [this]at S2;exact S2
  refine⟨λc=>⟨a1 _ _ _ _ z ah c.1 c.2 ah,aso _ (a2 _ _ _ _ z ah c.1 c.2 ah) _ rfl⟩,λc=>aso d ?_ _ rfl⟩;rw [Da]at c;refine⟨Sm.refl _,λk t=> ?_⟩
  repeat' split
  all_goals first | rfl | (exfalso;omega) | (congr 2;omega)
theorem amC{p f}{f2:zl->bn}{p3:zl->Bool}{f3:zl->bn}(U:Y20 p f)(U2:∀(a m b:Int) (d:List aj),d.length<1000000000->0<=a->a<m->m<b->b<=d.length->p2 (a,m,b,d,())=true/\Rot d (f2 (a,m,b,d,())).1 a m b)(K:Int)(U3:∀(a m b:Int) (d:List aj),GY a m b d->b-a<K->p3 (a,m,b,d,())=true/\Mrg d (f3 (a,m,b,d,())).1 a b)(a m b:Int)(d:List aj)(hd:GY a m b d)(hK:b-a<=K):
  GV.F (p,f,p2,f2,p3,f3,()) (a,m,b,d,()) (λy=>Mrg d y.1 a b):=by
 obtain⟨X,h1,h2,h3,h4,J,M⟩:=hd;have a1:=X.1;dsimp only [GV,gm];simp (disch:=omega) only [RR];refine⟨λh5=> ?_,λh5=>⟨λh6=> ?_,λh6=> ?_⟩⟩
 ·
  have hm:m=a+1:=by omega
  subst hm
  refine au (λ(y:zl)=>y.1=a/\y.2.2.2.1=d/\a+1<=y.2.1/\y.2.1<=y.2.2.1/\y.2.2.1<=b/\(∀q,a+1<=q->q<y.2.1->fC ((d).getD (q).toNat default).atoms ((d).getD (a).toNat default).atoms<0)/\(∀q,y.2.2.1<=q->q<b->¬fC ((d).getD (q).toNat default).atoms ((d).getD (a).toNat default).atoms<0)) (λy=>(y.2.2.1-y.2.1).toNat)
   ⟨rfl,rfl,by simp,by simp;omega,by simp,λq s B=>by dsimp only at B;omega,λq s B=>by dsimp only at s;omega⟩ ?_
  rintro⟨(I:Int),(i:Int),(j:Int),(D:List aj),⟨⟩⟩ hI;dsimp only at hI ⊢;obtain⟨rfl,rfl,s,B,g3,F,E⟩:=hI;simp (disch:=omega) only [RR,half,U _ _ (X.at _)];refine⟨λV=>⟨ah,ah,ah,ah,ah,ah,ah,ah,ah,λh=>⟨⟨ah,ah,ah,λq H G=> ?_,E⟩,ah⟩,λh=>⟨⟨ah,ah,ah,F,λq H G=> ?_⟩,ah⟩⟩,λV=> ?_⟩
  .exact dS (M q ((i+j)/2) H ah ah) h
  .intro W;exact h (dS (M ((i+j)/2) q ah ah G) W)
  have A:i=j:=by omega
  subst A
  refine au (λ(y:eB)=>y.1=i/\I<=y.2.1/\y.2.1<=i-1/\Sm D y.2.2.1/\(∀k,0<=k->((y.2.2.1).getD (k).toNat default)=if I<=k/\k<y.2.1 then((D).getD (k+1).toNat default)else if k=y.2.1 then((D).getD (I).toNat default)else((D).getD (k).toNat default))) (λy=>(i-y.2.1).toNat)
   ⟨rfl,by simp,by simp;omega,Sm.refl _,λk hk=>by dsimp only;rw [if_neg ah];split;(· congr 2);(· rfl)⟩ ?_
  rintro⟨(N:Int),(k:Int),(e:List aj),⟨⟩⟩ hI;dsimp only at hI ⊢;obtain⟨rfl,H,G,k3,z⟩:=hI;have a0:=k3.1;simp (disch:=omega) only [RR,length_set];have e1:(e.set k.toNat ((e).getD (k+1).toNat default)).set (k+1).toNat ((e).getD (k).toNat default)=swp e k (k+1):=rfl;rw [e1];refine⟨λh=>⟨ah,ah,ah,ah,ah,ah,ah,ah,ah,ah,ah,ah,ah,ah,ah,ah,⟨ah,ah,k3.trans (ML ah ah ah ah),λq L=> ?_⟩,ah⟩,λh=> ?_⟩
  .rw [wU ah ah ah ah L,z _ ah,z _ ah,z _ L]
   repeat' split
   all_goals first | rfl | (exfalso;omega) | (congr 2;omega)
  .have hk:k=N-1:=by omega
   subst hk;refine⟨k3,λq L R=> ?_,λq L R=> ?_,λq r q1 q2 q3=> ?_⟩
   .rw [z q L,if_neg ah,if_neg ah]
   .rw [z q ah]
    repeat' split
    .exact⟨q+1,ah,ah,rfl⟩
    .exact⟨I,ah,ah,rfl⟩
    .exact⟨q,ah,ah,rfl⟩
   .rw [z q ah,z r ah];by_cases Z:I<=q/\q<N-1
    .rw [if_pos Z];by_cases P:I<=r/\r<N-1
     .rw [if_pos P];exact M _ _ ah ah ah
     .rw [if_neg P];by_cases Q:r=N-1
      .rw [if_pos Q];exact le_of_lt (F _ ah ah)
      .rw [if_neg Q];exact M _ _ ah ah ah
    .rw [if_neg Z,if_neg (by omega:¬(I<=r/\r<N-1))];by_cases Q:q=N-1
     .rw [if_pos Q];by_cases c4:r=N-1
      .rw [if_pos c4];exact le_refl _
      .rw [if_neg c4];exact sM (E r ah ah)
     .rw [if_neg Q,if_neg ah];exact M _ _ ah ah ah
 ·
  have hm:b=m+1:=by omega
  subst hm
  refine au (λ(y:zl)=>y.1=m/\y.2.2.2.1=d/\a<=y.2.1/\y.2.1<=y.2.2.1/\y.2.2.1<=m/\(∀q,a<=q->q<y.2.1->¬fC ((d).getD (m).toNat default).atoms ((d).getD (q).toNat default).atoms<0)/\(∀q,y.2.2.1<=q->q<m->fC ((d).getD (m).toNat default).atoms ((d).getD (q).toNat default).atoms<0)) (λy=>(y.2.2.1-y.2.1).toNat)
   ⟨rfl,rfl,by simp,by simp;omega,by simp,λq s B=>by dsimp only at B;omega,λq s B=>by dsimp only at s;omega⟩ ?_
  rintro⟨(o:Int),(i:Int),(j:Int),(D:List aj),⟨⟩⟩ hI;dsimp only at hI ⊢;obtain⟨rfl,rfl,s,B,g3,F,E⟩:=hI;simp (disch:=omega) only [RR,half,U _ _ (X.at _)];refine⟨λV=>⟨ah,ah,ah,ah,ah,ah,ah,ah,ah,λh=>⟨⟨ah,ah,ah,λq H G=> ?_,E⟩,ah⟩,λh=>⟨⟨ah,ah,ah,F,λq H G=> ?_⟩,ah⟩⟩,λV=> ?_⟩
  .intro W;have:=J q ((i+j)/2) H ah ah;apply h;have h7:=lJ W this;exact h7
  .exact lJ h (J ((i+j)/2) q ah ah G)
  have A:i=j:=by omega
  subst A
  refine au (λ(y:eB)=>y.1=i/\i<=y.2.1/\y.2.1<=o/\Sm D y.2.2.1/\(∀k,0<=k->((y.2.2.1).getD (k).toNat default)=if y.2.1<k/\k<=o then((D).getD (k-1).toNat default)else if k=y.2.1 then((D).getD (o).toNat default)else((D).getD (k).toNat default))) (λy=>(y.2.1-i).toNat)
   ⟨rfl,by simp;omega,by simp,Sm.refl _,λk hk=>by dsimp only;rw [if_neg ah];split;(· congr 2);(· rfl)⟩ ?_
  rintro⟨(N:Int),(k:Int),(e:List aj),⟨⟩⟩ hI;dsimp only at hI ⊢;obtain⟨rfl,H,G,k3,z⟩:=hI;have a0:=k3.1;simp (disch:=omega) only [RR,length_set];have e1:(e.set k.toNat ((e).getD (k-1).toNat default)).set (k-1).toNat ((e).getD (k).toNat default)=swp e k (k-1):=rfl;rw [e1];refine⟨λh=>⟨ah,ah,ah,ah,ah,ah,ah,ah,ah,ah,ah,ah,ah,ah,ah,ah,⟨ah,ah,k3.trans (ML ah ah ah ah),λq L=> ?_⟩,ah⟩,λh=> ?_⟩
  .rw [wU ah ah ah ah L,z _ ah,z _ ah,z _ L]
   repeat' split
   all_goals first | rfl | (exfalso;omega) | (congr 2;omega)
  .have hk:k=N:=by omega
   subst hk;refine⟨k3,λq L R=> ?_,λq L R=> ?_,λq r q1 q2 q3=> ?_⟩
   .rw [z q L,if_neg ah,if_neg ah]
   .rw [z q ah]
    repeat' split
    .exact⟨q-1,ah,ah,rfl⟩
    .exact⟨o,ah,ah,rfl⟩
    .exact⟨q,ah,ah,rfl⟩
   .rw [z q ah,z r ah];by_cases Z:k<q/\q<=o
    .rw [if_pos Z,if_pos ah];exact J _ _ ah ah ah
    .rw [if_neg Z];by_cases Q:q=k
     .rw [if_pos Q];by_cases P:k<r/\r<=o
      .rw [if_pos P];exact le_of_lt (E _ ah ah)
      .rw [if_neg P,if_pos ah];exact le_refl _
     .rw [if_neg Q];by_cases P:k<r/\r<=o
      .rw [if_pos P];exact J _ _ ah ah ah
      .rw [if_neg P];by_cases c4:r=k
       .rw [if_pos c4];exact sM (F _ ah ah)
       .rw [if_neg c4];exact J _ _ ah ah ah
 ·
  simp (disch:=omega) only [RR,half];refine⟨ah,λh7=> ?_,λh7=> ?_⟩
  .refine au (λ(y:Int×Int×Int×Int×Int×zl)=>y.1=a/\y.2.1=m/\y.2.2.1=b/\y.2.2.2.1=(a+b)/2/\y.2.2.2.2.1=(a+b)/2+m/\y.2.2.2.2.2.2.2.1=(a+b)/2+m-1/\y.2.2.2.2.2.2.2.2.1=d/\(a+b)/2+m-b<=y.2.2.2.2.2.1/\y.2.2.2.2.2.1<=y.2.2.2.2.2.2.1/\y.2.2.2.2.2.2.1<=(a+b)/2
     /\(∀q,(a+b)/2+m-b<=q->q<y.2.2.2.2.2.1->¬fC ((d).getD ((a+b)/2+m-1-q).toNat default).atoms ((d).getD (q).toNat default).atoms<0)/\(∀q,y.2.2.2.2.2.2.1<=q->q< (a+b)/2->fC ((d).getD ((a+b)/2+m-1-q).toNat default).atoms ((d).getD (q).toNat default).atoms<0)) (λy=>(y.2.2.2.2.2.2.1-y.2.2.2.2.2.1).toNat)
    ⟨rfl,rfl,rfl,rfl,rfl,rfl,rfl,by simp,by simp;omega,by simp,λq s B=>by dsimp only at B;omega,λq s B=>by dsimp only at s;omega⟩ ?_
   rintro⟨(I:Int),(o:Int),(b':Int),(l:Int),(n:Int),(i:Int),(j:Int),(r:Int),(D:List aj),⟨⟩⟩ hI;dsimp only at hI ⊢;obtain⟨rfl,rfl,rfl,g,hn,O,rfl,s,B,g3,F,E⟩:=hI;rw [<-g]at s g3 F E h7;simp (disch:=omega) only [RR,half,U _ _ (X.at _)];refine⟨λV=>⟨ah,ah,ah,ah,ah,ah,ah,ah,ah,λh=>⟨⟨g,hn,O,ah,ah,ah,λq H G=> ?_,by rw [<-g];exact E⟩,ah⟩,λh=>⟨⟨g,hn,O,ah,ah,ah,by rw [<-g];exact F,λq H G=> ?_⟩,ah⟩⟩,λV=> ?_⟩
   .rw [<-g]at H ⊢;intro W;apply h;rw [O,<-g];exact dS (M _ _ ah ah ah) (lJ W (J _ _ ah ah ah))
   .rw [<-g]at G ⊢;rw [O,<-g]at h;exact dS (M _ _ ah ah ah) (lJ h (J _ _ ah ah ah))
   .have A:i=j:=by omega
    subst A;refine PD (λt w v u C x S Y T=>(U2 t w v u C x S Y T).1) (λt w v u C x S Y T=>(U2 t w v u C x S Y T).2) K (λt w v u C x=>(U3 t w v u C x).1) (λt w v u C x=>(U3 t w v u C x).2) I o b' l i (n-i) D ⟨X,h1,h2,h3,h4,J,M⟩ hK g ah ah ah ah ah ah ah ?_ ?_
    .by_cases c:i=l+o-b'
     .first | exact Or.inl ah | exact Or.inr (Or.inl ah)
     .refine Or.inr (Or.inr ?_);have:=F (i-1) ah ah;rw [show l+o-1- (i-1)=n-i by omega]at this;exact sM this
    .by_cases c:i=l
     .first | exact Or.inl ah | exact Or.inr (Or.inl ah)
     .refine Or.inr (Or.inr ?_);have:=E i ah ah;rw [show l+o-1-i=n-i-1 by omega]at this;exact le_of_lt this
  .refine au (λ(y:Int×Int×Int×Int×Int×zl)=>y.1=a/\y.2.1=m/\y.2.2.1=b/\y.2.2.2.1=(a+b)/2/\y.2.2.2.2.1=(a+b)/2+m/\y.2.2.2.2.2.2.2.1=(a+b)/2+m-1/\y.2.2.2.2.2.2.2.2.1=d/\a<=y.2.2.2.2.2.1/\y.2.2.2.2.2.1<=y.2.2.2.2.2.2.1/\y.2.2.2.2.2.2.1<=m
     /\(∀q,a<=q->q<y.2.2.2.2.2.1->¬fC ((d).getD ((a+b)/2+m-1-q).toNat default).atoms ((d).getD (q).toNat default).atoms<0)/\(∀q,y.2.2.2.2.2.2.1<=q->q<m->fC ((d).getD ((a+b)/2+m-1-q).toNat default).atoms ((d).getD (q).toNat default).atoms<0)) (λy=>(y.2.2.2.2.2.2.1-y.2.2.2.2.2.1).toNat)
    ⟨rfl,rfl,rfl,rfl,rfl,rfl,rfl,by simp,by simp;omega,by simp,λq s B=>by dsimp only at B;omega,λq s B=>by dsimp only at s;omega⟩ ?_
   rintro⟨(I:Int),(o:Int),(b':Int),(l:Int),(n:Int),(i:Int),(j:Int),(r:Int),(D:List aj),⟨⟩⟩ hI;dsimp only at hI ⊢;obtain⟨rfl,rfl,rfl,g,hn,O,rfl,s,B,g3,F,E⟩:=hI;rw [<-g]at F E h7;simp (disch:=omega) only [RR,half,U _ _ (X.at _)];refine⟨λV=>⟨ah,ah,ah,ah,ah,ah,ah,ah,ah,λh=>⟨⟨g,hn,O,ah,ah,ah,λq H G=> ?_,by rw [<-g];exact E⟩,ah⟩,λh=>⟨⟨g,hn,O,ah,ah,ah,by rw [<-g];exact F,λq H G=> ?_⟩,ah⟩⟩,λV=> ?_⟩
   .rw [<-g];intro W;apply h;rw [O,<-g];exact dS (M _ _ ah ah ah) (lJ W (J _ _ ah ah ah))
   .rw [<-g];rw [O,<-g]at h;exact dS (M _ _ ah ah ah) (lJ h (J _ _ ah ah ah))
   .have A:i=j:=by omega
    subst A;refine PD (λt w v u C x S Y T=>(U2 t w v u C x S Y T).1) (λt w v u C x S Y T=>(U2 t w v u C x S Y T).2) K (λt w v u C x=>(U3 t w v u C x).1) (λt w v u C x=>(U3 t w v u C x).2) I o b' l i (n-i) D ⟨X,h1,h2,h3,h4,J,M⟩ hK g ah ah ah ah ah ah ah ?_ ?_
    .by_cases c:i=I
     .first | exact Or.inl ah | exact Or.inr (Or.inl ah)
     .refine Or.inr (Or.inr ?_);have:=F (i-1) ah ah;rw [show l+o-1- (i-1)=n-i by omega]at this;exact sM this
    .by_cases c:i=o
     .first | exact Or.inl ah | exact Or.inr (Or.inl ah)
     .refine Or.inr (Or.inr ?_);have:=E i ah ah;rw [show l+o-1-i=n-i-1 by omega]at this;exact le_of_lt this
end Go.TX.F
namespace Go.TX.F
open Go Go.AE Go.TX List
variable{d:List aj}
def yD{s a x:Int}(h:s ∣ a)(d:a<x)(c:x<a+s):¬s ∣ x:=λb=>by
 have:=Int.le_of_dvd ah (Int.dvd_sub b h);omega
def nY.adj{a b:Int}(h:∀p,a<=p->p+1<b->le ((d).getD (p).toNat default) ((d).getD (p+1).toNat default)):nY d a b:=by
 intro p q f e g;obtain⟨n,hn⟩:∃n:Nat,q=p+n:=⟨(q-p).toNat,ah⟩;subst hn
 clear e
 induction n with
 | zero=>rw [show p+((0:Nat):Int)=p by omega];exact le_refl _
 | succ n c=>
  have:=h (p+n) ah ah;rw [show p+((n+1:Nat):Int)=p+n+1 by omega];exact(c ah).trans this
def nY.at1{a b p:Int}(h:nY d a b)(e:a<=p)(c:p+1<b):le ((d).getD (p).toNat default) ((d).getD (p+1).toNat default):=h p (p+1) e ah c
def Bl(d:List aj)(s n:Int):Prop:=∀p,0<=p->p+1<n->¬s ∣ p+1->le ((d).getD (p).toNat default) ((d).getD (p+1).toNat default)
def amD{p:eB->Bool}{f:eB->bn}{W:zl->Bool}{X:zl->bn}(U:∀(a b:Int) (d:List aj),Sh d->0<=a->a<=b->b<=d.length->p (a,b,d,())=true/\Sm d (f (a,b,d,())).1/\Out d (f (a,b,d,())).1 a b/\nY (f (a,b,d,())).1 a b)(H:∀(a m b:Int) (d:List aj),GY a m b d->W (a,m,b,d,())=true/\Mrg d (X (a,m,b,d,())).1 a b)(n:Int)(d:List aj)(hd:Sh d)(hn:n=d.length):
  Ug.F (p,f,W,X,()) (n,d,()) (λy=>Sm d y.1/\nY y.1 0 n):=by
 have V:=hd.1;dsimp only [Ug,gm];simp (disch:=omega) only [RR]
 refine au (λ(y:Int×zl)=>y.1=n/\y.2.1=20/\0<=y.2.2.1/\y.2.2.1<=n/\(20:Int) ∣ y.2.2.1/\y.2.2.2.1=y.2.2.1+20/\Sm d y.2.2.2.2.1/\Bl y.2.2.2.2.1 20 y.2.2.1) (λy=>(n+20-y.2.2.2.1).toNat)
  ⟨rfl,rfl,by simp,by simp;omega,⟨0,by simp⟩,rfl,Sm.refl _,λp r T=>by dsimp only at T;omega⟩ ?_
 rintro⟨(j:Int),(s:Int),(a:Int),(b:Int),(e:List aj),⟨⟩⟩ hI;dsimp only at hI ⊢;obtain⟨rfl,rfl,r,T,Q,rfl,w,M⟩:=hI;have N:=w.1;have u:=w.sh hd;simp (disch:=omega) only [RR];have R:∀a c (e I:List aj),0<=a->(20:Int) ∣ a->c<=a+20->Bl e 20 a->Out e I a c->nY I a c->Bl I 20 c:=by
  intro a c e I c0 E F K G c5 q g i h;by_cases P:q+1<a
  .rw [G q g ah,G (q+1) ah ah];exact K q g P h
  .exact c5.at1 ah i
 refine⟨λh7=> ?_,λh7=> ?_⟩
 .obtain⟨D,A,z⟩:=(U a (a+20) e u r ah ah).2;exact⟨(U a (a+20) e u r ah ah).1,⟨ah,ah,ah,w.trans D,R a (a+20) _ _ r Q ah M A z⟩,ah⟩
 obtain⟨D,A,z⟩:=(U a j e u r ah ah).2;refine⟨(U a j e u r ah ah).1,?_⟩;have t4:=R a j _ _ r Q ah M A z;generalize (f (a,j,e,())).1=e2 at D A z t4 ⊢;have u1:=w.trans D
 clear D A z w M
 refine au (λ(y:eB)=>y.1=j/\0<y.2.1/\(y.2.1<=20\/y.2.1<=2*j)/\Sm d y.2.2.1/\Bl y.2.2.1 y.2.1 j) (λy=>(j-y.2.1).toNat)
  ⟨rfl,by simp,Or.inl (by simp),u1,t4⟩ ?_
 rintro⟨(n:Int),(s:Int),(e3:List aj),⟨⟩⟩ hI;dsimp only at hI ⊢;obtain⟨rfl,g1,g2,Z,g4⟩:=hI;simp (disch:=omega) only [RR];refine⟨λg5=> ?_,λg5=>⟨Z,nY.adj λq g i=>g4 q g i (yD (a:=0) ⟨0,by simp⟩ ah ah)⟩⟩
 refine au (λ(y:Int×zl)=>y.1=n/\y.2.1=s/\0<=y.2.2.1/\y.2.2.1<=n/\(2*s) ∣ y.2.2.1/\y.2.2.2.1=y.2.2.1+2*s/\Sm d y.2.2.2.2.1
   /\∀p,0<=p->p+1<n->¬(2*s) ∣ p+1->(p+1<y.2.2.1\/¬s ∣ p+1)->le ((y.2.2.2.2.1).getD (p).toNat default) ((y.2.2.2.2.1).getD (p+1).toNat default)) (λy=>(n+2*s-y.2.2.2.1).toNat)
  ⟨rfl,rfl,by simp,by simp;omega,⟨0,by simp⟩,by simp,Z,λq g i h o=>g4 q g i (by dsimp only at o;rcases o with o | o;(· omega);(· exact o))⟩ ?_
 rintro⟨(j:Int),(l:Int),(a:Int),(b:Int),(S:List aj),⟨⟩⟩ hI;dsimp only at hI ⊢;obtain⟨rfl,rfl,P,k2,k3,rfl,B,t⟩:=hI;have N:=B.1;have u:=B.sh hd;have L:l ∣ a:=Int.dvd_trans ⟨2,ah⟩ k3;simp (disch:=omega) only [RR];have C:∀x,x<=j->a+l<x->x<=a+2*l->GY a (a+l) x S:=λx x1 v x3=>
  ⟨u,P,ah,v,ah,nY.adj λq g i=>by
   refine t q ah ah (yD k3 ah ah) (Or.inr (yD L ah ah)),
   nY.adj λq g i=>by
   refine t q ah ah (yD k3 ah ah) (Or.inr (yD (Int.dvd_add L (Int.dvd_refl l)) ah ah))⟩
 have stp:∀x J,x<=j->(x=a+2*l\/x=j)->x<=a+2*l->Mrg S J a x->∀p,0<=p->p+1<j->¬(2*l) ∣ p+1->(p+1<x\/¬l ∣ p+1)->le ((J).getD (p).toNat default) ((J).getD (p+1).toNat default):=by
  intro x J x1 v x3 k q g i h o;by_cases E:q+1<a
  .rw [k.out q g ah,k.out (q+1) ah ah];exact t q g i h (Or.inl E)
  .by_cases F:q+1=a
   .rw [F]at h;exact absurd k3 h
   .by_cases K:q+1<x
    .exact k.srt.at1 ah K
    .by_cases G:q+1=x
     .exfalso;rcases v with v | v
      .rw [G,v]at h;exact h (Int.dvd_add k3 (Int.dvd_refl _))
      .omega
     .rw [k.out q g ah,k.out (q+1) ah ah];refine t q g i h (Or.inr ?_);rcases o with o | o
      .omega
      .exact o
 refine⟨λO=> ?_,λO=>⟨λY=> ?_,λY=> ?_⟩⟩
 .have pre:=C (a+2*l) O ah ah;have k:=(H _ _ _ _ pre).2;exact⟨(H _ _ _ _ pre).1,⟨ah,ah,Int.dvd_add k3 (Int.dvd_refl _),B.trans k.sm,stp _ _ O (Or.inl rfl) ah k⟩,ah⟩
 .have pre:=C j ah Y ah;have k:=(H _ _ _ _ pre).2;refine⟨(H _ _ _ _ pre).1,⟨ah,Or.inr ah,B.trans k.sm,λq g i h=> ?_⟩,ah⟩;exact stp _ _ ah (Or.inr rfl) ah k q g i (by rw [Int.mul_comm];exact h) (Or.inl i)
 .refine⟨⟨ah,Or.inr ah,B,λq g i h=> ?_⟩,ah⟩;rw [Int.mul_comm]at h;by_cases E:q+1<a
  .exact t q g i h (Or.inl E)
  .by_cases F:q+1=a
   .rw [F]at h;exact absurd k3 h
   .exact t q g i h (Or.inr (yD L ah ah))
def amE{p:Int×bn->Bool}{f:Int×bn->bn}(U:∀(n:Int) (d:List aj),Sh d->n=d.length->p (n,d,())=true/\Sm d (f (n,d,())).1/\nY (f (n,d,())).1 0 n)(d:List aj)(hd:Sh d):
  Uh.F (p,f,()) (d,()) (λy=>Sm d y.1/\nY y.1 0 d.length):=by
 have:=(U _ d hd rfl).2;dsimp only [Uh,gm];exact⟨(U _ d hd rfl).1,this⟩
end Go.TX.F
namespace Go.TX.F
open Go Go.AE Go.TX List
def cf(l:List aj)(k:List Int):Int:=(l.map λm=>if m.atoms=k then m.bH else 0).sum
theorem iW(k:List Int):cf [] k=0:=rfl
def bV(m:aj)(l:List aj)(k:List Int):cf (m::l) k=(if m.atoms=k then m.bH else 0)+cf l k:=by simp [cf]
def bX(a b:List aj)(k:List Int):cf (a++b) k=cf a k+cf b k:=by simp [cf]
def jv{k:List Int}:∀ {l:List aj},(∀m∈l,m.atoms≠k)->cf l k=0
 | [],_=>rfl
 | m::l,h=>by rw [bV,if_neg (h m (by simp)),jv (λm hm=>h m (by simp [hm]))];rfl
def Sm.cf{a b:List aj}(h:Sm a b)(k:List Int):cf b k=cf a k:=h.sum _
def lt(a b:aj):Prop:=fC a.atoms b.atoms<0
def lt.ne{a b:aj}(h:lt a b):a.atoms≠b.atoms:=λe=>by unfold lt at h;rw [e,lI.2 rfl]at h;omega
structure Nf(o:List aj):Prop where
 ss:o.Pairwise lt
 co:∀m∈o,1<=m.bH/\m.bH<=65535
def ZI:∀ {i g:List aj},Nf i->Nf g->(∀k,cf i k=cf g k)->i=g
 | [],[],_,_,_=>rfl
 | [],m::o,_,h2,h=>by
  have:=h m.atoms;rw [bV,if_pos rfl,jv (λj d=>((rel_of_pairwise_cons h2.ss d).ne).symm),iW]at this;have:=(h2.co m (by simp));omega
 | m::o,[],h1,_,h=>by
  have:=h m.atoms;rw [bV,if_pos rfl,jv (λj d=>((rel_of_pairwise_cons h1.ss d).ne).symm),iW]at this;have:=(h1.co m (by simp));omega
 | m1::i,m2::g,h1,h2,h=>by
  have s:=h1.co m1 (by simp);have t:=h2.co m2 (by simp);have p:cf i m1.atoms=0:=jv λj d=>((rel_of_pairwise_cons h1.ss d).ne).symm
  have q:cf g m2.atoms=0:=jv λj d=>((rel_of_pairwise_cons h2.ss d).ne).symm
  have n:∀ {a b c:aj},lt a b->lt b c->lt a c:=λl f=>dS (le_of_lt l) f
  have e:m1.atoms=m2.atoms:=by
   by_cases l:lt m1 m2
   .have:=h m1.atoms;rw [bV,if_pos rfl,p,bV,if_neg (λe=>l.ne e.symm),jv (λj d=>((n l (rel_of_pairwise_cons h2.ss d)).ne).symm)]at this;omega
   .by_cases f:lt m2 m1
    .have:=h m2.atoms;rw [bV,if_neg (λe=>f.ne e.symm),jv (λj d=>((n f (rel_of_pairwise_cons h1.ss d)).ne).symm),bV,if_pos rfl,q]at this;omega
    .unfold lt at l f;rw [sK]at f;exact lI.1 ah
  have u:m1.bH=m2.bH:=by
   have:=h m1.atoms;rw [bV,if_pos rfl,p,bV,if_pos e.symm,e,q]at this;omega
  have r:m1=m2:=by cases m1;cases m2;simp_all
  subst r;refine congrArg _ (ZI ⟨h1.ss.tail,λm hm=>h1.co m (by simp [hm])⟩ ⟨h2.ss.tail,λm hm=>h2.co m (by simp [hm])⟩ (λk=>by
   have:=h k;rw [bV,bV]at this;omega))
noncomputable def nf (l:List aj):List aj:= @dite _ (∃o,Nf o/\∀k,cf o k=cf l k%65536) (Classical.propDecidable _) (λh=>Classical.choose h) (λ_=> [])
def ZJ{l o:List aj}(h:Nf o)(a:∀k,cf o k=cf l k%65536):nf l=o:=by
 have b:∃o,Nf o/\∀k,cf o k=cf l k%65536:=⟨o,h,a⟩;unfold nf;rw [dif_pos b];have:=Classical.choose_spec b;exact ZI this.1 h (λk=>(this.2 k).trans (a k).symm)
noncomputable def tT (l:List aj):Bool×List aj:=(bp (aQ (nf l)),if bp (aQ (nf l))then nf l else [])
def Cb(l:List aj):Prop:=∀m∈l,0<=m.bH/\m.bH<=65535
def amF{p1 f1 p2 f2 p3 f3 p4 f4}{G:bn->Bool}{r:bn->bn}(T:Y7 p1 f1)(O:Y11 p2 f2)(U:Y10 p3 f3)(M:Y12 p4 f4)(J:∀d,Sh d->G (d,())=true/\Sm d (r (d,())).1/\nY (r (d,())).1 0 d.length)(l:List aj)(F:Sh l)(hc:Cb l):Ui.F (p1,f1,p2,f2,p3,f3,p4,f4,G,r,()) (l,()) (λy=>y.1=(tT l).1/\y.2.2.1=(tT l).2):=by
 obtain⟨q,K⟩:=(J l F).2;dsimp only [Ui,gm];simp (disch:=omega) only [RR,(J l F).1];generalize (r (l,())).1=d at q K ⊢;have S:=q.1;have t:=q.sh F;have I:=t.1;have C:Cb d:=λm hm=>hc m (q.mem hm)
 refine au (λ(y:ql)=>0<=y.1/\y.1<=d.length/\y.2.1=d/\Nf y.2.2.1/\y.2.2.1.length<=y.1/\(∀k,cf y.2.2.1 k=cf (d.take y.1.toNat) k%65536)/\(∀m∈y.2.2.1,m∈y.2.2.1->m.atoms.length<1000000000)
   /\(y.1<d.length->(∀m∈y.2.2.1,lt m ((d).getD (y.1).toNat default))/\(∀m∈d.take y.1.toNat,lt m ((d).getD (y.1).toNat default)))) (λy=>(d.length-y.1).toNat)
  ⟨by simp,by simp,rfl,⟨Pairwise.nil,λm hm=>absurd hm (by simp)⟩,by simp,λk=>by simp [cf],λm hm=>absurd hm (by simp),λ_=>⟨λm hm=>absurd hm (by simp),λm hm=>absurd hm (by simp)⟩⟩ ?_
 rintro⟨(i:Int),(g:List aj),(o:List aj),⟨⟩⟩ hI;dsimp only at hI ⊢;obtain⟨X,h2,rfl,u,Z,v,D,N⟩:=hI;have Q:Sh o:=⟨ah,λm hm=>D m hm hm⟩;simp (disch:=omega) only [RR,O o Q];refine⟨λL=>⟨ah,ah,ah,ah,?_⟩,λL=> ?_⟩
 .obtain⟨g1,g2⟩:=N L;have z:cf (g.take i.toNat) ((g).getD (i).toNat default).atoms=0:=jv λm hm=>(g2 m hm).ne
  refine au (λ(y:Int×Int×List aj×aj×bn)=>i<=y.1/\y.1<=g.length/\y.2.2.1=g/\y.2.2.2.1=((g).getD (i).toNat default)/\y.2.2.2.2.1=o/\y.2.1=cf (g.take y.1.toNat) ((g).getD (i).toNat default).atoms%65536
    /\(∀k,k≠((g).getD (i).toNat default).atoms->cf (g.take y.1.toNat) k=cf (g.take i.toNat) k)/\(∀m∈g.take y.1.toNat,lt m ((g).getD (i).toNat default)\/m.atoms=((g).getD (i).toNat default).atoms)) (λy=>(g.length-y.1).toNat)
   ⟨by simp,by simp;omega,rfl,rfl,rfl,by rw [z];rfl,λk _=>rfl,λm hm=>Or.inl (g2 m hm)⟩ ?_
  rintro⟨(j:Int),(c:Int),(f:List aj),(fi:aj),(V:List aj),⟨⟩⟩ hI;dsimp only at hI ⊢;obtain⟨Y,k2,rfl,rfl,rfl,H,A,B⟩:=hI;have W:0<=c/\c<65536:=by omega
  have x:j<f.length->0<=((f).getD (j).toNat default).bH/\((f).getD (j).toNat default).bH<=65535:=λh=>C _ (dh ah h)
  simp (disch:=omega) only [RR,T _ _ (t.at _),U,M _ (Nat.le_trans (Nat.le_of_lt (t.at _)) ah)];refine⟨ah,ah,ah,ah,λ⟨s,E⟩=> ?_,λs=>⟨λE=>⟨?_,?_,?_⟩,λE=>⟨?_,?_⟩⟩⟩
  .have e:=lI.1 E;have:=x s;rw [w64 ah ah];have w:f.take (j+1).toNat=f.take j.toNat++ [((f).getD (j).toNat default)]:=(bq ah s rfl).symm;refine⟨ah,ah,ah,ah,⟨ah,ah,?_,λk hk=> ?_,λm hm=> ?_⟩,ah⟩
   .rw [w,bX,bV,if_pos e.symm,iW,H];omega
   .rw [w,bX,bV,if_neg (λh=>hk (by rw [e,h])),iW,A k hk];omega
   .rw [w,mem_append,mem_singleton]at hm;rcases hm with hm | hm
    .exact B m hm
    .right;rw [hm,e]
  all_goals
   have p:j<f.length->lt ((f).getD (i).toNat default) ((f).getD (j).toNat default):=λn=>by
    rw [decide_eq_true n,Bool.true_and,decide_eq_false_iff_not]at s;have:=K i j X Y ah;unfold le at this;unfold lt;omega
   have P:i<j:=by
    by_cases n:j<f.length
    .by_cases e:i=j
     .have:=(p n).ne;rw [e]at this;exact absurd rfl this
     .omega
    .omega
  .simp only [length_append,length_cons,length_nil];omega
  .have co:∀k,cf (V++ [⟨c,((f).getD (i).toNat default).atoms⟩]) k=cf (f.take j.toNat) k%65536:=λk=>by
    rw [bX,bV,iW];dsimp only;by_cases hk:((f).getD (i).toNat default).atoms=k
    .subst hk;rw [if_pos rfl,jv (λm hm=>(g1 m hm).ne),H];omega
    .rw [if_neg hk,A k (λe=>hk e.symm),v k];omega
   refine⟨ah,ah,⟨?_,?_⟩,?_,co,?_,λn=>⟨?_,?_⟩⟩
   .rw [pairwise_append];exact⟨u.ss,pairwise_singleton _ _,λa R b p=>by rw [mem_singleton]at p;subst p;exact g1 a R⟩
   .intro m hm;rw [mem_append,mem_singleton]at hm;rcases hm with hm | rfl
    .exact u.co m hm
    .dsimp only;omega
   .simp only [length_append,length_cons,length_nil];omega
   .intro m hm _;rw [mem_append,mem_singleton]at hm;rcases hm with hm | rfl
    .exact D m hm hm
    .exact t.at _
   .intro m hm;rw [mem_append,mem_singleton]at hm;rcases hm with hm | rfl
    .exact dS (le_of_lt (g1 m hm)) (p n)
    .exact p n
   .intro m hm;rcases B m hm with k | k
    .exact dS (le_of_lt k) (p n)
    .have:=p n;unfold lt at this ⊢;rw [k];exact this
  .omega
  .refine⟨ah,ah,u,ah,λk=> ?_,D,λn=>⟨?_,?_⟩⟩
   .by_cases hk:((f).getD (i).toNat default).atoms=k
    .subst hk;rw [jv (λm hm=>(g1 m hm).ne)];omega
    .rw [A k (λe=>hk e.symm),v k]
   .intro m hm;exact dS (le_of_lt (g1 m hm)) (p n)
   .intro m hm;rcases B m hm with k | k
    .exact dS (le_of_lt k) (p n)
    .have:=p n;unfold lt at this ⊢;rw [k];exact this
  .omega
 .have e:nf l=o:=ZJ u (λk=>by rw [v k,take_of_length_le ah,q.cf k]);unfold tT;rw [e];refine⟨λh=> ?_,λh=> ?_⟩
  .rw [h];exact⟨rfl,by simp⟩
  .rw [h];exact⟨rfl,by simp⟩
variable{p:dY->Bool}
def amG(n:Int)(b:0<=n)(a:n<=1073741824):Uj.F () (n,()) (λy=>y=([],())):=by
 dsimp only [Uj,gm];simp (disch:=omega) only [RR];refine⟨λh=>by omega,λ_ h=> ?_⟩
 repeat' (refine And.intro ?_ ?_)
 all_goals first | omega | (rw [length_replicate];omega) | rfl
theorem amH{f:dY->bn}(U:∀n:Int,0<=n->n<=1073741824->p (n,())=true/\f (n,())=([],()))(a b:List aj)(r:a.length<=100000000)(q:b.length<=100000000):Uk.F (p,f,()) ([a,b],()) (λy=>y=(a++b,())):=by
 dsimp only [Uk,gm]
 refine au (λ(y:List (List aj)×Int×List (List aj)×ni)=>y.1=[a,b]/\y.2.2.1=[a,b]/\y.2.2.2.1=2/\((y.2.2.2.2.1=0/\y.2.1=0)\/(y.2.2.2.2.1=1/\y.2.1=a.length)\/(y.2.2.2.2.1=2/\y.2.1=a.length+b.length))) (λy=>(2-y.2.2.2.2.1).toNat)
  ⟨rfl,rfl,rfl,Or.inl ⟨rfl,rfl⟩⟩ ?_
 rintro⟨(l:List (List aj)),(s:Int),(m:List (List aj)),(n:Int),(i:Int),⟨⟩⟩ hI;dsimp only at hI ⊢;obtain⟨rfl,rfl,rfl,h⟩:=hI;simp (disch:=omega) only [RR];have d: [a,b].getD (Int.toNat 0) default=a:=rfl;have e: [a,b].getD (Int.toNat 1) default=b:=rfl;have t:([a,b].length:Int)=2:=rfl;refine⟨λg=> ?_,λg=> ?_⟩
 .rcases h with⟨rfl,rfl⟩ | ⟨rfl,rfl⟩ | ⟨rfl,rfl⟩
  .rw [d,w64 ah ah];exact⟨ah,ah,λh=>by omega,λh=>⟨Or.inr (Or.inl ⟨ah,ah⟩),ah⟩⟩
  .rw [e,w64 ah ah];exact⟨ah,ah,λh=>by omega,λh=>⟨Or.inr (Or.inr ⟨ah,ah⟩),ah⟩⟩
  .omega
 .have hs:0<=s/\s<=200000000:=by omega
  refine⟨(U s ah ah).1,?_⟩;rw [(U s ah ah).2]
  refine au (λ(y:List (List aj)×eB)=>y.1=[a,b]/\y.2.1=2/\((y.2.2.1=0/\y.2.2.2.1=[])\/(y.2.2.1=1/\y.2.2.2.1=a)\/(y.2.2.1=2/\y.2.2.2.1=a++b))) (λy=>(2-y.2.2.1).toNat)
   ⟨rfl,rfl,Or.inl ⟨rfl,rfl⟩⟩ ?_
  rintro⟨(l:List (List aj)),(n:Int),(j:Int),(o:List aj),⟨⟩⟩ hI;dsimp only at hI ⊢;obtain⟨rfl,rfl,c⟩:=hI;simp (disch:=omega) only [RR];refine⟨λk=> ?_,λk=> ?_⟩
  .rcases c with⟨rfl,rfl⟩ | ⟨rfl,rfl⟩ | ⟨rfl,rfl⟩
   .rw [d];exact⟨ah,ah,by simp only [length_nil];omega,Or.inr (Or.inl ⟨ah,rfl⟩),ah⟩
   .rw [e];exact⟨ah,ah,ah,Or.inr (Or.inr ⟨ah,rfl⟩),ah⟩
   .omega
  .rcases c with⟨rfl,rfl⟩ | ⟨rfl,rfl⟩ | ⟨rfl,rfl⟩
   .omega
   .omega
   .rfl
def amI(n:Int)(b:0<=n)(a:n<=1073741824):Ul.F () (n,()) (λy=>y=([],())):=by
 dsimp only [Ul,gm];simp (disch:=omega) only [RR];refine⟨λh=>by omega,λ_ h=> ?_⟩
 repeat' (refine And.intro ?_ ?_)
 all_goals first | omega | (rw [length_replicate];omega) | rfl
theorem amJ{f:dY->bf}(U:∀n:Int,0<=n->n<=1073741824->p (n,())=true/\f (n,())=([],()))(a b:List Int)(r:a.length<=100000000)(q:b.length<=100000000):Um.F (p,f,()) ([a,b],()) (λy=>y=(a++b,())):=by
 dsimp only [Um,gm]
 refine au (λ(y:List (List Int)×Int×List (List Int)×ni)=>y.1=[a,b]/\y.2.2.1=[a,b]/\y.2.2.2.1=2/\((y.2.2.2.2.1=0/\y.2.1=0)\/(y.2.2.2.2.1=1/\y.2.1=a.length)\/(y.2.2.2.2.1=2/\y.2.1=a.length+b.length))) (λy=>(2-y.2.2.2.2.1).toNat)
  ⟨rfl,rfl,rfl,Or.inl ⟨rfl,rfl⟩⟩ ?_
 rintro⟨(l:List (List Int)),(s:Int),(m:List (List Int)),(n:Int),(i:Int),⟨⟩⟩ hI;dsimp only at hI ⊢;obtain⟨rfl,rfl,rfl,h⟩:=hI;simp (disch:=omega) only [RR];have d: [a,b].getD (Int.toNat 0) default=a:=rfl;have e: [a,b].getD (Int.toNat 1) default=b:=rfl;have t:([a,b].length:Int)=2:=rfl;refine⟨λg=> ?_,λg=> ?_⟩
 .rcases h with⟨rfl,rfl⟩ | ⟨rfl,rfl⟩ | ⟨rfl,rfl⟩
  .rw [d,w64 ah ah];exact⟨ah,ah,λh=>by omega,λh=>⟨Or.inr (Or.inl ⟨ah,ah⟩),ah⟩⟩
  .rw [e,w64 ah ah];exact⟨ah,ah,λh=>by omega,λh=>⟨Or.inr (Or.inr ⟨ah,ah⟩),ah⟩⟩
  .omega
 .have hs:0<=s/\s<=200000000:=by omega
  refine⟨(U s ah ah).1,?_⟩;rw [(U s ah ah).2]
  refine au (λ(y:List (List Int)×Bp)=>y.1=[a,b]/\y.2.1=2/\((y.2.2.1=0/\y.2.2.2.1=[])\/(y.2.2.1=1/\y.2.2.2.1=a)\/(y.2.2.1=2/\y.2.2.2.1=a++b))) (λy=>(2-y.2.2.1).toNat)
   ⟨rfl,rfl,Or.inl ⟨rfl,rfl⟩⟩ ?_
  rintro⟨(l:List (List Int)),(n:Int),(j:Int),(o:List Int),⟨⟩⟩ hI;dsimp only at hI ⊢;obtain⟨rfl,rfl,c⟩:=hI;simp (disch:=omega) only [RR];refine⟨λk=> ?_,λk=> ?_⟩
  .rcases c with⟨rfl,rfl⟩ | ⟨rfl,rfl⟩ | ⟨rfl,rfl⟩
   .rw [d];exact⟨ah,ah,by simp only [length_nil];omega,Or.inr (Or.inl ⟨ah,rfl⟩),ah⟩
   .rw [e];exact⟨ah,ah,ah,Or.inr (Or.inr ⟨ah,rfl⟩),ah⟩
   .omega
  .rcases c with⟨rfl,rfl⟩ | ⟨rfl,rfl⟩ | ⟨rfl,rfl⟩
   .omega
   .omega
   .rfl
def mOk.le{m:aj}(h:mOk m):m.atoms.length<=4:=h.2.1
def aQ.at{p:List aj}(h:aQ p){m:aj}(hm:m∈p):mOk m:=by
 obtain⟨i,a,rfl⟩:=getElem_of_mem hm;have:=(h.1 i ah ah).1;rw [show(i:Int).toNat=i from rfl,getD_lt a]at this;exact this
def aQ.len{p:List aj}(h:aQ p):p.length<=12:=h.2.1
noncomputable def pV (a b:List aj):Bool×List aj:=if bp (aQ a)&&bp (aQ b)then tT (a++b)else(false,[])
abbrev Y21(c : List aj × Unit -> Bool)(b : List aj × Unit -> Bool × List aj × List aj × Unit) : Prop := ∀ a, Sh a -> Cb a -> c (a, ()) = true /\ (b (a, ())).1 = (tT a).1 /\ (b (a, ())).2.2.1 = (tT a).2
def asq{p1 f1 p2 f2}{k:fE->Bool}{o:fE->bn}(n:Y11 p1 f1)(g:Y21 p2 f2)(p:∀a b:List aj,a.length<=100000000->b.length<=100000000->k ([a,b],())=true/\o ([a,b],())=(a++b,()))(a b:List aj)(l:Sh a)(j:Sh b):aev.F (p1,f1,p2,f2,k,o,()) (a,b,()) (λy=>y=((pV a b).1,(pV a b).2,())):=by
 dsimp only [aev,gm];simp (disch:=omega) only [RR,n a l,n b j,aH,iE];unfold pV;refine⟨λh=> ?_,λ⟨e,c⟩=> ?_⟩
 .rw [if_neg];rw [Bool.and_eq_true,aH,aH];rintro⟨f,d⟩;rcases h with h | h
  .exact h f
  .exact h d
 .have l1:=e.len;have q:=c.len;rw [(p a b ah ah).1,(p a b ah ah).2];have i:Sh (a++b):=⟨by rw [length_append];omega,λm hm=>by
   rw [mem_append]at hm;rcases hm with hm | hm
   .exact l.2 m hm
   .exact j.2 m hm⟩
  have hc:Cb (a++b):=λm hm=>by
   rw [mem_append]at hm;rcases hm with hm | hm
   .have:=(e.at hm).1;omega
   .have:=(c.at hm).1;omega
  obtain⟨f,d⟩:=(g _ i hc).2;refine⟨rfl,(g _ i hc).1,?_⟩;rw [if_pos (by rw [aL e,aL c];rfl),f,d]
def mR(l:List Int):List Int:=l.mergeSort λx y=>decide (x<=y)
def KU(l:List Int):(mR l).length=l.length:=length_mergeSort l
def mulM(m n:aj):aj:=⟨m.bH*n.bH%65536,mR (m.atoms++n.atoms)⟩
def prods(a b:List aj):List aj:=a.flatMap λm=>b.map (mulM m)
def GZ(a b:List aj)(m:aj):prods (a++ [m]) b=prods a b++b.map (mulM m):=by simp [prods]
noncomputable def qA (a b:List aj):Bool×List aj:=if bp (aQ a)&&bp (aQ b)then tT (prods a b)else(false,[])
def EK{a b:Int}(f:0<=a)(d:a<=65535)(c:0<=b)(e:b<=65535):0<=a*b/\a*b<=65535*65535:=⟨Int.mul_nonneg f c,Int.mul_le_mul d e c ah⟩
def asr{p1 f1 p0 f0 p2 f2}{A:List (List Int)×Unit->Bool}{D:List (List Int)×Unit->bf}{G:bf->Bool}{B:bf->bf}(C:Y11 p1 f1)(L:Y10 p0 f0)(z:Y21 p2 f2)(P:∀a b:List Int,a.length<=100000000->b.length<=100000000->A ([a,b],())=true/\D ([a,b],())=(a++b,()))(U:∀a:List Int,a.length<=8->G (a,())=true/\B (a,())=(mR a,()))(a b:List aj)(O:Sh a)(M:Sh b):aew.F (p1,f1,p0,f0,p2,f2,A,D,G,B,()) (a,b,()) (λy=>y=((qA a b).1,(qA a b).2,())):=by
 dsimp only [aew,gm];simp (disch:=omega) only [RR,C a O,C b M,aH,iE];unfold qA;refine⟨λh=> ?_,λ⟨t,q⟩=> ?_⟩
 .rw [if_neg];rw [Bool.and_eq_true,aH,aH];rintro⟨u,r⟩;rcases h with h | h
  .exact h u
  .exact h r
 have Z:=t.len;have V:=q.len;rw [if_pos (by rw [aL t,aL q];rfl)];have S:∀i j:Int,0<=i->i<a.length->0<=j->j<b.length->mOk ((a).getD (i).toNat default)/\mOk ((b).getD (j).toNat default):=λi j R K J I=>⟨t.at (dh R K),q.at (dh J I)⟩
 refine au (λ(y:List aj×Int×ql)=>y.1=a/\y.2.1=a.length/\0<=y.2.2.1/\y.2.2.1<=a.length/\y.2.2.2.1=b/\y.2.2.2.2.1=prods (a.take y.2.2.1.toNat) b/\y.2.2.2.2.1.length<=12*y.2.2.1/\Sh y.2.2.2.2.1/\Cb y.2.2.2.2.1) (λy=>(a.length-y.2.2.1).toNat)
  ⟨rfl,rfl,by simp,by simp,rfl,rfl,by simp,⟨by simp,λm hm=>absurd hm (by simp)⟩,λm hm=>absurd hm (by simp)⟩ ?_
 rintro⟨(k:List aj),(n:Int),(i:Int),(e:List aj),(o:List aj),⟨⟩⟩ hI;dsimp only at hI ⊢;obtain⟨rfl,rfl,x,h4,rfl,w,X,s,p⟩:=hI;simp (disch:=omega) only [RR];refine⟨λv=>⟨ah,ah,?_⟩,λv=> ?_⟩
 .refine au (λ(y:List aj×Int×Int×List aj×Int×Int×List aj×List aj×aj×Unit)=>y.1=k/\y.2.1=k.length/\y.2.2.1=i/\y.2.2.2.1=e/\y.2.2.2.2.1=e.length/\0<=y.2.2.2.2.2.1/\y.2.2.2.2.2.1<=e.length/\y.2.2.2.2.2.2.1=e/\y.2.2.2.2.2.2.2.2.1=((k).getD (i).toNat default)
    /\y.2.2.2.2.2.2.2.1=o++(e.take y.2.2.2.2.2.1.toNat).map (mulM ((k).getD (i).toNat default))/\Sh y.2.2.2.2.2.2.2.1/\Cb y.2.2.2.2.2.2.2.1) (λy=>(e.length-y.2.2.2.2.2.1).toNat)
   ⟨rfl,rfl,rfl,rfl,rfl,by simp,by simp,rfl,rfl,by simp,s,p⟩ ?_
  rintro⟨(c:List aj),(n:Int),(f:Int),(T:List aj),(nb:Int),(j:Int),(g:List aj),(Q:List aj),(m:aj),⟨⟩⟩ hI;dsimp only at hI ⊢;obtain⟨rfl,rfl,rfl,rfl,rfl,H,k2,rfl,rfl,k3,E,F⟩:=hI;have W:(Q.length:Int)<=12*f+j:=by
   rw [k3,length_append,length_map];have:=length_take_le j.toNat g;omega
  by_cases l:j<g.length
  .obtain⟨m1,m2⟩:=S f j x v H l;have Y:=m1.le;have e2:=m2.le;have N:(((c).getD (f).toNat default).atoms++((g).getD (j).toNat default).atoms).length<=8:=by rw [length_append];omega
   have hm:=EK (show 0<=((c).getD (f).toNat default).bH by have:=m1.1;omega) (by have:=m1.1;omega) (show 0<=((g).getD (j).toNat default).bH by have:=m2.1;omega) (by have:=m2.1;omega);simp (disch:=omega) only [RR,P ((c).getD (f).toNat default).atoms ((g).getD (j).toNat default).atoms ah ah,U _ N,L];refine⟨λ_=>⟨ah,ah,by simp only [length_cons,length_nil];omega,⟨ah,ah,?_,⟨?_,?_⟩,?_⟩,ah⟩,λh=>by omega⟩
   .rw [<-bq (d:=default) H l rfl,map_append,k3,append_assoc];rfl
   .rw [length_append];simp only [length_cons,length_nil];omega
   .intro m hm;rw [mem_append,mem_singleton]at hm;rcases hm with hm | rfl
    .exact E.2 m hm
    .dsimp only;rw [KU];omega
   .intro m hm;rw [mem_append,mem_singleton]at hm;rcases hm with hm | rfl
    .exact F m hm
    .dsimp only;omega
  .simp (disch:=omega) only [RR];refine⟨λh=>absurd h l,λ_=>⟨⟨ah,ah,?_,ah,E,F⟩,ah⟩⟩;rw [<-bq (d:=default) x v rfl,GZ,<-w,k3,take_of_length_le ah]
 .obtain⟨u,r⟩:=(z _ s p).2;refine⟨(z _ s p).1,?_⟩;rw [u,r,w,take_of_length_le ah]
noncomputable def kg (a:List aj) (n:Int):List aj:=if bp (aQ a)&&inB n 0 65535 then(qA a (aW n)).2 else []
def aa6(n:Int):Sh (aW n):=by
 unfold aW;split
 .exact⟨by simp,λm hm=>by rw [mem_singleton]at hm;subst hm;simp⟩
 .exact⟨by simp,λm hm=>absurd hm (by simp)⟩
abbrev Y22(b : Int × Unit -> Bool)(a : Int × Unit -> List aj × Unit) : Prop := ∀ n, b (n, ()) = true /\ a (n, ()) = (aW n, ())
abbrev Y23(d : List aj × List aj × Unit -> Bool)(c : List aj × List aj × Unit -> Bool × List aj × Unit) : Prop := ∀ a b, Sh a -> Sh b -> d (a, b, ()) = true /\ c (a, b, ()) = ((qA a b).1, (qA a b).2, ())
def asu{p1 f1 p2 f2 p3 f3 p4 f4}(k:Y11 p1 f1)(i:Y22 p2 f2)(e:Y9 p3 f3)(d:Y23 p4 f4)(a:List aj)(n:Int)(b:Sh a):aex.F (p1,f1,p2,f2,p3,f3,p4,f4,()) (a,n,()) (λy=>y=(kg a n,())):=by
 dsimp only [aex,gm];simp (disch:=omega) only [RR,k a b,i,e,d a _ b (aa6 n)];unfold kg;refine⟨λh=> ?_,λ⟨g,f⟩=> ?_⟩
 .rw [if_neg];rw [Bool.and_eq_true];rintro⟨j,c⟩;rcases h with h | h
  .rw [j]at h;cases h
  .rw [c]at h;cases h
 .rw [g,f];rfl
end Go.TX.F
namespace Go.TX.F
open Go Go.AE Go.TX List
noncomputable def G6 (a:Int) (x y:List aj):List aj×Bool:=
 if(dw x).2&& (dw y).2 then(aW (wdo a (dw x).1 (dw y).1),true)
 else if iV x y=0/\a=4 then(x,true)
 else if iV x y=0 then([],true)
 else if(dw x).2 then
  (if a=4/\(dw x).1=0 then([],true)else if(a=4/\(dw x).1=65535)\/(a=5/\(dw x).1=0)then(y,true)else([],false))
 else if(dw y).2 then
  (if a=4/\(dw y).1=0 then([],true)else if(a=4/\(dw y).1=65535)\/(a=5/\(dw y).1=0)then(x,true)else([],false))
 else([],false)
noncomputable def jg (a:Int) (x y:List aj):List aj×Bool:=
 if a=1 then((pV x y).2,(pV x y).1)else if a=2 then((pV x (kg y 65535)).2,(pV x (kg y 65535)).1)else if a=3 then((qA x y).2,(qA x y).1)else G6 a x y
def aQ.sh{l:List aj}:aQ l->Sh l:=λh=>⟨by have:=h.len;omega,λm hm=>by have:=(h.at hm).le;omega⟩
def ai7(l:List aj):Sh (tT l).2:=by
 unfold tT;by_cases h:aQ (nf l)
 .rw [aL h];exact h.sh
 .rw [aV h];exact⟨by simp,λm hm=>absurd hm (by simp)⟩
def pW:Sh []:=⟨by simp,λm hm=>absurd hm (by simp)⟩
def ai8(a b:List aj):Sh (qA a b).2:=by unfold qA;split;exact ai7 _;exact pW
def KV(a:List aj)(n:Int):Sh (kg a n):=by unfold kg;split;exact ai8 _ _;exact pW
abbrev Y24(d : Int × Int × Int × Unit -> Bool)(e : Int × Int × Int × Unit -> Int × Unit) : Prop := ∀ c a b, d (c, a, b, ()) = true /\ e (c, a, b, ()) = (wdo c a b, ())
abbrev Y25(d : List aj × List aj × Unit -> Bool)(c : List aj × List aj × Unit -> Bool × List aj × Unit) : Prop := ∀ a b, Sh a -> Sh b -> d (a, b, ()) = true /\ c (a, b, ()) = ((pV a b).1, (pV a b).2, ())
abbrev Y26(c : List aj × Int × Unit -> Bool)(b : List aj × Int × Unit -> List aj × Unit) : Prop := ∀ a n, Sh a -> c (a, n, ()) = true /\ b (a, n, ()) = (kg a n, ())
abbrev Y27(c : List aj × Unit -> Bool)(b : List aj × Unit -> Int × Bool × Unit) : Prop := ∀ a, Sh a -> c (a, ()) = true /\ b (a, ()) = ((dw a).1, (dw a).2, ())
def amK{p1 f1 p2 f2 p3 f3 p4 f4 p5 f5 p6 f6 p7 f7}(q:Y14 p1 f1)(o:Y22 p2 f2)(s:Y24 p3 f3)(k:Y25 p4 f4)(u:Y23 p5 f5)(t:Y26 p6 f6)(j:Y27 p7 f7)(b:Int)(x y:List aj)(d:Sh x)(f:Sh y):Ur.F (p1,f1,p2,f2,p3,f3,p4,f4,p5,f5,p6,f6,p7,f7,()) (b,x,y,()) (λz=>z=((jg b x y).1,(jg b x y).2,())):=by
 dsimp only [Ur,gm];simp (disch:=omega) only [RR,q x y d,o,s,k x y d f,k x _ d (KV y 65535),u x y d f,t y _ f,j x d,j y f];unfold jg;refine⟨λh=>by rw [if_pos h],λh=>⟨λg=>by rw [if_neg h,if_pos g],λg=>⟨λi=>by rw [if_neg h,if_neg g,if_pos i],λi=> ?_⟩⟩⟩;rw [if_neg h,if_neg g,if_neg i];unfold G6;generalize dw x=w;generalize dw y=l;obtain⟨n,v⟩:=w;obtain⟨m,p⟩:=l;dsimp only;by_cases e:iV x y=0<;>by_cases r:b=4<;>cases v<;>cases p<;>simp [e,r]
 .by_cases c:m=0<;>by_cases a:m=65535<;>simp [c,a]
 .by_cases c:n=0<;>by_cases a:n=65535<;>simp [c,a]
 .by_cases c:b=5<;>by_cases a:m=0<;>simp [c,a]
 .by_cases c:b=5<;>by_cases a:n=0<;>simp [c,a]
noncomputable def tDo (t:List Atom) (a:Int) (x y:List aj):List Atom×List aj:=
 if(jg a x y).2 then(t,(jg a x y).1)else
 if a≠2/\0<iV x y then(if(bC t ⟨4,a,y,x⟩).2<0 then([],[])else((bC t ⟨4,a,y,x⟩).1,gZ (bC t ⟨4,a,y,x⟩).2))
 else(if(bC t ⟨4,a,x,y⟩).2<0 then([],[])else((bC t ⟨4,a,x,y⟩).1,gZ (bC t ⟨4,a,x,y⟩).2))
noncomputable def tOk (t:List Atom) (a:Int) (x y:List aj):Bool:=(jg a x y).2 || !decide ((if a≠2/\0<iV x y then(bC t ⟨4,a,y,x⟩).2 else(bC t ⟨4,a,x,y⟩).2)<0)
abbrev Y28(b : Int × Unit -> Bool)(a : Int × Unit -> List aj × Unit) : Prop := ∀ n, b (n, ()) = true /\ a (n, ()) = (gZ n, ())
def asv{p1 f1 p4 f4}{f:ql->Bool}{k:ql->List aj×mQ}{g:r9->Bool}{i:r9->List Atom×dY}(u:Y8 p1 f1)(p:∀b x y,Sh x->Sh y->f (b,x,y,())=true/\k (b,x,y,())=((jg b x y).1,(jg b x y).2,()))(j:∀t a,t.length<1000000000->ShA a->g (t,a,())=true/\i (t,a,())=((bC t a).1,(bC t a).2,()))(A:Y28 p4 f4)(t:List Atom)(b:Int)(x y:List aj)(e:t.length<1000000000)(c:Sh x)(d:Sh y):aey.F (p1,f1,f,k,g,i,p4,f4,()) (t,b,x,y,()) (λz=>z.1=(tDo t b x y).1/\z.2.1=(tDo t b x y).2/\z.2.2.1=tOk t b x y):=by
 have l:ShA ⟨4,b,x,y⟩:=⟨c,d⟩;have v:ShA ⟨4,b,y,x⟩:=⟨d,c⟩;dsimp only [aey,gm];simp (disch:=omega) only [RR,u x y c,p b x y c d,j t _ e l,j t _ e v,A];unfold tDo tOk;refine⟨λh=>by rw [if_pos h,h];exact⟨rfl,rfl,rfl⟩,λh=> ?_⟩;rw [if_neg (by rw [h];simp),h,Bool.false_or];generalize bC t ⟨4,b,y,x⟩=w;generalize bC t ⟨4,b,x,y⟩=q;generalize iV x y=o;by_cases n:b=2<;>by_cases r:0<o<;>by_cases m:w.2<0<;>by_cases s:q.2<0<;>simp [n,r,m,s]
def ai9:ShT []:=⟨by simp,λm hm=>absurd hm (by simp)⟩
abbrev Y29(c : List Atom × Unit -> Bool)(b : List Atom × Unit -> Bool × Unit) : Prop := ∀ a, ShT a -> c (a, ()) = true /\ b (a, ()) = (bp (aI a), ())
abbrev Y30(b : List Atom × Int × List aj × List aj × Unit -> Bool)(a : List Atom × Int × List aj × List aj × Unit -> List Atom × List aj × Bool × Unit) : Prop := ∀ (t : List Atom) op x y, t.length < 1000000000 -> Sh x -> Sh y -> b (t, op, x, y, ()) = true /\ (a (t, op, x, y, ())).1 = (tDo t op x y).1 /\ (a (t, op, x, y, ())).2.1 = (tDo t op x y).2 /\ (a (t, op, x, y, ())).2.2.1 = tOk t op x y
abbrev Y31(c : List Atom × Unit -> Bool)(b : List Atom × Unit -> List Atom × Unit) : Prop := ∀ a, ShT a -> c (a, ()) = true /\ b (a, ()) = (a, ())
def amL{p1 f1}(a:Y9 p1 f1):UJ.F (p1,f1,()) () (λz=>z=(true,())):=by
 dsimp only [UJ,gm];simp (disch:=omega) only [RR,a];rfl
def oL{α:Type}{d:α}{a b:List α}(h:a.length=b.length)(c:All a.length (λi=>a.getD i.toNat d=b.getD i.toNat d)):a=b:=by
 refine ext_getElem h λi f e=> ?_
 have:=c i ah ah;dsimp only at this;rw [show(i:Int).toNat=i from rfl,getD_lt f,getD_lt e]at this;exact this
abbrev Y32(d : List Int × List Int × Unit -> Bool)(c : List Int × List Int × Unit -> Bool × Unit) : Prop := ∀ a b, a.length < 1000000000 -> d (a, b, ()) = true /\ c (a, b, ()) = (bp (a = b), ())
variable{α:Type}{p:List aj}{o:List aj}
def ae6{a b:Int}:or2 a b=0↔a=0/\b=0:=by unfold or2;split<;>omega
def KW{a b:aj}:MG a b=0↔a=b:=by
 unfold MG;rw [ae6,lI,jP];constructor
 .rintro⟨h1,h2⟩;cases a;cases b;simp_all
 .rintro rfl;exact⟨rfl,rfl⟩
def KY:∀ {a b:List aj},a.length=b.length->C8 a b=0->a=b
 | [],[],_,_=>rfl | [],_::_,h,_=>by simp at h
 | _::_,[],h,_=>by simp at h
 | a::az,b::bs,hl,h=>by
  simp only [C8]at h;split at h
  .exact absurd h (by assumption)
  .rename_i h1;rw [KW.1 (Classical.not_not.1 h1),KY (by simpa using hl) h]
def KZ:∀a:List aj,C8 a a=0
 | []=>rfl
 | a::az=>by simp only [C8,KW.2 rfl];simp [KZ az]
def jk{a b:List aj}:iV a b=0↔a=b:=by
 unfold iV;constructor
 .intro h;split at h
  .exact absurd h (by assumption)
  .rename_i h1;have:=jP.1 (Classical.not_not.1 h1);exact KY ah h
 .rintro rfl;rw [if_neg (by rw [jP.2 rfl];simp),KZ]
def oZ{a b:Atom}:uQ a b=true↔a=b:=by
 unfold uQ;rw [Bool.and_eq_true,Bool.and_eq_true,Bool.and_eq_true,decide_eq_true_eq,decide_eq_true_eq,decide_eq_true_eq,decide_eq_true_eq,jk,jk];constructor
 .rintro⟨⟨⟨h1,h2⟩,h3⟩,h4⟩;cases a;cases b;simp_all
 .rintro rfl;exact⟨⟨⟨rfl,rfl⟩,rfl⟩,rfl⟩
def oM{d:α}{l:List α}{G:α->Prop}:All l.length (λi=>G (l.getD i.toNat d))↔∀m∈l,G m:=by
 constructor
 .intro h m hm;obtain⟨i,a,rfl⟩:=getElem_of_mem hm;have:=h i ah ah;dsimp only at this;rw [show(i:Int).toNat=i from rfl,getD_lt a]at this;exact this
 .intro h i h1 h2;exact h _ (dh h1 h2)
def dx{n:Int}:bg p n↔∀m∈p,∀k∈m.atoms,k<n:=by
 unfold bg MF;rw [oM (d:=default) (G:=λm:aj=>All m.atoms.length (λi=>¬n<=m.atoms.getD i.toNat default))];refine forall_congr' λm=>forall_congr' λ_=> ?_
 rw [oM (d:=default) (G:=λk:Int=>¬n<=k)];exact forall_congr' λk=>forall_congr' λ_=>by omega
def dD{d:α}{R:α->α->Prop}(g:∀ {a b c},R a b->R b c->R a c){l:List α}:l.Pairwise R↔∀i:Int,0<i->i<l.length->R (l.getD (i-1).toNat d) (l.getD i.toNat d):=by
 rw [pairwise_iff_getElem];constructor
 .intro h i e h2;rw [getD_lt ah,getD_lt ah];exact h _ _ ah ah ah
 .intro h i j hi hj hij;obtain⟨n,rfl⟩:∃n,j=i+1+n:=⟨j-i-1,ah⟩
  clear hij
  induction n with
  | zero=>
   have:=h (i+1:Nat) ah ah;rw [show(((i+1:Nat):Int)-1).toNat=i by omega,show(((i+1:Nat):Int)).toNat=i+1 by omega,getD_lt hi,getD_lt ah]at this;exact this
  | succ n f=>
   have e:=f ah;have:=h (i+1+n+1:Nat) ah ah;rw [show(((i+1+n+1:Nat):Int)-1).toNat=i+1+n by omega,show(((i+1+n+1:Nat):Int)).toNat=i+1+n+1 by omega,getD_lt ah,getD_lt ah]at this;exact g e this
def MN{l:List Int}:Srt l↔l.Pairwise (· <= ·):=by
 rw [dD (d:=default) (R:=λa b:Int=>a<=b) (λe c=>Int.le_trans e c)];unfold Srt;constructor
 .intro h i e c;have:=h (i-1) ah ah;dsimp only at this;rw [show i-1+1=i by omega]at this;exact this
 .intro h i e c;have:=h (i+1) ah ah;rw [show i+1-1=i by omega]at this;exact this
def fH{a b c:aj}(e:lt a b)(d:lt b c):lt a c:=dS (le_of_lt e) d
def aok(l:List Int):Prop:=l.Pairwise (· <= ·)/\∀k∈l,0<=k/\k<=199
def iF:aQ p↔Nf p/\p.length<=12/\∀m∈p,m.atoms.length<=4/\aok m.atoms:=by
 constructor
 .rintro⟨h1,h2,h3,h4⟩;have c:∀m∈p,mOk m:=oM (d:=default) (G:=mOk).1 (λi e a=>(h1 i e a).1);have f:∀m∈p,¬(0<m.atoms.length/\m.atoms.getD 0 default<0):=oM (d:=default) (G:=λm:aj=>¬(0<m.atoms.length/\m.atoms.getD 0 default<0)).1 h4;refine⟨⟨(dD (d:=default) (R:=lt) fH).2 λi e a=>(h1 i ah a).2 e,λm hm=>(c m hm).1⟩,h2,λm hm=>⟨(c m hm).2.1,MN.1 (c m hm).2.2,λk hk=>⟨?_,by have:=dx.1 h3 m hm k hk;omega⟩⟩⟩;have g:=MN.1 (c m hm).2.2;have hn:=f m hm;cases ha:m.atoms with
  | nil=>rw [ha]at hk;exact absurd hk (by simp)
  | cons b l=>
   rw [ha]at hk g hn;simp at hn;rcases mem_cons.1 hk with rfl | hk
   .exact hn
   .have:=rel_of_pairwise_cons g hk;omega
 .rintro⟨h1,h2,h3⟩;refine⟨λi e a=>⟨⟨h1.co _ (dh e a),(h3 _ (dh e a)).1,MN.2 (h3 _ (dh e a)).2.1⟩,λh=>(dD (d:=default) (R:=lt) fH).1 h1.ss i h a⟩,h2,dx.2 λm hm k hk=>by have:=((h3 m hm).2.2 k hk);omega,?_⟩;refine oM (d:=default) (G:=λm:aj=>¬(0<m.atoms.length/\m.atoms.getD 0 default<0)).2 λm hm=> ?_
  rintro⟨e,a⟩;have:=(h3 m hm).2.2 _ (dh (i:=0) (d:=default) (xs:=m.atoms) ah ah);rw [show Int.toNat 0=0 from rfl]at this;omega
def ae7{l:List aj}{k:List Int}(h:cf l k≠0):∃m∈l,m.atoms=k:=Classical.byContradiction λa=>h (jv λm hm e=>a ⟨m,hm,e⟩)
def Nf.cf(h:Nf o){m:aj}(hm:m∈o):cf o m.atoms=m.bH:=by
 induction o with
 | nil=>exact absurd hm (by simp)
 | cons a o c=>
  rw [bV];rcases mem_cons.1 hm with rfl | hm
  .rw [if_pos rfl,jv (λd b=>((rel_of_pairwise_cons h.ss b).ne).symm)];omega
  .rw [if_neg (rel_of_pairwise_cons h.ss hm).ne,c ⟨h.ss.tail,λm hm=>h.co m (by simp [hm])⟩ hm];omega
def Nf.from{o l:List aj}(h:Nf o)(h2:∀k,F.cf o k=F.cf l k%65536){m:aj}(hm:m∈o):∃a∈l,a.atoms=m.atoms:=by
 refine ae7 λe=> ?_
 have:=h2 m.atoms;rw [h.cf hm,e]at this;have:=h.co m hm;omega
def Nf.bnd(h:Nf o)(k:List Int):0<=F.cf o k/\F.cf o k<=65535:=by
 by_cases e:F.cf o k=0
 .omega
 .obtain⟨m,hm,rfl⟩:=ae7 e;rw [h.cf hm];have:=h.co m hm;omega
def aja{l o:List aj}(h:Nf o)(a:∀k,F.cf o k=F.cf l k%65536)(e:∀m∈l,aok m.atoms):
  tT l=(decide (o.length<=12/\∀m∈o,m.atoms.length<=4),if o.length<=12/\∀m∈o,m.atoms.length<=4 then o else []):=by
 unfold tT;rw [ZJ h a];by_cases c:o.length<=12/\∀m∈o,m.atoms.length<=4
 .have:aQ o:=iF.2 ⟨h,c.1,λm hm=>⟨c.2 m hm,by obtain⟨d,f,b⟩:=h.from a hm;rw [<-b];exact e d f⟩⟩;rw [aL this,decide_eq_true c,if_pos rfl,if_pos c]
 .have:¬aQ o:=λg=>c ⟨(iF.1 g).2.1,λm hm=>((iF.1 g).2.2 m hm).1⟩
  rw [aV this,decide_eq_false c,if_neg (by simp),if_neg c]
end Go.TX.F
namespace Go.TX.F
open Go Go.AE Go.TX List
def amM(a b c:Int):Sl.F () (a,b,c,()) (λy=>y=(inB a b c,())):=by
 dsimp only [Sl,gm];simp (disch:=omega) only [RR];rfl
def amN(a:Int):Sg.F () (a,()) (λy=>y=(inB a 0 65535,())):=by
 dsimp only [Sg,gm];simp (disch:=omega) only [RR];refine congrArg (λb=>(b,())) ?_;rw [Bool.eq_iff_iff,bD,Bool.and_eq_true,decide_eq_true_eq,decide_eq_true_eq];omega
def amO{p1 f1}(b:Y1 p1 f1)(a:Int):
  VA.F (p1,f1,()) (a,()) (λy=>y=(aW a,())):=by
 dsimp only [VA,gm];simp (disch:=omega) only [RR,b,bD,jF];unfold aW;exact⟨λh=>by rw [if_neg ah],λh=>by rw [if_pos ah]⟩
def amP{p1 f1}(b:Y1 p1 f1)(a:Int):
  Vi.F (p1,f1,()) (a,()) (λy=>y=(gZ a,())):=by
 dsimp only [Vi,gm];simp (disch:=omega) only [RR,b,bD,jF];unfold gZ;exact⟨λh=>by rw [if_neg ah],λh=>by rw [if_pos ah]⟩
def ae8(a:Int):a.tmod 65536=if 0<=a then a%65536 else- (-a%65536):=by
 split
 .rw [Int.tmod_eq_emod_of_nonneg ah]
 .have:=Int.neg_tmod (-a) 65536;rw [Int.neg_neg]at this;rw [this,Int.tmod_eq_emod_of_nonneg ah]
def amQ(a:Int):S9.F () (a,()) (λy=>y=(a%65536,())):=by
 dsimp only [S9,gm];simp only [ae1];by_cases h:0<=a
 .rw [show a.tmod 65536=a%65536 by rw [ae8,if_pos h]];simp (disch:=omega) only [RR];refine⟨ah,λb=> ?_⟩;exfalso;omega
 .rw [show a.tmod 65536= - (-a%65536) by rw [ae8,if_neg h]];simp (disch:=omega) only [RR];refine⟨ah,λb=> ?_,λb=> ?_⟩
  .rw [show-(-a%65536)+65536=a%65536 by omega]
  .rw [show-(-a%65536)=a%65536 by omega]
def amR(a b:List Int)(n:a.length<1000000000):Vk.F () (a,b,()) (λy=>y=(fC a b,())):=by
 dsimp only [Vk,gm];simp (disch:=omega) only [RR];refine⟨λh=>⟨λg=> ?_,λg=> ?_⟩,λh=> ?_⟩
 .rw [show fC a b= -1 by(have e:iJ a.length b.length= -1:=by unfold iJ;rw [if_pos g]);unfold fC or2;rw [e];rfl]
 .rw [show fC a b=1 by(have e:iJ a.length b.length=1:=by unfold iJ;rw [if_neg g,if_pos ah]);unfold fC or2;rw [e];rfl]
 have p:a.length=b.length:=by omega
 have l:fC a b=l9 a b:=by unfold fC or2;rw [jP.2 ah,if_neg (by simp)]
 refine au (λ(y:List Int×l7)=>y.1=a/\y.2.1=b/\0<=y.2.2.1/\y.2.2.1<=a.length/\fC a b=l9 (a.drop y.2.2.1.toNat) (b.drop y.2.2.1.toNat)) (λy=>(a.length-y.2.2.1).toNat) ⟨rfl,rfl,by simp,by simp,by simpa using l⟩ ?_;rintro⟨(f:List Int),(c:List Int),(i:Int),⟨⟩⟩ hI;dsimp only at hI ⊢;obtain⟨rfl,rfl,g,o,j⟩:=hI;simp (disch:=omega) only [RR];refine⟨λm=> ?_,λm=> ?_⟩
 .have e:=CZ f c i.toNat ah ah;rw [getD_lt ah,getD_lt ah];refine⟨ah,ah,ah,ah,λd=> ?_,λd=>⟨ah,ah,ah,ah,λk=> ?_,λk=>⟨⟨ah,ah,?_⟩,ah⟩⟩⟩
  .rw [j,e,show iJ f[i.toNat] c[i.toNat]= -1 by unfold iJ;rw [if_pos d]];rfl
  .rw [j,e,show iJ f[i.toNat] c[i.toNat]=1 by unfold iJ;rw [if_neg d,if_pos k]];rfl
  .rw [j,e,show iJ f[i.toNat] c[i.toNat]=0 by unfold iJ;rw [if_neg d,if_neg k],show(i+1).toNat=i.toNat+1 by omega];rfl
 .rw [j,drop_eq_nil_of_le ah,drop_eq_nil_of_le ah];rfl
def amS{p1 f1}(r:Y1 p1 f1)(m:aj)(hm:m.atoms.length<1000000000):
  Vm.F (p1,f1,()) (m,()) (λy=>y=(bp ((1<=m.bH/\m.bH<=65535)/\m.atoms.length<=4/\aok m.atoms),())):=by
 dsimp only [Vm,gm];simp (disch:=omega) only [RR,r,bD,jF];refine⟨λh=> ?_,λ⟨g,f⟩=> ?_⟩
 .rw [aV];rintro⟨x,v,s⟩;omega
 refine au (λ(y:Int×aj×Unit)=>y.2.1=m/\0<=y.1/\y.1<=m.atoms.length/\All y.1 (λi=>(0<=m.atoms.getD i.toNat default/\m.atoms.getD i.toNat default<=199)/\(0<i->m.atoms.getD (i-1).toNat default<=m.atoms.getD i.toNat default))) (λy=>(m.atoms.length-y.1).toNat) ⟨rfl,by simp,by simp,All.zero⟩ ?_;rintro⟨(i:Int),(u:aj),⟨⟩⟩ hI;dsimp only at hI ⊢;obtain⟨rfl,t,z,q⟩:=hI;simp (disch:=omega) only [RR,r,bD,jF];refine⟨λp=>⟨ah,ah,by by_cases c:0<i;(· right;omega);(· left;simp [c]),by by_cases c:0<i;(· right;omega);(· left;simp [c]),ah,ah,λe=> ?_,λe=>⟨⟨ah,ah,q.snoc ⟨e.1,λc=> ?_⟩⟩,ah⟩⟩,λp=> ?_⟩
 .rw [aV];rintro⟨x,v,s,w⟩;rcases e with e | ⟨e,n⟩
  .exact e (w _ (dh t p))
  .have:=(dD (d:=default) (R:=λa b:Int=>a<=b) (λg f=>Int.le_trans g f)).1 s i e p;omega
 .have:=e.2;rw [decide_eq_true c,Bool.true_and,decide_eq_false_iff_not]at this;omega
 .have n:=q.le (by omega:(u.atoms.length:Int)<=i);rw [aL];refine⟨ah,ah,(dD (d:=default) (R:=λa b:Int=>a<=b) (λg f=>Int.le_trans g f)).2 λj o l=>(n j ah l).2 o,oM (d:=default) (G:=λk:Int=>0<=k/\k<=199).1 λj o l=>(n j o l).1⟩
def amT{p4 f4}{l:aj×Unit->Bool}{q:aj×Unit->mQ}(v:∀m:aj,m.atoms.length<1000000000->l (m,())=true/\q (m,())=(bp ((1<=m.bH/\m.bH<=65535)/\m.atoms.length<=4/\aok m.atoms),()))(x:Y7 p4 f4)(a:List aj)(k:Sh a):Vn.F (l,q,p4,f4,()) (a,()) (λy=>y=(bp (aQ a),())):=by
 have p:=k.1;dsimp only [Vn,gm];simp (disch:=omega) only [RR];refine⟨λh=> ?_,λh=> ?_⟩
 .rw [aV (λo=>by have:=o.len;omega)]
 refine au (λ(y:Int×bn)=>y.2.1=a/\0<=y.1/\y.1<=a.length/\All y.1 (λi=>((1<=((a).getD (i).toNat default).bH/\((a).getD (i).toNat default).bH<=65535)/\((a).getD (i).toNat default).atoms.length<=4/\aok ((a).getD (i).toNat default).atoms)/\(0<i->lt ((a).getD (i-1).toNat default) ((a).getD (i).toNat default)))) (λy=>(a.length-y.1).toNat) ⟨rfl,by simp,by simp,All.zero⟩ ?_;rintro⟨(i:Int),(u:List aj),⟨⟩⟩ hI;dsimp only at hI ⊢;obtain⟨rfl,r,o,n⟩:=hI;simp (disch:=omega) only [RR,v _ (k.at _),x _ _ (k.at _),aH,iE];refine⟨λe=>⟨ah,ah,by by_cases c:0<i;(· right;omega);(· left;simp [c]),by by_cases c:0<i;(· right;omega);(· left;simp [c]),ah,ah,λb=> ?_,λb=>⟨⟨ah,ah,n.snoc ⟨b.1,λc=> ?_⟩⟩,ah⟩⟩,λe=> ?_⟩
 .rw [aV (λh=> ?_)];obtain⟨s,A,w⟩:=iF.1 h;rcases b with b | ⟨b,z⟩
  .exact b ⟨s.co _ (dh r e),w _ (dh r e)⟩
  .have:=(dD (d:=default) (R:=lt) fH).1 s.ss i b e;unfold lt at this;omega
 .have:=b.2;rw [decide_eq_true c,Bool.true_and,decide_eq_false_iff_not]at this;unfold lt;omega
 .have h8:=n.le (by omega:(u.length:Int)<=i);rw [aL];have t:=oM (d:=default) (G:=λm:aj=>(1<=m.bH/\m.bH<=65535)/\m.atoms.length<=4/\aok m.atoms).1 λj g f=>(h8 j g f).1
  exact iF.2 ⟨⟨(dD (d:=default) (R:=lt) fH).2 λj g f=>(h8 j ah f).2 g,λm hm=>(t m hm).1⟩,ah,λm hm=>(t m hm).2⟩
def amU(a:List aj)(n:Int)(f:Sh a):Vp.F () (a,n,()) (λy=>y=(bp (bg a n),())):=by
 have e:=f.1;dsimp only [Vp,gm];simp (disch:=omega) only [RR];refine au (λ(y:eB)=>y.1=n/\y.2.2.1=a/\0<=y.2.1/\y.2.1<=a.length/\All y.2.1 (λi=>MF n ((a).getD (i).toNat default))) (λy=>(a.length-y.2.1).toNat) ⟨rfl,rfl,by simp,by simp,All.zero⟩ ?_;rintro⟨(b:Int),(i:Int),(l:List aj),⟨⟩⟩ hI;dsimp only at hI ⊢;obtain⟨rfl,rfl,q,t,d⟩:=hI;simp (disch:=omega) only [RR];refine⟨λg=> ?_,λg=> ?_⟩
 .have h5:=f.at i.toNat;refine au (λ(y:zl)=>y.1=b/\y.2.1=i/\y.2.2.2.1=l/\0<=y.2.2.1/\y.2.2.1<=((l).getD (i).toNat default).atoms.length/\All y.2.2.1 (λj=>¬b<=((l).getD (i).toNat default).atoms.getD j.toNat default)) (λy=>(((l).getD (i).toNat default).atoms.length-y.2.2.1).toNat) ⟨rfl,rfl,rfl,by simp,by simp,All.zero⟩ ?_;rintro⟨(o:Int),(p:Int),(j:Int),(s:List aj),⟨⟩⟩ hI;dsimp only at hI ⊢;obtain⟨rfl,rfl,rfl,r,u,k⟩:=hI;simp (disch:=omega) only [RR];refine⟨ah,ah,λm=>⟨ah,ah,ah,ah,λc=> ?_,λc=>⟨⟨ah,ah,k.snoc c⟩,ah⟩⟩,λm=>⟨⟨ah,ah,d.snoc (k.le ah)⟩,ah⟩⟩;rw [aV (λh=>h p q g j r m c)]
 .rw [aL (show bg l b from d.le ah)]
theorem amV{p4 f4}(r:Y7 p4 f4)(a b:List aj)(o:Sh a):Vr.F (p4,f4,()) (a,b,()) (λy=>y=(iV a b,())):=by
 have n:=o.1;dsimp only [Vr,gm];simp (disch:=omega) only [RR];refine⟨λh=>⟨λg=> ?_,λg=> ?_⟩,λh=> ?_⟩
 .rw [show iV a b= -1 by(have e:iJ a.length b.length= -1:=by unfold iJ;rw [if_pos g]);unfold iV;rw [e];rfl]
 .rw [show iV a b=1 by(have e:iJ a.length b.length=1:=by unfold iJ;rw [if_neg g,if_pos ah]);unfold iV;rw [e];rfl]
 have x:a.length=b.length:=by omega
 have p:iV a b=C8 a b:=by unfold iV;rw [jP.2 ah,if_neg (by simp)]
 refine au (λ(y:ql)=>y.2.1=a/\y.2.2.1=b/\0<=y.1/\y.1<=a.length/\iV a b=C8 (a.drop y.1.toNat) (b.drop y.1.toNat)) (λy=>(a.length-y.1).toNat) ⟨rfl,rfl,by simp,by simp,by simpa using p⟩ ?_;rintro⟨(i:Int),(l:List aj),(k:List aj),⟨⟩⟩ hI;dsimp only at hI ⊢;obtain⟨rfl,rfl,g,t,f⟩:=hI;simp (disch:=omega) only [RR,r _ _ (o.at _)];refine⟨λq=> ?_,λq=> ?_⟩
 .have e:=C9 l k i.toNat ah ah;rw [getD_lt ah,getD_lt ah];generalize s:l[i.toNat]=u at e ⊢;generalize w:k[i.toNat]=v at e ⊢;have c:MG u v=if fC u.atoms v.atoms≠0 then fC u.atoms v.atoms else iJ u.bH v.bH:=rfl
  refine⟨ah,ah,ah,ah,λd=> ?_,λd=>⟨ah,ah,ah,ah,λm=>⟨ah,ah,ah,ah,λj=> ?_,λj=> ?_⟩,λm=>⟨⟨ah,ah,?_⟩,ah⟩⟩⟩
  .rw [if_pos d]at c;rw [f,e,c,if_pos d]
  .rw [if_neg (by simpa using d),show iJ u.bH v.bH= -1 by unfold iJ;rw [if_pos j]]at c;rw [f,e,c];rfl
  .rw [if_neg (by simpa using d),show iJ u.bH v.bH=1 by unfold iJ;rw [if_neg j,if_pos ah]]at c;rw [f,e,c];rfl
  .rw [if_neg (by simpa using d),jP.2 m]at c;rw [f,e,c,show(i+1).toNat=i.toNat+1 by omega];rfl
 .rw [f,drop_eq_nil_of_le ah];rfl
def amW(a:Atom):Vo.F () (a,()) (λy=>y=(bp (a.x=[]/\a.y=[]),())):=by
 dsimp only [Vo,gm];simp (disch:=omega) only [RR];refine congrArg (λb=>(b,())) ?_;rw [Bool.eq_iff_iff,aH,Bool.and_eq_true,decide_eq_true_eq,decide_eq_true_eq];constructor
 .rintro⟨h1,h2⟩;exact⟨eq_nil_of_length_eq_zero ah,eq_nil_of_length_eq_zero ah⟩
 .rintro⟨h1,h2⟩;rw [h1,h2];exact⟨rfl,rfl⟩
def amX{p1 f1 p4 f4 p3 f3}{i:avO->Bool}{e:avO->mQ}(q:Y1 p1 f1)(m:Y11 p4 f4)(k:Y6 p3 f3)(r:∀a,i (a,())=true/\e (a,())=(bp (a.x=[]/\a.y=[]),()))(a:Atom)(n:Int)(p:ShA a):
  Vq.F (p1,f1,p4,f4,p3,f3,i,e,()) (a,n,()) (λy=>y=(bp (jG a n),())):=by
 obtain⟨l,f⟩:=p;dsimp only [Vq,gm];simp (disch:=omega) only [RR,q,r,k a.x n l,k a.y n f,m a.x l,m a.y f];unfold jG;have E:∀(b:Bool) (P:Prop),(b=true↔P)->(b,())=(bp P,()):=λb P h=>by
  rw [show b=bp P from Bool.eq_iff_iff.2 (h.trans aH.symm)]
 have T:∀ {P:Prop},¬P->(false,())=(bp P,()):=λh=>by rw [aV h]
 refine⟨λh=>E _ _ ?_,λh=>⟨λd=>⟨λ_=>E _ _ ?_,λo=>absurd d o⟩,λd=>⟨λj=>E _ _ ?_,λj=>⟨λc=>E _ _ ?_,λc=>T ?_⟩⟩⟩⟩
 .rw [if_neg ah,Bool.and_eq_true,bD,aH];constructor
  .rintro⟨g1,g2⟩;exact⟨g2,Or.inl ⟨h,g1⟩⟩
  .rintro⟨g2,⟨_,g1⟩ | ⟨g3,g1⟩⟩
   .exact⟨g1,g2⟩
   .omega
 .rw [if_neg ah,Bool.and_eq_true,bD,aH];constructor
  .rintro⟨g1,g2⟩;exact⟨g2,Or.inr ⟨Or.inl d,g1⟩⟩
  .rintro⟨g2,⟨_,g1⟩ | ⟨g3,g1⟩⟩
   .omega
   .exact⟨g1,g2⟩
 .rw [if_neg ah,Bool.and_eq_true,bD,aH];constructor
  .rintro⟨g1,g2⟩;exact⟨g2,Or.inr ⟨Or.inr j,g1⟩⟩
  .rintro⟨g2,⟨_,g1⟩ | ⟨g3,g1⟩⟩
   .omega
   .exact⟨g1,g2⟩
 .rw [if_pos c];simp only [Bool.and_eq_true,bD,aH,and_assoc]
 .rw [if_neg c];rintro⟨_,⟨g,_⟩ | ⟨g,_⟩⟩<;>omega
def amY{p1 f1}(d:Y8 p1 f1)(a b:Atom)(c:ShA a):
  Vt.F (p1,f1,()) (a,b,()) (λy=>y=(uQ a b,())):=by
 dsimp only [Vt,gm];simp (disch:=omega) only [RR,d a.x b.x c.1,d a.y b.y c.2];rfl
def ae9(G:Int->Prop):∀n:Nat,∃r,Idx n G r
 | 0=>⟨-1,Or.inl ⟨rfl,All.zero⟩⟩
 | n+1=>by
  obtain⟨r,h⟩:=ae9 G n;rcases h with⟨b,a⟩ | ⟨b,a,d,c⟩
  .by_cases g:G n
   .exact⟨n,Or.inr ⟨ah,ah,g,a⟩⟩
   .exact⟨-1,Or.inl ⟨rfl,by have:=a.snoc g;exact this.le ah⟩⟩
  .exact⟨r,Or.inr ⟨b,ah,d,c⟩⟩
def Xr(G:Int->Prop)(n:Nat):Idx n G (idxOf n G):=by
 obtain⟨r,h⟩:=ae9 G n;rw [<-h.eq];exact h
def kR(t:List Atom)(a:Atom):Idx t.length (λi=>a=t.getD i.toNat default) (uR t a):=by
 have:=Xr (λi=>uQ a (t.getD i.toNat default)=true) t.length;simp only [oZ]at this;unfold uR;simp only [oZ];exact this
def o7{t:List Atom}:aI t↔All t.length (λi=>jG (t.getD i.toNat default) i/\All i (λj=>¬t.getD i.toNat default=t.getD j.toNat default))/\t.length<=200:=by
 unfold aI;refine and_congr ⟨λh i b a=>⟨(h i b a).1,?_⟩,λh i b a=>⟨(h i b a).1,?_⟩⟩ Iff.rfl
 .have:=kR t (t.getD i.toNat default);rw [(h i b a).2]at this;rcases this with⟨c,_⟩ | ⟨_,_,_,g⟩
  .omega
  .exact g
 .exact((kR t (t.getD i.toNat default)).uniq (Or.inr ⟨b,a,rfl,(h i b a).2⟩))
def amZ{p1 f1 p2 f2}(r:Y18 p1 f1)(q:Y15 p2 f2)(a:List Atom)(d:ShT a):
  Vu.F (p1,f1,p2,f2,()) (a,()) (λy=>y=(bp (aI a),())):=by
 have m:=d.1;dsimp only [Vu,gm];simp (disch:=omega) only [RR];refine⟨λh=> ?_,λh=> ?_⟩
 .rw [aV (λk=>by have:=k.2;omega)]
 refine au (λ(y:Int×l8)=>y.2.1=a/\0<=y.1/\y.1<=a.length/\All y.1 (λi=>jG ((a).getD (i).toNat default) i/\All i (λj=>¬((a).getD (i).toNat default)=((a).getD (j).toNat default)))) (λy=>(a.length-y.1).toNat) ⟨rfl,by simp,by simp,All.zero⟩ ?_;rintro⟨(i:Int),(l:List Atom),⟨⟩⟩ hI;dsimp only at hI ⊢;obtain⟨rfl,n,k,g⟩:=hI;simp (disch:=omega) only [RR,r _ _ (d.at _),aH,iE];refine⟨λf=>⟨ah,ah,λc=> ?_,λc=> ?_⟩,λf=> ?_⟩
 .rw [aV (λh=>c (h.1 i n f).1)]
 .refine au (λ(y:Int×Int×l8)=>y.1=i/\y.2.2.1=l/\0<=y.2.1/\y.2.1<=i/\All y.2.1 (λj=>¬((l).getD (i).toNat default)=((l).getD (j).toNat default))) (λy=>(i-y.2.1).toNat) ⟨rfl,rfl,by simp,by simp;omega,All.zero⟩ ?_;rintro⟨(s:Int),(j:Int),(u:List Atom),⟨⟩⟩ hI;dsimp only at hI ⊢;obtain⟨rfl,rfl,t,v,o⟩:=hI;simp (disch:=omega) only [RR,q _ _ (d.at _)];refine⟨λp=>⟨ah,ah,ah,ah,λb=> ?_,λb=>⟨⟨ah,ah,o.snoc ?_⟩,ah⟩⟩,λp=>⟨⟨ah,ah,g.snoc ⟨c,o.le ah⟩⟩,ah⟩⟩
  .rw [aV (λh=>((o7.1 h).1 s n f).2 j t p (oZ.1 b).symm)]
  .intro e;rw [oZ.2 e.symm]at b;cases b
 .rw [aL (o7.2 ⟨g.le ah,ah⟩)]
def am0{p1 f1 p2 f2}(k:Y9 p1 f1)(j:Y10 p2 f2)(d a b:Int):
  Ta.F (p2,f2,p1,f1,()) (d,a,b,()) (λy=>y=(wdo d a b,())):=by
 dsimp only [Ta,gm];simp (disch:=omega) only [RR,k,j,MH,Xq,bD,jF];by_cases c:(0<=a/\a<=65535)/\(0<=b/\b<=65535)
 .have hm:0<=a*b/\a*b<=65535*65535:=⟨Int.mul_nonneg c.1.1 c.2.1,Int.mul_le_mul c.1.2 c.2.2 c.2.1 ah⟩;rw [w64 (x:=a+b) ah ah,w64 (x:=a-b) ah ah,w64 (x:=a*b) ah ah];unfold wdo;rw [if_pos c];refine⟨λh=>absurd h ah,λ_=>⟨λh=> ?_,λh=>⟨λg=> ?_,λg=>⟨λe=> ?_,λe=>⟨λi=> ?_,λi=>⟨λf=> ?_,λf=> ?_⟩⟩⟩⟩⟩⟩<;>(subst_vars;first | rfl | simp only [if_true,if_false, *])
 .refine⟨λh=> ?_,λh=>absurd h ?_⟩
  .unfold wdo;rw [if_neg c]
  .exact c
theorem am1{p1 f1}(e:Y11 p1 f1)(a:List aj)(d:Sh a):
  VJ.F (p1,f1,()) (a,()) (λy=>y=((dw a).1,(dw a).2,())):=by
 dsimp only [VJ,gm];simp (disch:=omega) only [RR,e a d];unfold dw;have z:Int.toNat 0=0:=rfl;rw [z];refine⟨λh=> ?_,λh=>⟨λc=> ?_,λc=>⟨ah,ah,λb=> ?_,λb=>⟨ah,ah,?_⟩⟩⟩⟩
 .rw [if_neg (by simpa using h)]
 .rw [if_pos h,if_pos ah]
 .rw [if_pos h,if_neg ah,if_neg ah]
 .rw [if_pos h,if_neg ah,if_pos ah]
def am2(a:List aj)(d:Sh a):Vv.F () (a,()) (λy=>y=(a,())):=by
 have c:=d.1;dsimp only [Vv,gm];simp (disch:=omega) only [RR];refine au (λ(y:List aj×Int×bn)=>y.1=a/\y.2.2.1=a.take y.2.1.toNat/\0<=y.2.1/\y.2.1<=a.length) (λy=>(a.length-y.2.1).toNat) ⟨rfl,by simp,by simp,by simp⟩ ?_;rintro⟨(l:List aj),(i:Int),(o:List aj),⟨⟩⟩ hI;dsimp only at hI ⊢;obtain⟨rfl,rfl,e,f⟩:=hI;have g:=d.at i.toNat;have b:=length_take_le' i.toNat l;simp (disch:=omega) only [RR];simp only [length_nil,nil_append,length_cons];refine⟨λb=>⟨ah,ah,ah,ah,Or.inr ah,ah,ah,⟨bq e b rfl,ah,ah⟩,ah⟩,λb=>by rw [take_of_length_le ah]⟩
def MO(l:List aj):Prop:=l.length<=12/\∀m∈l,m.atoms.length<=4
def am3{p1 f1}(n:Y13 p1 f1)(a:List aj)(g:Sh a):
  VD.F (p1,f1,()) (a,()) (λy=>y=(bp (MO a),if bp (MO a)then a else [],())):=by
 have c:=g.1;dsimp only [VD,gm];simp (disch:=omega) only [RR];refine⟨λh=> ?_,λh=> ?_⟩
 .rw [aV (λb=>by have:=b.1;omega)];rfl
 refine au (λ(y:List aj×dY)=>y.1=a/\0<=y.2.1/\y.2.1<=a.length/\All y.2.1 (λi=>((a).getD (i).toNat default).atoms.length<=4)) (λy=>(a.length-y.2.1).toNat) ⟨rfl,by simp,by simp,All.zero⟩ ?_;rintro⟨(l:List aj),(i:Int),⟨⟩⟩ hI;dsimp only at hI ⊢;obtain⟨rfl,k,b,f⟩:=hI;simp (disch:=omega) only [RR,n l g];refine⟨λe=>⟨ah,ah,λj=> ?_,λj=>⟨⟨ah,ah,f.snoc ah⟩,ah⟩⟩,λe=> ?_⟩
 .rw [aV (λh=>by have:=h.2 _ (dh (d:=default) k e);omega)];rfl
 .rw [aL (show MO l from⟨ah,oM (d:=default) (G:=λm:aj=>m.atoms.length<=4).1 (f.le ah)⟩)];rfl
def am4{p1 f1}(c:Y13 p1 f1)(a:Atom)(b:ShA a):
  Vw.F (p1,f1,()) (a,()) (λy=>y=(a.kind,a.k,a.x,a.y,())):=by
 dsimp only [Vw,gm];simp (disch:=omega) only [RR,c a.x b.1,c a.y b.2]
abbrev Y34(c : Atom × Unit -> Bool)(b : Atom × Unit -> Int × Int × List aj × List aj × Unit) : Prop := ∀ a, ShA a -> c (a, ()) = true /\ b (a, ()) = (a.kind, a.k, a.x, a.y, ())
def am5{p1 f1}(f:Y34 p1 f1)(a:List Atom)(d:ShT a):
  Vx.F (p1,f1,()) (a,()) (λy=>y=(a,())):=by
 have b:=d.1;dsimp only [Vx,gm];simp (disch:=omega) only [RR];refine au (λ(y:Int×List Atom×l8)=>y.2.1=a/\y.2.2.1=a.take y.1.toNat/\0<=y.1/\y.1<=a.length) (λy=>(a.length-y.1).toNat) ⟨rfl,by simp,by simp,by simp⟩ ?_;rintro⟨(i:Int),(l:List Atom),(o:List Atom),⟨⟩⟩ hI;dsimp only at hI ⊢;obtain⟨rfl,rfl,e,h⟩:=hI;simp (disch:=omega) only [RR,f _ (d.at _)];have g:=length_take_le' i.toNat l;refine⟨λc=>⟨ah,ah,?_,⟨bq e c rfl,ah,ah⟩,ah⟩,λc=>by rw [take_of_length_le ah]⟩;simp only [length_cons,length_nil];omega
def yE{p:List aj}{n m:Int}(h:bg p n)(c:n<=m):bg p m:=dx.2 λa b k hk=>by have:=dx.1 h a b k hk;omega
def afa{a:Atom}{n m:Int}(h:jG a n)(b:n<=m):jG a m:=by
 unfold jG at h ⊢;split
 .rename_i h3;rw [if_pos h3]at h;exact⟨h.1,h.2.1,h.2.2.1,yE h.2.2.2.1 b,yE h.2.2.2.2 b⟩
 .rename_i h3;rw [if_neg h3]at h;exact h
def am6{p1 f1 p2 f2 p3 f3}(r:Y18 p1 f1)(q:Y15 p2 f2)(u:Y34 p3 f3)(a:Atom)(t:List Atom)(n:ShA a)(j:ShT t)(f:aI t):Vy.F (p1,f1,p2,f2,p3,f3,()) (a,t,()) (λy=>y=((bC t a).2,(bC t a).1,())):=by
 have m:=j.1;dsimp only [Vy,gm];simp (disch:=omega) only [RR,r _ _ n,aH,iE];have b:=kR t a;refine⟨λh=> ?_,λh=> ?_⟩
 .have:uR t a= -1:=by
   rcases b with⟨g,_⟩ | ⟨w,s,v,_⟩
   .exact g
   .exfalso;apply h;have:=(f.1 _ w s).1;rw [<-v]at this;exact afa this ah
  unfold bC;rw [this,if_neg ah,if_pos (Or.inl h)]
 refine au (λ(y:Int×r9)=>y.2.1=t/\y.2.2.1=a/\0<=y.1/\y.1<=t.length/\All y.1 (λi=>¬a=t.getD i.toNat default)) (λy=>(t.length-y.1).toNat) ⟨rfl,rfl,by simp,by simp,All.zero⟩ ?_;rintro⟨(i:Int),(l:List Atom),(k:Atom),⟨⟩⟩ hI;dsimp only at hI ⊢;obtain⟨rfl,rfl,p,x,d⟩:=hI;simp (disch:=omega) only [RR,q _ _ (j.at _),u _ n];refine⟨λo=>⟨ah,ah,ah,ah,λc=> ?_,λc=>⟨⟨ah,ah,d.snoc ?_⟩,ah⟩⟩,λo=> ?_⟩
 .have e:=(oZ.1 c).symm;have:uR l k=i:=b.uniq (Or.inr ⟨p,o,e,d⟩);unfold bC;rw [this,if_pos p]
 .intro e;rw [oZ.2 e.symm]at c;cases c
 .have:uR l k= -1:=b.uniq (Or.inl ⟨rfl,d.le ah⟩);unfold bC;rw [this,if_neg ah];refine⟨λc=> ?_,λc=>⟨?_,?_⟩⟩
  .rw [if_pos (Or.inr ah)]
  .simp only [length_cons,length_nil];omega
  .rw [if_neg (by rintro(g | g);exact g h;omega),length_append];rw [w64 (by simp only [length_cons,length_nil];omega) (by simp only [length_cons,length_nil];omega)];simp only [length_cons,length_nil];rw [show(((l.length+(0+1):Nat):Int)-1)=l.length by omega]
def DY(a n:Int)(y:List aj):List aj×Bool:=if a=4/\n=0 then([],true)else if(a=4/\n=65535)\/(a=5/\n=0)then(y,true)else([],false)
def am7{p1 f1}(g:Y13 p1 f1)(a n:Int)(y:List aj)(e:Sh y):
  VK.F (p1,f1,()) (a,n,y,()) (λz=>z=((DY a n y).2,(DY a n y).1,())):=by
 dsimp only [VK,gm];simp (disch:=omega) only [RR,g y e];unfold DY;by_cases f:a=4<;>by_cases b:n=0<;>by_cases d:n=65535<;>by_cases c:a=5<;>simp [f,b,d,c]<;>omega
def ZK(a:Int)(x y:List aj):G6 a x y=if(dw x).2&& (dw y).2 then(aW (wdo a (dw x).1 (dw y).1),true)
  else if iV x y=0 then(if a=4 then(x,true)else([],true))else if(dw x).2 then DY a (dw x).1 y else if(dw y).2 then DY a (dw y).1 x else([],false):=by
 unfold G6 DY;by_cases c:iV x y=0<;>by_cases b:a=4<;>simp [c,b]
def am8{p1 f1 p2 f2 p3 f3 p4 f4 p7 f7}{h:eB->Bool}{g:eB->Bool×bn}(l:Y8 p1 f1)(j:Y13 p2 f2)(p:Y24 p3 f3)(s:Y22 p4 f4)(d:Y27 p7 f7)(f:∀a n y,Sh y->h (a,n,y,())=true/\g (a,n,y,())=((DY a n y).2,(DY a n y).1,()))(a:Int)(x y:List aj)(b:Sh x)(c:Sh y):VL.F (p1,f1,p2,f2,p3,f3,p4,f4,p7,f7,h,g,()) (a,x,y,()) (λz=>z=((G6 a x y).2,(G6 a x y).1,())):=by
 dsimp only [VL,gm];simp (disch:=omega) only [RR,l x y b,j x b,p,s,d x b,d y c,f a _ y c,f a _ x b];rw [ZK];generalize dw x=r;generalize dw y=i;obtain⟨n,q⟩:=r;obtain⟨m,k⟩:=i;dsimp only;by_cases e:iV x y=0<;>by_cases o:a=4<;>cases q<;>cases k<;>simp [e,o]
noncomputable def G7 (a:Int) (x y:List aj):List aj×Bool:=
 if a=1 then((pV x y).2,(pV x y).1)else if a=2 then((pV x (kg y 65535)).2,(pV x (kg y 65535)).1)else if a=3 then((qA x y).2,(qA x y).1)else([],false)
def am9{p5 f5 p4 f4 p6 f6}(i:Y23 p5 f5)(f:Y25 p4 f4)(g:Y26 p6 f6)(e:Int)(x y:List aj)(b:Sh x)(d:Sh y):VI.F (p5,f5,p4,f4,p6,f6,()) (e,x,y,()) (λz=>z=((G7 e x y).2,(G7 e x y).1,())):=by
 dsimp only [VI,gm];simp (disch:=omega) only [RR,f x y b d,f x _ b (KV y 65535),i x y b d,g y _ d];unfold G7;refine⟨λh=>by rw [if_pos h],λh=>⟨λa=>by rw [if_neg h,if_pos a],λa=>⟨λc=>by rw [if_neg h,if_neg a,if_pos c],λc=>by rw [if_neg h,if_neg a,if_neg c]⟩⟩⟩
abbrev Y35(c : Atom × List Atom × Unit -> Bool)(b : Atom × List Atom × Unit -> Int × List Atom × Unit) : Prop := ∀ a t, ShA a -> ShT t -> aI t -> c (a, t, ()) = true /\ b (a, t, ()) = ((bC t a).2, (bC t a).1, ())
def ana{p1 f1 p2 f2 p5 f5}{q:ql->Bool}{u:ql->Bool×bn}{w:ql->Bool}{r:ql->Bool×bn}(G:Y28 p1 f1)(B:Y8 p2 f2)(H:∀a x y,Sh x->Sh y->q (a,x,y,())=true/\u (a,x,y,())=((G7 a x y).2,(G7 a x y).1,()))(K:∀a x y,Sh x->Sh y->w (a,x,y,())=true/\r (a,x,y,())=((G6 a x y).2,(G6 a x y).1,()))(v:Y35 p5 f5)(a:Int)(x y:List aj)(t:List Atom)(L:1<=a/\a<=5)(g:Sh x)(i:Sh y)(n:ShT t)(f:aI t):VN.F (p1,f1,p2,f2,q,u,w,r,p5,f5,()) (a,x,y,t,()) (λz=>z=((tDo t a x y).1,(tDo t a x y).2,())):=by
 have A:ShA ⟨4,a,x,y⟩:=⟨g,i⟩;have I:ShA ⟨4,a,y,x⟩:=⟨i,g⟩;dsimp only [VN,gm];simp (disch:=omega) only [RR,G,B x y g,H a x y g i,K a x y g i,v _ _ A n f,v _ _ I n f];have E:(a=4\/a=5)->G6 a x y=jg a x y:=λh=>by unfold jg;rw [if_neg ah,if_neg ah,if_neg ah]
 have D:¬(a=4\/a=5)->G7 a x y=jg a x y:=λh=>by
  unfold jg G7;by_cases e:a=1
  .rw [if_pos e,if_pos e]
  .rw [if_neg e,if_neg e];by_cases d:a=2
   .rw [if_pos d,if_pos d]
   .rw [if_neg d,if_neg d,if_pos ah,if_pos ah]
 unfold tDo;by_cases c:a=4\/a=5
 .rw [E c];generalize bC t ⟨4,a,y,x⟩=m;generalize bC t ⟨4,a,x,y⟩=k;generalize iV x y=o;generalize jg a x y=s;obtain⟨p,b⟩:=s;have C:¬a=2:=by omega
  cases b<;>by_cases d:0<o<;>by_cases j:m.2<0<;>by_cases l:k.2<0<;>simp [c,C,d,j,l]<;>omega
 .rw [D c];generalize bC t ⟨4,a,y,x⟩=m;generalize bC t ⟨4,a,x,y⟩=k;generalize iV x y=o;generalize jg a x y=s;obtain⟨p,b⟩:=s;obtain⟨J,F⟩:=not_or.1 c;cases b<;>by_cases e:a=2<;>by_cases d:0<o<;>by_cases j:m.2<0<;>by_cases l:k.2<0<;>simp [J,F,e,d,j,l]
structure Plus(l:List aj)(m:aj)(o:List aj):Prop where
 nf:Nf o
 cf:∀k,cf o k=F.cf (l++ [m]) k%65536
 len:o.length<=l.length+1
def anb{p1 f1 p2 f2}(U1:Y7 p1 f1)(Z:Y10 p2 f2)(l:List aj)(m:aj)(hl:l.length<1000000000)(hn:Nf l)(hm:1<=m.bH/\m.bH<=65535)(N:m.atoms.length<1000000000):VB.F (p1,f1,p2,f2,()) (l,m,()) (λy=>Plus l m y.1):=by
  dsimp only [VB,gm]
  refine au (λ(y:List aj×Bool×Int×aj×bn)=>y.1=l/\y.2.2.2.1=m/\0<=y.2.2.1/\y.2.2.1<=l.length/\
      ((y.2.1=false/\y.2.2.2.2.1=l.take y.2.2.1.toNat/\∀x∈l.take y.2.2.1.toNat,lt x m)\/
       (y.2.1=true/\Nf y.2.2.2.2.1/\(∀k,cf y.2.2.2.2.1 k=cf (l.take y.2.2.1.toNat++ [m]) k%65536)/\(y.2.2.2.2.1.length:Int)<=y.2.2.1+1/\(y.2.2.1<l.length->lt m ((l).getD (y.2.2.1).toNat default)/\∀x∈y.2.2.2.2.1,lt x ((l).getD (y.2.2.1).toNat default))))) (λy=>(l.length-y.2.2.1).toNat)
    ⟨rfl,rfl,by simp,by simp,Or.inl ⟨rfl,by simp,by simp⟩⟩ ?_
  rintro⟨(b:List aj),(dn:Bool),(i:Int),(f:aj),(o:List aj),⟨⟩⟩ hI;dsimp only at hI ⊢;obtain⟨rfl,rfl,W,h2,M⟩:=hI;simp (disch:=omega) only [RR,U1 _ _ N,Z];have B:=hn.ss;have j:i+1<b.length->lt ((b).getD (i).toNat default) ((b).getD (i+1).toNat default):=λh=>by
    have:=(dD (d:=default) (R:=lt) fH).1 B (i+1) ah h;rw [show i+1-1=i by omega]at this;exact this
  have I:i<b.length->b.take (i+1).toNat=b.take i.toNat++ [((b).getD (i).toNat default)]:=λh=>(bq W h rfl).symm
  have t:i<b.length->∀x∈b.take i.toNat,lt x ((b).getD (i).toNat default):=λh x c=>by
    have:=B;rw [<-take_append_drop i.toNat b,pairwise_append]at this;refine this.2.2 x c _ ?_;rw [getD_lt ah,drop_eq_getElem_cons (show i.toNat<b.length by omega)];exact mem_cons_self
  have a1:=length_take_le' i.toNat b;have a0:=length_take_le i.toNat b;have co:i<b.length->1<=((b).getD (i).toNat default).bH/\((b).getD (i).toNat default).bH<=65535:=λh=>hn.co _ (dh W h)
  have p:Nf (b.take i.toNat):=⟨Pairwise.sublist (take_sublist _ _) B,λx c=>hn.co x (mem_of_mem_take c)⟩;have afb:∀ {a:List aj} {x:aj},Nf a->(∀y∈a,lt y x)->1<=x.bH/\x.bH<=65535->Nf (a++ [x]):=λ{a x} K Q X=>⟨by
    rw [pairwise_append];exact⟨K.ss,pairwise_singleton _ _,λy C z Y=>by rw [mem_singleton]at Y;subst Y;exact Q y C⟩,λy C=>by
    rw [mem_append,mem_singleton]at C;rcases C with C | rfl
    · exact K.co y C
    · exact X⟩
  have E:∀(x:List aj) (y:aj),(x++ [y]).length=x.length+1:=λx y=>by rw [length_append];rfl
  have fin:∀o,i=b.length->Nf o->(∀k,cf o k=cf (b.take i.toNat++ [f]) k%65536)->(o.length:Int)<=i+1->Plus b f o:=λo e K Q X=>⟨K,λk=>by rw [Q k,take_of_length_le ah],ah⟩
  by_cases q:i<b.length
  · have j:=j;have I:=I q;have t:=t q;have co:=co q;rw [I];have hv:∀ {P:Prop},P->(∀x,x=((b).getD (i).toNat default)->P)->P:=λh _=>h
    generalize ((b).getD (i).toNat default)=v at j I t co M ⊢;have r:∀k,cf (b.take i.toNat++ [v]++ [f]) k=cf (b.take i.toNat) k+(if v.atoms=k then v.bH else 0)+(if f.atoms=k then f.bH else 0):=λk=>by
      rw [bX,bX,bV,bV,iW];simp only [Int.add_zero]
    have F:∀k,cf (b.take i.toNat++ [f]) k=cf (b.take i.toNat) k+(if f.atoms=k then f.bH else 0):=λk=>by
      rw [bX,bV,iW,Int.add_zero]
    rcases M with⟨rfl,rfl,u⟩ | ⟨rfl,u,L,U,S⟩
    ·
      simp (disch:=omega) only [RR,decide_true,Bool.not_false,Bool.true_and,decide_eq_true_eq,q];by_cases D:fC f.atoms v.atoms<0
      · have w:¬fC f.atoms v.atoms=0:=by omega
        simp (disch:=omega) only [RR,D,w];have J:=afb p u hm;have G:∀x∈b.take i.toNat++ [f],lt x v:=λx c=>by
          rw [mem_append,mem_singleton]at c;rcases c with c | rfl
          · exact t x c
          · exact D
        have s:=afb J G co;refine⟨ah,by rw [show([f]:List aj).length=1 from rfl];omega,ah,by rw [E,show([v]:List aj).length=1 from rfl];omega,⟨ah,ah,Or.inr ⟨s,λk=> ?_,by rw [E,E];omega,λh=>⟨fH D (j h),λx c=> ?_⟩⟩⟩,ah⟩
        · have A:=r k;have n:=s.bnd k;have O:cf (b.take i.toNat++ [f]++ [v]) k=cf (b.take i.toNat++ [v]++ [f]) k:=by rw [A,bX,F,bV,iW];omega
          rw [<-O];omega
        · rw [mem_append,mem_singleton]at c;rcases c with c | rfl
          · exact fH (G x c) (j h)
          · exact j h
      · by_cases w:fC f.atoms v.atoms=0
        · have ev:=lI.1 w;simp (disch:=omega) only [RR,D,w,append_nil];have T:cf (b.take i.toNat) v.atoms=0:=jv λx c=>(t x c).ne
          refine⟨ah,λh=>absurd h ah,λ_=>⟨ah,λH=> ?_,λH=> ?_⟩⟩
          · have s:=afb (x:=⟨(v.bH+f.bH)%65536,v.atoms⟩) p t ⟨by dsimp only;omega,by dsimp only;omega⟩;refine⟨ah,by simp only [length_cons,length_nil];omega,⟨ah,ah,Or.inr ⟨s,λk=> ?_,by rw [E];omega,λh=>⟨?_,λx c=> ?_⟩⟩⟩,ah⟩
            · have A:=r k;have n:=s.bnd k;rw [A];rw [bX,bV,iW]at n ⊢;dsimp only at n ⊢;by_cases g:v.atoms=k
              · rw [if_pos g]at n ⊢;rw [if_pos g,if_pos (ev.trans g)];rw [<-g,T]at n ⊢;omega
              · rw [if_neg g]at n ⊢;rw [if_neg g,if_neg (λe=>g (ev.symm.trans e))];omega
            · have:=j h;unfold lt at this ⊢;rw [ev];exact this
            · rw [mem_append,mem_singleton]at c;rcases c with c | rfl
              · exact fH (t x c) (j h)
              · exact j h
          · refine⟨⟨ah,ah,Or.inr ⟨p,λk=> ?_,ah,λh=>⟨?_,λx c=>fH (t x c) (j h)⟩⟩⟩,ah⟩
            · have A:=r k;have n:=p.bnd k;rw [A];by_cases g:v.atoms=k
              · rw [if_pos g,if_pos (ev.trans g),<-g,T];omega
              · rw [if_neg g,if_neg (λe=>g (ev.symm.trans e))];omega
            · have:=j h;unfold lt at this ⊢;rw [ev];exact this
        · simp (disch:=omega) only [RR,D,w];refine⟨ah,ah,by simp only [length_cons,length_nil];omega,⟨ah,ah,Or.inl (λx c=> ?_)⟩,ah⟩;rw [mem_append,mem_singleton]at c;rcases c with c | rfl
          · exact u x c
          · unfold lt;rw [sK];omega
    · have H:=(S q).1;have G:=(S q).2;have D:fC f.atoms v.atoms<0:=H;have w:¬fC f.atoms v.atoms=0:=by omega
      simp (disch:=omega) only [RR,decide_true,Bool.not_true,Bool.false_and,decide_eq_true_eq,q,w];have s:=afb u G co;refine⟨ah,λh=>h.1.elim,ah,by simp only [length_cons,length_nil];omega,⟨ah,ah,Or.inr ⟨s,λk=> ?_,by rw [E];omega,λh=>⟨fH H (j h),λx c=> ?_⟩⟩⟩,ah⟩
      · have A:=r k;have n:=s.bnd k;have O:=L k;rw [F]at O;rw [bX,bV,iW]at n ⊢;rw [A];by_cases g:v.atoms=k
        · rw [if_pos g]at n ⊢;omega
        · rw [if_neg g]at n ⊢;omega
      · rw [mem_append,mem_singleton]at c;rcases c with c | rfl
        · exact fH (G x c) (j h)
        · exact j h
  · have V:i=b.length:=by omega
    rcases M with⟨rfl,rfl,u⟩ | ⟨rfl,u,L,U,S⟩
    · simp (disch:=omega) only [RR,decide_true,Bool.not_false,Bool.true_and,decide_eq_true_eq,q];have J:=afb p u hm;refine⟨by simp only [length_cons,length_nil];omega,fin _ V J (λk=> ?_) (by rw [E];omega)⟩;have n:=J.bnd k;omega
    · simp (disch:=omega) only [RR,decide_true,Bool.not_true,Bool.false_and,decide_eq_true_eq,q];exact fin _ V u L U
def Ag{a o:List Int}(h:o.Pairwise (· <= ·))(f:o.Perm a):o=mR a:=by
 refine Perm.eq_of_pairwise (le:=λx y:Int=>x<=y) (λa b _ _ e d=>Int.le_antisymm e d) h ?_ (f.trans (mergeSort_perm a _).symm);have:=pairwise_mergeSort (le:=λx y:Int=>decide (x<=y)) (λa b c e d=>by simp at*;omega) (λa b=>by simp;omega) a;exact this.imp (λh=>by simpa using h)
def ane(a b:List Int)(Y:a.length<100000000)(W:b.length<100000000)(C:a.Pairwise (· <= ·))(S:b.Pairwise (· <= ·)):
  VG.F () (a,b,()) (λy=>y=(mR (a++b),())):=by
 dsimp only [VG,gm];have E:=(dD (d:=default) (R:=λa b:Int=>a<=b) (λj l=>Int.le_trans j l)).1 C;have D:=(dD (d:=default) (R:=λa b:Int=>a<=b) (λj l=>Int.le_trans j l)).1 S
 let I:List Int->Int->Int->Prop:=λo i k=>0<=i/\i<=a.length/\0<=k/\k<=b.length/\o.Pairwise (· <= ·)/\o.Perm (a.take i.toNat++b.take k.toNat)/\(i<a.length->∀x∈o,x<=((a).getD (i).toNat default))/\(k<b.length->∀x∈o,x<=((b).getD (k).toNat default))
 have J:∀ {o:List Int} {y:Int},o.Pairwise (· <= ·)->(∀x∈o,x<=y)->(o++ [y]).Pairwise (· <= ·):=λ{o y} s B=>by
  rw [pairwise_append];exact⟨s,pairwise_singleton _ _,λx c z L=>by rw [mem_singleton]at L;subst L;exact B x c⟩
 have K:∀o i k,I o i k->(o.length:Int)=i+k:=λo i k ⟨j,l,u,v,_,n,_⟩=>by
  have:=n.length_eq;rw [length_append,length_take,length_take]at this;omega
 have F:∀o i k,I o i k->i<a.length->(k<b.length->((a).getD (i).toNat default)<=((b).getD (k).toNat default))->I (o++ [((a).getD (i).toNat default)]) (i+1) k:=by
  rintro o i k ⟨j,l,u,v,n,q,r,t⟩ m hk;refine⟨ah,ah,u,v,J n (r m),?_,λg x c=> ?_,λg x c=> ?_⟩
  .rw [<-bq (d:=default) j m rfl];refine(q.append_right _).trans ?_;rw [append_assoc,append_assoc];exact(perm_append_comm).append_left _
  .have:=E (i+1) ah g;rw [show i+1-1=i by omega]at this;rw [mem_append,mem_singleton]at c;rcases c with c | rfl
   .exact Int.le_trans (r m x c) this
   .exact this
  .rw [mem_append,mem_singleton]at c;rcases c with c | rfl
   .exact t g x c
   .exact hk g
 have w:∀o i k,I o i k->k<b.length->(i<a.length->((b).getD (k).toNat default)<=((a).getD (i).toNat default))->I (o++ [((b).getD (k).toNat default)]) i (k+1):=by
  rintro o i k ⟨j,l,u,v,n,q,r,t⟩ hk m;refine⟨j,l,ah,ah,J n (t hk),?_,λg x c=> ?_,λg x c=> ?_⟩
  .rw [<-bq (d:=default) u hk rfl,<-append_assoc];exact q.append_right _
  .rw [mem_append,mem_singleton]at c;rcases c with c | rfl
   .exact r g x c
   .exact m g
  .have:=D (k+1) ah g;rw [show k+1-1=k by omega]at this;rw [mem_append,mem_singleton]at c;rcases c with c | rfl
   .exact Int.le_trans (t hk x c) this
   .exact this
 refine au (λ(y:List Int×List Int×Bp)=>y.1=a/\y.2.1=b/\I y.2.2.2.2.1 y.2.2.1 y.2.2.2.1) (λy=>(b.length-y.2.2.2.1).toNat)
  ⟨rfl,rfl,by simp,by simp,by simp,by simp,Pairwise.nil,by simp,λ_ x c=>absurd c (by simp),λ_ x c=>absurd c (by simp)⟩ ?_
 rintro⟨(f:List Int),(G:List Int),(i:Int),(k:Int),(o:List Int),⟨⟩⟩ h;dsimp only at h ⊢;obtain⟨rfl,rfl,h⟩:=h;have M:=h.1;have Q:=h.2.1;have P:=h.2.2.1;have N:=h.2.2.2.1;have A:=K _ _ _ h;simp (disch:=omega) only [RR];refine⟨λH=> ?_,λH=> ?_⟩
 .refine au (λ(y:List Int×List Int×Bp)=>y.1=f/\y.2.1=G/\y.2.2.2.1=k/\I y.2.2.2.2.1 y.2.2.1 k) (λy=>(f.length-y.2.2.1).toNat) ⟨rfl,rfl,rfl,h⟩ ?_;rintro⟨(Z:List Int),(X:List Int),(V:Int),(k2:Int),(U:List Int),⟨⟩⟩ e;dsimp only at e ⊢;obtain⟨rfl,rfl,rfl,e⟩:=e;have O:=e.1;have T:=e.2.1;have A:=K _ _ _ e;simp (disch:=omega) only [RR];refine⟨ah,ah,ah,ah,λ⟨s,B⟩=>⟨ah,s,by simp only [length_cons,length_nil];omega,F _ _ _ e s (λ_=>B),ah⟩,λg=>⟨ah,H,by simp only [length_cons,length_nil];omega,w _ _ _ e H (λs=> ?_),ah⟩⟩;rw [decide_eq_true s,Bool.true_and,decide_eq_false_iff_not]at g;omega
 .have e1:drop i.toNat (take ((f.length:Int)).toNat f)=f.drop i.toNat:=by rw [take_of_length_le ah]
  rw [e1];refine⟨ah,ah,ah,by rw [length_drop];omega,?_⟩;obtain⟨j,l,u,v,n,q,r,t⟩:=h;rw [Ag (a:=f++G) (o:=o++f.drop i.toNat)]
  .rw [pairwise_append];refine⟨n,Pairwise.sublist (drop_sublist _ _) C,λx c y p=> ?_⟩;by_cases m:i<f.length
   .refine Int.le_trans (r m x c) ?_;rw [drop_eq_getElem_cons (show i.toNat<f.length by omega)]at p;have hd:=Pairwise.sublist (drop_sublist i.toNat _) C;rw [drop_eq_getElem_cons (show i.toNat<f.length by omega)]at hd;rw [getD_lt (show i.toNat<f.length by omega)];rcases mem_cons.1 p with rfl | p
    .exact Int.le_refl _
    .exact rel_of_pairwise_cons hd p
   .rw [drop_eq_nil_of_le ah]at p;exact absurd p (by simp)
  .rw [take_of_length_le (show G.length<=k.toNat by omega)]at q;refine(q.append_right _).trans ?_;rw [append_assoc];refine((perm_append_comm).append_left _).trans ?_;rw [<-append_assoc,take_append_drop]
variable{p:List aj}
def aQ.nf(h:aQ p):Nf p:=(iF.1 h).1
def aQ.aok(h:aQ p){m:aj}(hm:m∈p):m.atoms.length<=4/\F.aok m.atoms:=(iF.1 h).2.2 m hm
def MQ{l o:List aj}(h:Nf o)(a:∀k,cf o k=cf l k%65536)(b:∀m∈l,aok m.atoms):(bp (MO o),if bp (MO o)then o else [])=((tT l).1,(tT l).2):=by
 rw [aja h a b];by_cases c:MO o
 .rw [aL c,if_pos rfl];dsimp only;rw [decide_eq_true (show o.length<=12/\∀m∈o,m.atoms.length<=4 from c),if_pos (show o.length<=12/\∀m∈o,m.atoms.length<=4 from c)]
 .rw [aV c,if_neg (by simp)];dsimp only;rw [decide_eq_false (show¬(o.length<=12/\∀m∈o,m.atoms.length<=4)from c),if_neg (show¬(o.length<=12/\∀m∈o,m.atoms.length<=4)from c)]
def afc{o l:List aj}(h:Nf o)(c:∀k,cf o k=cf l k%65536)(e:∀m∈l,m.atoms.length<1000000000)(d:o.length<1000000000):Sh o:=⟨d,λm hm=>by
 obtain⟨b,f,a⟩:=h.from c hm;rw [<-a];exact e b f⟩
abbrev Y36(b : List aj × aj × Unit -> Bool)(a : List aj × aj × Unit -> List aj × Unit) : Prop := ∀ (l : List aj) m, l.length < 1000000000 -> Nf l -> 1 <= m.bH /\ m.bH <= 65535 -> m.atoms.length < 1000000000 -> b (l, m, ()) = true /\ Plus l m (a (l, m, ())).1
abbrev Y37(c : List aj × Unit -> Bool)(b : List aj × Unit -> Bool × List aj × Unit) : Prop := ∀ a, Sh a -> c (a, ()) = true /\ b (a, ()) = (bp (MO a), if bp (MO a) then a else [], ())
def anf{p1 f1 p2 f2 p3 f3}(t:Y11 p1 f1)(r:Y36 p2 f2)(x:Y37 p3 f3)(a b:List aj)(s:Sh a)(f:Sh b):VE.F (p1,f1,p2,f2,p3,f3,()) (a,b,()) (λy=>y=((pV a b).1,(pV a b).2,())):=by
 dsimp only [VE,gm];simp (disch:=omega) only [RR,t a s,t b f,aH,iE];unfold pV;refine⟨λh=> ?_,λ⟨c,g⟩=> ?_⟩
 .rw [if_neg];rw [Bool.and_eq_true,aH,aH];rintro⟨A,w⟩;rcases h with h | h
  .exact h A
  .exact h w
 rw [if_pos (by rw [aL c,aL g];rfl)];have C:=c.len;have B:=g.len;have u:∀m∈a++b,F.aok m.atoms/\m.atoms.length<1000000000:=λm hm=>by
  rw [mem_append]at hm;rcases hm with hm | hm
  .exact⟨(c.aok hm).2,s.2 m hm⟩
  .exact⟨(g.aok hm).2,f.2 m hm⟩
 refine au (λ(y:List aj×Int×bn)=>y.2.2.1=b/\0<=y.2.1/\y.2.1<=b.length/\Nf y.1/\(∀k,cf y.1 k=cf (a++b.take y.2.1.toNat) k%65536)/\(y.1.length:Int)<=12+y.2.1) (λy=>(b.length-y.2.1).toNat)
  ⟨rfl,by simp,by simp,c.nf,λk=>by have:=c.nf.bnd k;simp only [Int.toNat_zero,take_zero,append_nil];omega,by simp only;omega⟩ ?_
 rintro⟨(o:List aj),(i:Int),(v:List aj),⟨⟩⟩ hI;dsimp only at hI ⊢;obtain⟨rfl,q,E,e,j,D⟩:=hI;have n:Sh o:=afc e j (λm hm=>(u m (by rw [mem_append]at hm ⊢;exact hm.imp id mem_of_mem_take)).2) ah;simp (disch:=omega) only [RR,x o n];refine⟨λp=> ?_,λp=> ?_⟩
 .have hm:=g.nf.co _ (dh (d:=default) q p);have l:=(r o ((v).getD (i).toNat default) n.1 e hm (f.at _)).2;refine⟨ah,ah,(r o ((v).getD (i).toNat default) n.1 e hm (f.at _)).1,⟨ah,ah,l.nf,λk=> ?_,by have:=l.len;omega⟩,ah⟩;rw [l.cf k,bX,j k,<-bq (d:=default) q p rfl,<-append_assoc,bX (a++_)];omega
 .have:=MQ e (λk=>by rw [j k,take_of_length_le ah]) (λm hm=>(u m hm).1);exact congrArg (λz:Bool×List aj=>(z.1,z.2,())) this
def ang{p1 f1 p0 f0 p2 f2 p3 f3}{p4:Ms->Bool}{f4:Ms->bf}(U1:Y11 p1 f1)(U0:Y10 p0 f0)(Y:Y36 p2 f2)(Z:∀a b:List Int,a.length<100000000->b.length<100000000->a.Pairwise (· <= ·)->b.Pairwise (· <= ·)->p4 (a,b,())=true/\f4 (a,b,())=(mR (a++b),()))(U3:Y37 p3 f3)(a b:List aj)(ha:Sh a)(hb:Sh b):VH.F (p1,f1,p0,f0,p2,f2,p4,f4,p3,f3,()) (a,b,()) (λy=>y=((qA a b).1,(qA a b).2,())):=by
 have C:=λj p=>(U1 j p).1
 have F:=λj p=>(U1 j p).2
 have T:=λj=>(U0 j).1
 have N:=λj=>(U0 j).2
 have I:=λj p r q u s=>(Y j p r q u s).1
 have Q:=λj p r q u s=>(Y j p r q u s).2
 have U:=λj p r q u s=>(Z j p r q u s).1
 have M:=λj p r q u s=>(Z j p r q u s).2
 have P:=λj p=>(U3 j p).1
 have L:=λj p=>(U3 j p).2
 dsimp only [VH,gm];simp (disch:=omega) only [RR,C a ha,F a ha,C b hb,F b hb,aH,iE];unfold qA;refine⟨λh=> ?_,λ⟨w,A⟩=> ?_⟩
 .rw [if_neg];rw [Bool.and_eq_true,aH,aH];rintro⟨G,H⟩;rcases h with h | h
  .exact h G
  .exact h H
 rw [if_pos (by rw [aL w,aL A];rfl)];have l1:=w.len;have l2:=A.len;have am:∀m∈a,∀n∈b,aok (mulM m n).atoms/\(mulM m n).atoms.length<=8:=λm hm n hn=>by
  obtain⟨G,H⟩:=w.aok hm;obtain⟨D,V⟩:=A.aok hn;refine⟨⟨?_,λk hk=> ?_⟩,?_⟩
  .have:=pairwise_mergeSort (le:=λx y:Int=>decide (x<=y)) (λa b c w A=>by simp at*;omega) (λa b=>by simp;omega) (m.atoms++n.atoms);exact this.imp (λh=>by simpa using h)
  .have:k∈m.atoms++n.atoms:=List.mem_mergeSort.1 hk;rw [mem_append]at this;rcases this with hk | hk
   .exact H.2 k hk
   .exact V.2 k hk
  .show(mR _).length<=8;rw [KU,length_append];omega
 have pm:∀m∈prods a b,aok m.atoms/\m.atoms.length<=8:=λm hm=>by
  unfold prods at hm;rw [mem_flatMap]at hm;obtain⟨x,K,hm⟩:=hm;rw [mem_map]at hm;obtain⟨y,hy,rfl⟩:=hm;exact am x K y hy
 let J:List aj->Int->Int->Prop:=λo i k=>Nf o/\(∀t,cf o t=cf (prods (a.take i.toNat) b++(b.take k.toNat).map (mulM ((a).getD (i).toNat default))) t%65536)/\(o.length:Int)<=12*i+k
 refine au (λ(y:Int×List aj×List aj×bn)=>y.2.1=a/\y.2.2.1=b/\0<=y.1/\y.1<=a.length/\J y.2.2.2.1 y.1 0) (λy=>(a.length-y.1).toNat)
  ⟨rfl,rfl,by simp,by simp,⟨⟨Pairwise.nil,λm hm=>absurd hm (by simp)⟩,λk=>by simp [cf,prods],by simp⟩⟩ ?_
 rintro⟨(i:Int),(E:List aj),(B:List aj),(o:List aj),⟨⟩⟩ hI;dsimp only at hI ⊢;obtain⟨rfl,rfl,h3,h4,v⟩:=hI;have a0:=v.2.2;have so:Sh o:=afc (l:=prods (E.take i.toNat) B) v.1 (λt=>by rw [v.2.1 t];simp) (λm hm=>by
  have:m∈prods E B:=by
   unfold prods at hm ⊢;rw [mem_flatMap]at hm ⊢;obtain⟨x,K,hm⟩:=hm;exact⟨x,mem_of_mem_take K,hm⟩
  have:=(pm m this).2;omega) ah
 simp (disch:=omega) only [RR,P o so,L o so];refine⟨λW=> ?_,λW=> ?_⟩
 .refine au (λ(y:Int×Int×List aj×List aj×bn)=>y.1=i/\y.2.2.1=E/\y.2.2.2.1=B/\0<=y.2.1/\y.2.1<=B.length/\J y.2.2.2.2.1 i y.2.1) (λy=>(B.length-y.2.1).toNat) ⟨rfl,rfl,rfl,by simp,by simp,v⟩ ?_;rintro⟨(g:Int),(k:Int),(f:List aj),(e:List aj),(X:List aj),⟨⟩⟩ hI;dsimp only at hI ⊢;obtain⟨rfl,rfl,rfl,G,H,hK⟩:=hI;have a1:=hK.2.2;by_cases D:k<e.length
  .have ma:((f).getD (g).toNat default)∈f:=dh h3 W;have R:((e).getD (k).toNat default)∈e:=dh G D;have ca:=w.nf.co _ ma;have cb:=A.nf.co _ R;obtain⟨q1,q2⟩:=w.aok ma;obtain⟨q3,q4⟩:=A.aok R;have hm:=EK (show 0<=((f).getD (g).toNat default).bH by omega) ah (show 0<=((e).getD (k).toNat default).bH by omega) ah;have S:=(am _ ma _ R).2;simp (disch:=omega) only [RR,T,N,U _ _ (show((f).getD (g).toNat default).atoms.length<100000000 by omega) (show((e).getD (k).toNat default).atoms.length<100000000 by omega) q2.1 q4.1,M _ _ (show((f).getD (g).toNat default).atoms.length<100000000 by omega) (show((e).getD (k).toNat default).atoms.length<100000000 by omega) q2.1 q4.1];have tk:prods (f.take g.toNat) e++(e.take (k+1).toNat).map (mulM ((f).getD (g).toNat default))=prods (f.take g.toNat) e++(e.take k.toNat).map (mulM ((f).getD (g).toNat default))++ [mulM ((f).getD (g).toNat default) ((e).getD (k).toNat default)]:=by
    rw [<-bq (d:=default) G D rfl,map_append,append_assoc];rfl
   refine⟨λ_=>⟨ah,ah,ah,ah,λV=> ?_,λV=>⟨⟨ah,ah,hK.1,λt=> ?_,ah⟩,ah⟩⟩,λh=>absurd D h⟩
   .have asw:(⟨((f).getD (g).toNat default).bH*((e).getD (k).toNat default).bH%65536,mR (((f).getD (g).toNat default).atoms++((e).getD (k).toNat default).atoms)⟩:aj).atoms.length<1000000000:=by have:(mR (((f).getD (g).toNat default).atoms++((e).getD (k).toNat default).atoms)).length<=8:=S;dsimp only;omega
    have cc:1<=(⟨((f).getD (g).toNat default).bH*((e).getD (k).toNat default).bH%65536,mR (((f).getD (g).toNat default).atoms++((e).getD (k).toNat default).atoms)⟩:aj).bH/\(⟨((f).getD (g).toNat default).bH*((e).getD (k).toNat default).bH%65536,mR (((f).getD (g).toNat default).atoms++((e).getD (k).toNat default).atoms)⟩:aj).bH<=65535:=by dsimp only;omega
    have O:=Q X _ ah hK.1 cc asw;refine⟨ah,ah,ah,ah,I X _ ah hK.1 cc asw,⟨ah,ah,O.nf,λt=> ?_,by have:=O.len;omega⟩,ah⟩;rw [O.cf t,bX,hK.2.1 t,tk,bX (prods _ _++_)];show(_+cf [mulM ((f).getD (g).toNat default) ((e).getD (k).toNat default)] t)%65536=_;omega
   .rw [tk,bX,hK.2.1 t];have:cf [mulM ((f).getD (g).toNat default) ((e).getD (k).toNat default)] t=0:=by
     rw [bV,iW];have:(mulM ((f).getD (g).toNat default) ((e).getD (k).toNat default)).bH=0:=by show((f).getD (g).toNat default).bH*((e).getD (k).toNat default).bH%65536=0;omega
     rw [this];split<;>rfl
    rw [this];omega
  .simp (disch:=omega) only [RR];refine⟨λh=>absurd h D,λ_=>⟨⟨ah,ah,hK.1,λt=> ?_,ah⟩,ah⟩⟩;rw [hK.2.1 t,take_of_length_le (show e.length<=k.toNat by omega),<-GZ,bq (d:=default) h3 W rfl];simp
 .have:=MQ v.1 (l:=prods E B) (λt=>by rw [v.2.1 t,take_of_length_le (show E.length<=i.toNat by omega)];simp) (λm hm=>(pm m hm).1);exact congrArg (λz:Bool×List aj=>(z.1,z.2,())) this
end Go.TX.F
namespace Go.TX.F
open Go Go.AE Go.TX List
variable{t:List Atom}{l:List aj}{n:Int}
def Bq{m:aj}(n:Int)(h:aok m.atoms):mulM m ⟨n,[]⟩=⟨m.bH*n%65536,m.atoms⟩:=by
 unfold mulM;rw [<-Ag (a:=m.atoms++ []) (o:=m.atoms) h.1 (by simp)]
def yF(a:List aj)(n:aj):prods a [n]=a.map (λm=>mulM m n):=by
 induction a with
 | nil=>rfl
 | cons x a b=>simp only [prods,flatMap_cons,map_cons,map_nil]at b ⊢;rw [b];rfl
def PE{t:List Int}:∀ {l:List aj},(∀m∈l,m.bH=0)->cf l t=0
 | [],_=>rfl
 | m::l,h=>by rw [bV,PE (λm hm=>h m (by simp [hm])),h m (by simp)];split<;>rfl
def cO:aQ []:=iF.2 ⟨⟨Pairwise.nil,λm hm=>absurd hm (by simp)⟩,by simp,λm hm=>absurd hm (by simp)⟩
def dA(n:Int):aQ (aW n):=by
 unfold aW;split
 .refine iF.2 ⟨⟨pairwise_singleton _ _,λm hm=> ?_⟩,by simp,λm hm=> ?_⟩
  .rw [mem_singleton]at hm;subst hm;assumption
  .rw [mem_singleton]at hm;subst hm;exact⟨by simp,Pairwise.nil,λk hk=>absurd hk (by simp)⟩
 .exact cO
def pX(n:Int):aQ (gZ n):=by
 unfold gZ;split
 .refine iF.2 ⟨⟨pairwise_singleton _ _,λm hm=> ?_⟩,by simp,λm hm=> ?_⟩
  .rw [mem_singleton]at hm;subst hm;dsimp only;omega
  .rw [mem_singleton]at hm;subst hm;exact⟨by simp,pairwise_singleton _ _,λk hk=>by rw [mem_singleton]at hk;omega⟩
 .exact cO
def anh{p1 f1 p0 f0 p4 f4 p3 f3}(G:Y11 p1 f1)(E:Y10 p0 f0)(M:Y13 p4 f4)(I:Y9 p3 f3)(a:List aj)(n:Int)(F:Sh a):VF.F (p1,f1,p0,f0,p4,f4,p3,f3,()) (a,n,()) (λy=>y=(kg a n,())):=by
 dsimp only [VF,gm];simp (disch:=omega) only [RR,G a F,I,aH,iE,bD,jF];unfold kg;refine⟨λh=> ?_,λ⟨j,v⟩=> ?_⟩
 .rw [if_neg];rw [Bool.and_eq_true,aH,bD];rintro⟨L,p⟩;rcases h with h | h
  .exact h L
  .exact h p
 rw [if_pos (by rw [aL j,Bool.true_and,bD];exact v)];have O:=j.len;have w:=j.nf.ss
 refine au (λ(y:Int×ql)=>y.1=n/\y.2.2.1=a/\0<=y.2.1/\y.2.1<=a.length/\Nf y.2.2.2.1/\(y.2.2.2.1.length:Int)<=y.2.1/\(∀t,cf y.2.2.2.1 t=cf ((a.take y.2.1.toNat).map (λm=>⟨m.bH*n%65536,m.atoms⟩)) t%65536)
   /\(∀x∈y.2.2.2.1,x.atoms.length<=4/\(y.2.1<a.length->lt x ((a).getD (y.2.1).toNat default)))) (λy=>(a.length-y.2.1).toNat)
  ⟨rfl,rfl,by simp,by simp,⟨Pairwise.nil,λm hm=>absurd hm (by simp)⟩,by simp,λt=>by simp [cf],λx b=>absurd b (by simp)⟩ ?_
 rintro⟨(f:Int),(i:Int),(c:List aj),(o:List aj),⟨⟩⟩ hI;dsimp only at hI ⊢;obtain⟨rfl,rfl,C,Q,q,N,r,k⟩:=hI;have J:Sh o:=⟨ah,λm hm=>by have:=(k m hm).1;omega⟩;by_cases l:i<c.length
 .have ma:((c).getD (i).toNat default)∈c:=dh C l;have P:=j.nf.co _ ma;have H:=j.aok ma;have hm:=EK (show 0<=((c).getD (i).toNat default).bH by omega) ah v.1 v.2;have A:i+1<c.length->lt ((c).getD (i).toNat default) ((c).getD (i+1).toNat default):=λh=>by
   have:=(dD (d:=default) (R:=lt) fH).1 w (i+1) ah h;rw [show i+1-1=i by omega]at this;exact this
  have D:(c.take (i+1).toNat).map (λm:aj=>(⟨m.bH*f%65536,m.atoms⟩:aj))=(c.take i.toNat).map (λm:aj=>(⟨m.bH*f%65536,m.atoms⟩:aj))++ [⟨((c).getD (i).toNat default).bH*f%65536,((c).getD (i).toNat default).atoms⟩]:=by
   rw [<-bq (d:=default) C l rfl,map_append];rfl
  simp (disch:=omega) only [RR,E];refine⟨λ_=>⟨ah,ah,λg=>⟨ah,ah,by simp only [length_cons,length_nil];omega,⟨ah,ah,?_,?_,λt=> ?_,λx b=> ?_⟩,ah⟩,λg=>⟨⟨ah,ah,q,ah,λt=> ?_,λx b=>⟨(k x b).1,λp=>fH ((k x b).2 l) (A p)⟩⟩,ah⟩⟩,λh=>absurd l h⟩
  .refine⟨?_,λx b=> ?_⟩
   .rw [pairwise_append];exact⟨q.ss,pairwise_singleton _ _,λx b z s=>by rw [mem_singleton]at s;subst s;exact(k x b).2 l⟩
   .rw [mem_append,mem_singleton]at b;rcases b with b | rfl
    .exact q.co x b
    .dsimp only;omega
  .rw [length_append];simp only [length_cons,length_nil];omega
  .rw [D,bX,bX,r t,bV,iW];dsimp only;by_cases u:((c).getD (i).toNat default).atoms=t
   .rw [if_pos u];have z:cf o t=0:=jv λx b e=>((k x b).2 l).ne (e.trans u.symm)
    rw [r t]at z;omega
   .rw [if_neg u];omega
  .rw [mem_append,mem_singleton]at b;rcases b with b | rfl
   .exact⟨(k x b).1,λp=>fH ((k x b).2 l) (A p)⟩
   .exact⟨H.1,λp=>A p⟩
  .rw [D,bX,r t,bV,iW];dsimp only;have:((c).getD (i).toNat default).bH*f%65536=0:=by omega
   rw [this];split<;>omega
 .simp (disch:=omega) only [RR,M o J];refine⟨λh=>absurd h l,λ_=> ?_⟩;have eq:∀t,cf o t=cf (prods c (aW f)) t%65536:=λt=>by
   rw [r t,take_of_length_le ah];unfold aW;by_cases hn:1<=f/\f<=65535
   .rw [if_pos hn,yF]
    congr 2
    exact map_congr_left λm hm=>(Bq f (j.aok hm).2).symm
   .rw [if_neg hn];have s:f=0:=by omega
    have B:cf (c.map (λm=>(⟨m.bH*f%65536,m.atoms⟩:aj))) t=0:=PE λm hm=>by
     rw [mem_map]at hm;obtain⟨x,_,rfl⟩:=hm;dsimp only;rw [s];simp
    rw [B,show prods c []=[] by simp [prods]];rfl
  have K:MO o:=⟨ah,λm hm=>(k m hm).1⟩;have:=MQ q eq (λm hm=>by
   unfold aW at hm;split at hm
   .rw [yF,mem_map]at hm;obtain⟨x,b,rfl⟩:=hm;rw [Bq f (j.aok b).2];exact(j.aok b).2
   .rw [show prods c []=[] by simp [prods]]at hm;exact absurd hm (by simp))
  unfold qA;rw [if_pos (by rw [aL j,aL (dA f)];rfl),<-congrArg Prod.snd this];dsimp only;rw [aL K];rfl
def afd(l:List aj):(Nf (nf l)/\∀k,cf (nf l) k=cf l k%65536)\/nf l=[]:=by
 by_cases a:∃o,Nf o/\∀k,cf o k=cf l k%65536
 .obtain⟨o,h1,h2⟩:=a;rw [ZJ h1 h2];exact Or.inl ⟨h1,h2⟩
 .right;unfold nf;rw [dif_neg a]
def afe(h:bg l n):bg (nf l) n:=by
 rcases afd l with⟨a,c⟩ | a
 .refine dx.2 λm hm k hk=> ?_
  obtain⟨d,e,b⟩:=a.from c hm;exact dx.1 h d e k (b▸hk)
 .rw [a];exact dx.2 λm hm=>absurd hm (by simp)
def jQ(n:Int):bg [] n:=dx.2 λm hm=>absurd hm (by simp)
def ZL(l:List aj):aQ (tT l).2:=by
 unfold tT;by_cases h:aQ (nf l)
 .rw [aL h];exact h
 .rw [aV h];exact cO
def G8(h:bg l n):bg (tT l).2 n:=by
 unfold tT;dsimp only;split
 .exact afe h
 .exact jQ n
def aa7{a b:List aj}(d:bg a n)(c:bg b n):bg (a++b) n:=dx.2 λm hm k hk=>by
 rw [mem_append]at hm;rcases hm with hm | hm
 .exact dx.1 d m hm k hk
 .exact dx.1 c m hm k hk
def PG{a b:List aj}(f:bg a n)(d:bg b n):bg (prods a b) n:=dx.2 λm hm k hk=>by
 unfold prods at hm;rw [mem_flatMap]at hm;obtain⟨x,c,hm⟩:=hm;rw [mem_map]at hm;obtain⟨y,e,rfl⟩:=hm;have:k∈x.atoms++y.atoms:=List.mem_mergeSort.1 hk;rw [mem_append]at this;rcases this with hk | hk
 .exact dx.1 f x c k hk
 .exact dx.1 d y e k hk
def ZM(a b:List aj):aQ (pV a b).2:=by unfold pV;split;exact ZL _;exact cO
def ajb(a b:List aj):aQ (qA a b).2:=by unfold qA;split;exact ZL _;exact cO
def G9{a b:List aj}(d:bg a n)(c:bg b n):bg (pV a b).2 n:=by unfold pV;split;exact G8 (aa7 d c);exact jQ n
def Hg{a b:List aj}(d:bg a n)(c:bg b n):bg (qA a b).2 n:=by unfold qA;split;exact G8 (PG d c);exact jQ n
def wW(c n:Int):bg (aW c) n:=dx.2 λm hm k hk=>by
 unfold aW at hm;split at hm
 .rw [mem_singleton]at hm;subst hm;exact absurd hk (by simp)
 .exact absurd hm (by simp)
def tV{k n:Int}(h:k<n):bg (gZ k) n:=dx.2 λm hm j a=>by
 unfold gZ at hm;split at hm
 .rw [mem_singleton]at hm;subst hm;rw [mem_singleton]at a;omega
 .exact absurd hm (by simp)
def aI.sh(h:aI t):ShT t:=⟨by have:=h.2;omega,λa c=>by
 obtain⟨i,b,rfl⟩:=getElem_of_mem c;have:=(h.1 i ah ah).1;rw [show(i:Int).toNat=i from rfl,getD_lt b]at this;unfold jG at this;split at this
 .exact⟨this.2.1.sh,this.2.2.1.sh⟩
 .rw [ShA,this.1.1,this.1.2];exact⟨pW,pW⟩⟩
def EM{a:Atom}(h:aI t)(q:t.length<200):aI (bC t a).1/\t.length<=(bC t a).1.length/\(bC t a).1.length<=t.length+1/\(jG a t.length->0<=(bC t a).2):=by
 have f:=kR t a;unfold bC;split
 .rename_i h3;exact⟨h,Nat.le_refl _,Nat.le_succ _,λ_=>h3⟩
 .rename_i h3;split
  .rename_i b;exact⟨h,Nat.le_refl _,Nat.le_succ _,λc=>by rcases b with b | b;exact absurd c b;omega⟩
  .rename_i b;have c:jG a t.length:=Classical.byContradiction λc=>b (Or.inl c)
   refine⟨o7.2 ⟨?_,by rw [length_append];simp only [length_cons,length_nil];omega⟩,by rw [length_append];exact Nat.le_add_right _ _,by rw [length_append];exact Nat.le_refl _,λ_=>by dsimp only;omega⟩;have p:((t++ [a]).length:Int)=t.length+1:=by rw [length_append];rfl
   have l:∀i:Int,0<=i->i<t.length->(t++ [a]).getD i.toNat default=t.getD i.toNat default:=λi k n=>by
    rw [getD_lt (show i.toNat< (t++ [a]).length by omega),getD_lt (show i.toNat<t.length by omega),getElem_append_left]
   have o:(t++ [a]).getD ((t.length:Int)).toNat default=a:=by
    rw [getD_lt (show((t.length:Int)).toNat< (t++ [a]).length by omega)];simp
   rw [p];intro i k n;dsimp only;by_cases m:i<t.length
   .rw [l i k m];have:=(o7.1 h).1 i k m;exact⟨this.1,λj d e=>by dsimp only;rw [l j d ah];exact this.2 j d e⟩
   .have:i=t.length:=by omega
    subst this;rw [o];refine⟨c,λj d e=> ?_⟩;dsimp only;rw [l j d e];rcases f with⟨_,g⟩ | ⟨g,_⟩
    .exact g j d e
    .exact absurd g h3
end Go.TX.F
namespace Go.TX.F
open Go Go.AE Go.TX List
def By(b:List Int):Prop:=∀z∈b,0<=z/\z<=255
structure Bt(b:List Int):Prop where
 len:b.length<=2000
 rng:By b
def By.at{b:List Int}(h:By b)(n:Nat):0<=b.getD n default/\b.getD n default<=255:=by
 by_cases a:n<b.length
 .rw [getD_lt a];exact h _ (getElem_mem _)
 .simp only [getD,getElem?_eq_none (by omega:b.length<=n)];decide
def ani(b:List Int)(a:By b)(c:b.length<1000000000):R9.F () (b,()) (λy=>Bt y.1/\y.2.1=0):=by
 dsimp only [R9,gm];simp (disch:=omega) only [RR];refine⟨λh=>⟨ah,ah,ah,⟨?_,?_⟩⟩,λh=>⟨ah,a⟩⟩
 .rw [length_drop,length_take];omega
 .intro z hz;exact a z (mem_of_mem_take (mem_of_mem_drop hz))
def anj{a b:Int}(g:0<=a)(d:a<4611686018427387904)(h:0<=b)(f:b<4611686018427387904):0<=ku .xor .i64 a b/\ku .xor .i64 a b<4611686018427387904:=by
 have e:((2^IntKind.i64.bits:Nat):Int)=18446744073709551616:=by decide
 have c:ku .xor .i64 a b=((a.toNat^^^b.toNat:Nat):Int):=by
  unfold ku;dsimp only;rw [BitVec.toNat_xor,BitVec.toNat_ofInt,BitVec.toNat_ofInt,e,show a%18446744073709551616=a by omega,show b%18446744073709551616=b by omega];have:=Nat.xor_lt_two_pow (show a.toNat<2^62 by omega) (show b.toNat<2^62 by omega);rw [w64 ah ah]
 rw [c];have:=Nat.xor_lt_two_pow (show a.toNat<2^62 by omega) (show b.toNat<2^62 by omega);omega
def EN{a b:Int}(h:0<=a):a.tmod b=a%b:=Int.tmod_eq_emod_of_nonneg h
def ZN{a b:Int}(h:0<=a):a.tdiv b=a/b:=Int.tdiv_eq_ediv_of_nonneg h
def Pk(n:Int)(b:List Int)(p:Int)(y:Int×l7):Prop:=y.2.1=b/\y.2.2.1=p+1/\0<=y.1/\(y.1<n\/y.1=0)
def ank(n:Int)(b:List Int)(p:Int)(c:Bt b)(f:0<=p)(z:p<1000000000):Sb.F () (n,b,p,()) (λy=>Pk n b p y):=by
 have A:=c.1;have d:∀k:Nat,IntKind.i64.wrap (b.getD k default)=b.getD k default:=λk=>by have:=c.2.at k;exact w64 ah ah
 dsimp only [Sb,gm];simp (disch:=omega) only [RR,d];refine⟨λh=>⟨rfl,rfl,ah,Or.inr rfl⟩,λ⟨x,e⟩=> ?_⟩;have l:p+1-1=p:=by omega
 rw [l];refine⟨λh=>⟨ah,ah,ah,?_⟩,λh=> ?_⟩
 .have:=c.2.at p.toNat;rw [EN this.1];exact⟨rfl,rfl,Int.emod_nonneg _ ah,Or.inl (Int.emod_lt_of_pos _ ah)⟩
 .have hb0:(0:Int)<b.length:=by omega
  have t:=Int.emod_nonneg p (show(b.length:Int)≠0 by omega);have s:=Int.emod_lt_of_pos p hb0;have k3:=Int.emod_nonneg (p*7+3) (show(b.length:Int)≠0 by omega);have m:=Int.emod_lt_of_pos (p*7+3) hb0;have o:0<=p/b.length:=Int.ediv_nonneg f ah;have j:p/b.length<=p:=Int.ediv_le_self _ f;simp (disch:=omega) only [w64,EN,ZN];have r:=c.2.at (p%b.length).toNat;have i:=c.2.at ((p*7+3)%b.length).toNat;generalize (b.getD (p%b.length).toNat default)=u at r ⊢;generalize (b.getD ((p*7+3)%b.length).toNat default)=v at i ⊢;generalize p/b.length=w at o j ⊢;simp (disch:=omega) only [w64,EN,ZN];have q:=anj (a:=u*131+v*1117+p*29+w*53) (b:=(u*131+v*1117+p*29+w*53)/64) ah ah ah ah;rw [Xq];generalize ku .xor .i64 (u*131+v*1117+p*29+w*53) ((u*131+v*1117+p*29+w*53)/64)=g at q ⊢;rw [EN q.1];exact⟨e,t,s,e,k3,m,e,ah,ah,rfl,rfl,Int.emod_nonneg _ ah,Or.inl (Int.emod_lt_of_pos _ ah)⟩
abbrev Y38(a : Int × List Int × Int × Unit -> Bool)(c : Int × List Int × Int × Unit -> Int × List Int × Int × Unit) : Prop := ∀ n b p, Bt b -> 0 <= p -> p < 1000000000 -> a (n, b, p, ()) = true /\ Pk n b p (c (n, b, p, ()))
def anl{p1 f1}(e:Y38 p1 f1)(n:Int)(b:List Int)(p:Int)(a:Bt b)(d:0<=p)(c:p<1000000000):Sc.F (p1,f1,()) (n,b,p,()) (λy=>y.2.1=b/\y.2.2.1=p+1):=by
 obtain⟨f,g,_⟩:=(e n b p a d c).2;dsimp only [Sc,gm];simp (disch:=omega) only [RR,(e n b p a d c).1,f,g]
def Wd(b:List Int)(p:Int)(y:Int×l7):Prop:=y.2.1=b/\p<=y.2.2.1/\y.2.2.1<=p+3/\(0<=y.1/\y.1<=65535)
def anm{p1 f1}(c:Y38 p1 f1)(b:List Int)(p:Int)(a:Bt b)(e:0<=p)(B:p<900000000):Sk.F (p1,f1,()) (b,p,()) (λy=>Wd b p y):=by
 obtain⟨l,t,D,v⟩:=(c 4 b p a e ah).2;have g:∀n,p1 (n,b,p+1,())=true:=λn=>(c n b (p+1) a ah ah).1
 have q:∀n,p1 (n,b,p+1+1,())=true:=λn=>(c n b (p+1+1) a ah ah).1
 obtain⟨r,s,o,x⟩:=(c 9 b (p+1) a ah ah).2;obtain⟨h,m,F,A⟩:=(c 70 b (p+1) a ah ah).2;obtain⟨i,k,u,w⟩:=(c 256 b (p+1) a ah ah).2;obtain⟨j,f,C,E⟩:=(c 256 b (p+1+1) a ah ah).2;dsimp only [Sk,gm];simp (disch:=omega) only [RR,(c 4 b p a e ah).1,g,q,l,t,r,s,h,m,i,k,j,f,length_cons,length_nil];refine⟨λ_=>⟨ah,ah,ah,ah,rfl,by dsimp only;omega,by dsimp only;omega,?_⟩,λ_=>⟨λ_=>⟨rfl,by dsimp only;omega,by dsimp only;omega,by dsimp only;omega⟩,λ_=>⟨rfl,by dsimp only;omega,by dsimp only;omega,?_⟩⟩⟩
 .dsimp only;have:=dh (d:=default) (xs:=[(0:Int),1,2,3,65535,32768,255,256,65534]) o (by simp only [length_cons,length_nil];omega);generalize getD [(0:Int),1,2,3,65535,32768,255,256,65534] _ default=z at this ⊢;simp at this;omega
 .dsimp only;omega
abbrev Y39(c : Int × List Int × Int × Unit -> Bool)(a : Int × List Int × Int × Unit -> Bool × List Int × Int × Unit) : Prop := ∀ n b p, Bt b -> 0 <= p -> p < 1000000000 -> c (n, b, p, ()) = true /\ (a (n, b, p, ())).2.1 = b /\ (a (n, b, p, ())).2.2.1 = p + 1
abbrev Y40(c : List Int × Int × Unit -> Bool)(a : List Int × Int × Unit -> Int × List Int × Int × Unit) : Prop := ∀ b p, Bt b -> 0 <= p -> p < 900000000 -> c (b, p, ()) = true /\ Wd b p (a (b, p, ()))
abbrev Y41(c : List Int × Unit -> Bool)(a : List Int × Unit -> List Int × Int × Unit) : Prop := ∀ b, By b -> b.length < 1000000000 -> c (b, ()) = true /\ Bt (a (b, ())).1 /\ (a (b, ())).2.1 = 0
structure avx(n:Int)(b:List Int)(p:Int)(y:List Int×Int×bn):Prop where
 b:y.1=b
 lo:p<=y.2.1
 hi:y.2.1<=p+200
 ok:aQ y.2.2.1
 un:bg y.2.2.1 n
def Xt(n:Int)(t:List Atom):Prop:=(t.length:Int)=n/\All n (λi=>((t).getD (i).toNat default)=⟨1,i,[],[]⟩)
def ano{p2 f2}(b:Y28 p2 f2):Vj.F (p2,f2,()) () (λy=>Xt 4 y.1/\y.2.1.length=4/\∀p∈y.2.1,Sh p):=by
 dsimp only [Vj,gm];simp (disch:=omega) only [RR,b];refine au (λ(y:Int×List (List aj)×l8)=>0<=y.1/\y.1<=4/\(y.2.1.length:Int)=y.1/\(∀p∈y.2.1,Sh p)/\Xt y.1 y.2.2.1) (λy=>(4-y.1).toNat) ⟨by simp,by simp,by simp,by simp,by simp,All.zero⟩ ?_;rintro⟨(i:Int),(q:List (List aj)),(t:List Atom),⟨⟩⟩ hI;dsimp only at hI ⊢;obtain⟨o,n,m,d,e,a⟩:=hI;simp (disch:=omega) only [RR,b,length_cons,length_nil];refine⟨λh=>⟨ah,ah,⟨ah,ah,by rw [length_append];simp only [length_cons,length_nil];omega,λp k=>(mem_append.1 k).elim (d p) (λg=>by rw [mem_singleton.1 g];exact(pX _).sh),by rw [length_append];simp only [length_cons,length_nil];omega,λj f l=> ?_⟩,ah⟩,λh=> ?_⟩
 .dsimp only;have r:((t++ [(⟨1,i,[],[]⟩:Atom)]).length:Int)=t.length+1:=by rw [length_append];rfl
  by_cases c:j<i
  .have:=a j f c;dsimp only at this;rw [getD_lt (show j.toNat<t.length by omega)]at this;rw [getD_lt (show j.toNat< (t++ [(⟨1,i,[],[]⟩:Atom)]).length by omega),getElem_append_left (show j.toNat<t.length by omega)];exact this
  .have:j=i:=by omega
   subst this;rw [getD_lt (show j.toNat< (t++ [(⟨1,j,[],[]⟩:Atom)]).length by omega),getElem_append_right ah];simp
 .rw [show i=4 by omega]at e a;exact⟨⟨e,a⟩,ah,d⟩
structure avH(b:List Int)(p n:Int)(y:List Int×Int×l8):Prop where
 b:y.1=b
 lo:p<=y.2.1
 hi:y.2.1<=p+10000
 sh:ShT y.2.2.1
 ne:0<y.2.2.1.length
 le:(y.2.2.1.length:Int)<=n
abbrev Y44(b : Unit -> Bool)(a : Unit -> List Atom × List (List aj) × Unit) : Prop := b () = true /\ (Xt 4 (a ()).1 /\ (a ()).2.1.length = 4 /\ ∀ p ∈ (a ()).2.1, Sh p)
end Go.TX.F
